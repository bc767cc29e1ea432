/- The machine's side of a law,written by a program of this session for this claim. -/
import Derived.Test.YtodlnnoekccmmaaGreatDoorZQq
import Derived.Test.YtodlnnoekccmmaaGreatDoorZQFnExactSourceOfx0
import Derived.Test.YtodlnnoekccmmaaGreatDoorZQFnExactSourceOfx9
import Derived.Test.YtodlnnoekccmmaaGreatDoorZQFnExactSourceOfx17
namespace Go.Proofs.YtodlnnoekccmmaaGreatDoor.QFnExactSourceOf
open Go.Proofs.YtodlnnoekccmmaaGreatDoor.Qq
open Go.RowKit Go.Proofs.YtodlnnoekccmmaaGreatDoor.LibX Go.Proofs.YtodlnnoekccmmaaGreatDoor.LibE Go.Proofs.YtodlnnoekccmmaaGreatDoorW.PrintWords Go.Proofs.YtodlnnoekccmmaaGreatDoorW.PrintLast Go.Proofs.YtodlnnoekccmmaaGreatDoorW.PrintMore
attribute [local go_sem] max2_int min2_int max_two min_two max_three min_three max_four min_four   -- for this text's walks alone
set_option maxHeartbeats 8000000
set_option maxRecDepth 100000
set_option linter.unusedVariables false
set_option linter.unusedSimpArgs false
mutual
def impl_SourceOf.j0:Nat → ByteArray → Int → Bool → Option (ByteArray × Bool)
 | 0,_,_,_ => none
 | k + 1,x0,x4,x18 => if x18 = true then (some ((⟨#[]⟩:ByteArray),false)) else (impl_SourceOf.l0 k x0 (([]:List ByteArray)) x4 0)
def impl_SourceOf.l0:Nat → ByteArray → List ByteArray → Int → Int → Option (ByteArray × Bool)
 | 0,_,_,_,_ => none
 | k + 1,x0,x5,x20,x21 => if x21 < x20 then (if x21 > 0 then ((impl_decimal.f x21).bind fun t541 => (if 12 + t541.size ≤ 9223372036854775807 then (if ((⟨#[115,101,99,116,105,111,110,32,98,97,110,107]⟩:ByteArray) ++ t541).size + 10 ≤ 9223372036854775807 then ((impl_decimal.f x21).bind fun t542 => (if (((⟨#[115,101,99,116,105,111,110,32,98,97,110,107]⟩:ByteArray) ++ t541) ++ (⟨#[44,114,111,109,120,44,50,53,54,44]⟩:ByteArray)).size + t542.size ≤ 9223372036854775807 then ((impl_Listed.f k x0 x21).bind fun bt543 => (if x5.length < 8796093022208 then ((some (x5 ++ [(((⟨#[115,101,99,116,105,111,110,32,98,97,110,107]⟩:ByteArray) ++ t541) ++ (⟨#[44,114,111,109,120,44,50,53,54,44]⟩:ByteArray)) ++ t542]:List ByteArray)).bind fun y547 => (if y547.length + bt543.1.length < 8796093022208 then (impl_SourceOf.l0 k x0 (y547 ++ bt543.1) x20 (wrap64 (x21 + 1))) else (none))) else (none))) else (none))) else (none)) else (none))) else ((impl_Listed.f k x0 x21).bind fun bt553 => (if x5.length < 8796093022208 then ((some (x5 ++ [(⟨#[115,101,99,116,105,111,110,32,98,97,110,107,48,44,114,111,109,48,44,48]⟩:ByteArray)]:List ByteArray)).bind fun y557 => (if y557.length + bt553.1.length < 8796093022208 then (impl_SourceOf.l0 k x0 (y557 ++ bt553.1) x20 (wrap64 (x21 + 1))) else (none))) else (none)))) else ((strings_Join.f x5 (⟨#[10]⟩:ByteArray)).bind fun t563 => (if t563.size + 1 ≤ 9223372036854775807 then (if (x5.length:Int) > 1500 then (some ((⟨#[]⟩:ByteArray),false)) else (if ((t563 ++ (⟨#[10]⟩:ByteArray)).size:Int) > 40000 then (some ((⟨#[]⟩:ByteArray),false)) else (some (t563 ++ (⟨#[10]⟩:ByteArray),true)))) else (none)))
end
def impl_SourceOf.f (k:Nat) (a0:ByteArray):Option (ByteArray × Bool):=(impl_banksOf.f a0 2).bind fun t537 => (if t537 = 0 then (impl_SourceOf.j0 k a0 t537 true) else (impl_SourceOf.j0 k a0 t537 (decide (t537 > 12))))
theorem impl_SourceOf.mono_l:∀ k,(∀ y0 y1 y2,LeO (impl_SourceOf.j0 k y0 y1 y2) (impl_SourceOf.j0 (k + 1) y0 y1 y2)) ∧ (∀ y0 y1 y2 y3,LeO (impl_SourceOf.l0 k y0 y1 y2 y3) (impl_SourceOf.l0 (k + 1) y0 y1 y2 y3))
 | 0 => ⟨fun _ _ _ r h => by simp [impl_SourceOf.j0] at h,fun _ _ _ _ r h => by simp [impl_SourceOf.l0] at h⟩
 | k + 1 => by
  obtain ⟨ih0,ih1⟩:=impl_SourceOf.mono_l k
  refine ⟨?_,?_⟩
  ·intro y0 y1 y2
   unfold impl_SourceOf.j0
   repeat' first
   | (with_reducible first | exact ih0 _ _ _ | exact ih1 _ _ _ _ | exact impl_Listed.mono _ _ _ | exact LeO.refl _ | exact LeO.none _ | refine LeO.ite ?_ ?_ | refine LeO.bind ?_ (fun _ => ?_))
   | exact ih0 _ _ _
   | exact ih1 _ _ _ _
   | exact impl_Listed.mono _ _ _
   | exact LeO.none _
   | refine LeO.ite ?_ ?_
   | refine LeO.bind ?_ (fun _ => ?_)
  intro y0 y1 y2 y3
  unfold impl_SourceOf.l0
  repeat' first
  | (with_reducible first | exact ih0 _ _ _ | exact ih1 _ _ _ _ | exact impl_Listed.mono _ _ _ | exact LeO.refl _ | exact LeO.none _ | refine LeO.ite ?_ ?_ | refine LeO.bind ?_ (fun _ => ?_))
  | exact ih0 _ _ _
  | exact ih1 _ _ _ _
  | exact impl_Listed.mono _ _ _
  | exact LeO.none _
  | refine LeO.ite ?_ ?_
  | refine LeO.bind ?_ (fun _ => ?_)
theorem impl_SourceOf.mono:∀ a0 k,LeO (impl_SourceOf.f k a0) (impl_SourceOf.f (k + 1) a0):=by
 intro a0 k
 obtain ⟨ih0,ih1⟩:=impl_SourceOf.mono_l k
 unfold impl_SourceOf.f
 repeat' first
   | (with_reducible first | exact ih0 _ _ _ | exact ih1 _ _ _ _ | exact impl_Listed.mono _ _ _ | exact LeO.refl _ | exact LeO.none _ | refine LeO.ite ?_ ?_ | refine LeO.bind ?_ (fun _ => ?_))
   | exact ih0 _ _ _
   | exact ih1 _ _ _ _
   | exact impl_Listed.mono _ _ _
   | exact LeO.none _
   | refine LeO.ite ?_ ?_
   | refine LeO.bind ?_ (fun _ => ?_)
theorem impl_SourceOf.calls (k:Nat) (a0:ByteArray) (r1:ByteArray) (r2:Bool) (w:World) (h:impl_SourceOf.f k a0 = some (r1,r2)) (hG:Go.Proofs.YtodlnnoekccmmaaGreatDoor.LibW.GL w:=by first | exact hG | exact hG.below q4_ | exact hG.drewN _) :
  Calls Tryz.prog 42 #[.string a0] w fun e w' => e = .returned (.tuple #[.string r1,.bool r2]) ∧ Below w.heap.size w w':=by
 have HB:=Aside0.mk (Below.refl w.heap.size w)
 have H:((impl_banksOf.f a0 2).bind fun t537 => (if t537 = 0 then (impl_SourceOf.j0 k a0 t537 true) else (impl_SourceOf.j0 k a0 t537 (decide (t537 > 12))))) = some (r1,r2):=h
 clear h
 replace H:=Option.bind_eq_some_iff.mp H
 obtain ⟨t537,A20,H⟩:=H
 have A2:=Aside0.mk A20
 clear A20
 have HC3:=Aside0.mk H
 clear H
 go_enter Tryz.func42,Tryz.ntmps42
 go_upto_region 2 with (first | ((with_reducible refine gate_callee (f:=78) rfl ?_);refine goesL_ (some 12) rfl rfl Tryz.func78 (by kernel_rfl) rfl #[.string a0,.int .i64 2] rfl q45_ ?_;(with_reducible refine (impl_banksOf.calls a0 2 t537 _ A2.out).mono ?_);rintro e w' ⟨rfl,⟨nd,rfl⟩⟩;refine ⟨_,rfl,?_⟩))
 (try simp only [Act.put,List.setIfInBounds_toArray,List.set_cons_zero,List.set_cons_succ])
 go_cut [18] (fun v18 wc => ∃ (kq:Nat) (x18_2:Bool),v18 = .bool x18_2 ∧ Aside0 (impl_SourceOf.j0 kq a0 t537 x18_2 = some (r1,r2)) ∧ Aside0 (kq ≤ k) ∧ Aside0 (Below w.heap.size w wc))
 case first =>
  have H:=HC3.out
  clear HC3
  by_cases c4:t537 = 0
  ·rw [if_pos c4] at H
   have c4b0:(t537 == 0) = true:=beq_iff_eq.mpr c4
   have c4b1:(t537 != 0) = false:=bne_eq_false_iff_eq.mpr c4
   clear c4
   (first | rw [c4b0] | (simp only [i64_w,i32_w];rw [c4b0]) | skip)
   have H':=Aside0.mk H
   clear H
   go_wp2
   go_meet
   case rel => exact ⟨_,(true),q65_,H',⟨q96_⟩,⟨q46_⟩⟩
  rw [if_neg c4] at H
  have c4b0:(t537 == 0) = false:=beq_eq_false_iff_ne.mpr c4
  have c4b1:(t537 != 0) = true:=bne_iff_ne.mpr c4
  (first | rw [c4b0] | (simp only [i64_w,i32_w];rw [c4b0]) | skip)
  have H':=Aside0.mk H
  clear H
  go_wp2
  go_meet
  case rel => exact ⟨_,(decide (t537 > 12)),q65_,H',⟨q96_⟩,⟨q46_⟩⟩
 clear HC3
 try clear p2
 try clear c4
 try clear c4b0
 try clear c4b1
 obtain ⟨kq,x18_2,rfl,HA,HJ2,HB⟩:=hcut
 cases kq with
 | zero => exact absurd HA.out (by simp [impl_SourceOf.j0])
 | succ kj2 =>
  have H:=HA.out
  clear HA
  simp only [impl_SourceOf.j0] at H
  by_cases c5:x18_2 = true
  ·subst c5
   replace H:(some ((⟨#[]⟩:ByteArray),false)) = some (r1,r2):=by rw [if_pos rfl] at H;exact H
   simp only [Option.some.injEq,Prod.mk.injEq] at H
   obtain ⟨rfl,rfl⟩:=H
   go_wp2
   go_ret2
   exact ⟨q49_,q46_⟩
  replace c5:=Bool.eq_false_iff.mpr c5
  subst c5
  replace H:(impl_SourceOf.l0 kj2 a0 (([]:List ByteArray)) t537 0) = some (r1,r2):=by rw [if_neg (show ¬ (false = true) by decide)] at H;exact H
  obtain ⟨y538,hy538⟩:∃ y_:List ByteArray,y_ = (([]:List ByteArray)):=⟨_,rfl⟩
  replace H:(impl_SourceOf.l0 kj2 a0 y538 t537 0) = some (r1,r2):=by first | (rw [hy538];with_reducible exact H) | (have H2_:=(Option.bind_some _ _).symm.trans H;rw [hy538];with_reducible exact H2_) | (have H2_:=(Option.bind_some _ _).symm.trans H;with_reducible exact H2_) | with_reducible exact H | (rw [hy538];exact H) | exact H
  have Ny538:=Aside0.mk hy538
  clear hy538
  have H':=Aside0.mk H
  clear H
  go_wp2_with (first | ((with_reducible refine gate_dst (N:=19) rfl ?_);(try (refine gate_guard (by rfl) ?_;dsimp only));refine Kd.R_lit Kd.string _ 9 ?hg (N:=19) ?hd (xs:=([]:List ByteArray)) (inner:=[]) (ok:=fun _ => True) (okp:=fun _ => True) ?hr ?hp (fun _ hk => hk) trivial (Below.refl _ _) (Nat.le_refl _) (by simp) ?_;(case hd => rfl);(case hg => rfl);(case hr => exact q105_);(case hp => exact (Reps.none _ _));intro v539 w6 ho7 hb hg_ hnew_;clear hg_ hnew_;(first | rw [← Ny538.out] at ho7 | (simp only [Int.reduceToNat] at ho7;rw [← Ny538.out] at ho7));have n0_:=Aside0.mk (Kd.R_lower ho7 (below_size q46_));have n1_:=Aside0.mk (below_step q46_ hb);clear HB;have HO540:=n0_;have HB:=n1_;clear n0_ n1_;clear hb ho7))
  go_loopg [5,21] kj2 (fun kq v5 v21 w' => ∃ (x5_2:List ByteArray) (x21_2:Int),v21 = .int .i64 x21_2 ∧ Aside0 (impl_SourceOf.l0 kq a0 x5_2 t537 x21_2 = some (r1,r2)) ∧ Aside0 (kq ≤ kj2) ∧ Aside0 (Kd.R Kd.string 9 w' w.heap.size (fun _ => True) v5 x5_2) ∧ Aside0 (Below w.heap.size w w'))
  case atStart => exact ⟨(y538),(0),q65_,H',⟨Nat.le_refl _⟩,⟨by (with_reducible repeat (first | apply Kd.R_alloc | apply Kd.R_drewN | apply Kd.R_drew));exact HO540.out⟩,⟨q46_⟩⟩
  clear H'
  try clear p2 p2
  try clear c4
  try clear c4b0
  try clear c4b1
  try clear c5
  try clear p6
  try clear c7
  obtain ⟨x5_2,x21_2,rfl,HA,HK2,HO_5,HB⟩:=hrel
  cases gk with
  | zero => exact absurd HA.out (by simp [impl_SourceOf.l0])
  | succ k2 =>
   have H:=HA.out
   clear HA
   simp only [impl_SourceOf.l0] at H
   by_cases c8:x21_2 < t537
   ·rw [if_pos c8] at H
    have c8b0:decide (x21_2 < t537) = true:=decide_eq_true c8
    clear c8
    by_cases c9:x21_2 > 0
    ·rw [if_pos c9] at H
     have c9b0:decide (0 < x21_2) = true:=decide_eq_true c9
     clear c9
     replace H:=Option.bind_eq_some_iff.mp H
     obtain ⟨t541,A100,H⟩:=H
     have A10:=Aside0.mk A100
     clear A100
     by_cases c11:12 + t541.size ≤ 9223372036854775807
     rotate_left
     ·rw [if_neg c11] at H
      exact absurd H (by simp)
     rw [if_pos c11] at H
     have c11b0:=eq_true c11
     have c11b1:decide (12 + t541.size ≤ 9223372036854775807) = true:=decide_eq_true c11
     try have c11b2:(9223372036854775807 < 12 + t541.size) = False:=eq_false (Nat.not_lt.2 c11)
     by_cases c12:((⟨#[115,101,99,116,105,111,110,32,98,97,110,107]⟩:ByteArray) ++ t541).size + 10 ≤ 9223372036854775807
     rotate_left
     ·rw [if_neg c12] at H
      exact absurd H (by simp)
     rw [if_pos c12] at H
     have c12b0:=eq_true c12
     (try (have c12b0e:=c12b0;simp only [ByteArray.size_append,ByteArray.size_extract,Nat.min_self,Nat.sub_zero,show (⟨#[115,101,99,116,105,111,110,32,98,97,110,107]⟩:ByteArray).size = 12 from rfl] at c12b0e))
     have c12b1:decide (((⟨#[115,101,99,116,105,111,110,32,98,97,110,107]⟩:ByteArray) ++ t541).size + 10 ≤ 9223372036854775807) = true:=decide_eq_true c12
     (try (have c12b1e:=c12b1;simp only [ByteArray.size_append,ByteArray.size_extract,Nat.min_self,Nat.sub_zero,show (⟨#[115,101,99,116,105,111,110,32,98,97,110,107]⟩:ByteArray).size = 12 from rfl] at c12b1e))
     try have c12b2:(9223372036854775807 < ((⟨#[115,101,99,116,105,111,110,32,98,97,110,107]⟩:ByteArray) ++ t541).size + 10) = False:=eq_false (Nat.not_lt.2 c12)
     (try (have c12b2e:=c12b2;simp only [ByteArray.size_append,ByteArray.size_extract,Nat.min_self,Nat.sub_zero,show (⟨#[115,101,99,116,105,111,110,32,98,97,110,107]⟩:ByteArray).size = 12 from rfl] at c12b2e))
     replace H:=Option.bind_eq_some_iff.mp H
     obtain ⟨t542,A130,H⟩:=H
     have A13:=Aside0.mk A130
     clear A130
     by_cases c14:(((⟨#[115,101,99,116,105,111,110,32,98,97,110,107]⟩:ByteArray) ++ t541) ++ (⟨#[44,114,111,109,120,44,50,53,54,44]⟩:ByteArray)).size + t542.size ≤ 9223372036854775807
     rotate_left
     ·rw [if_neg c14] at H
      exact absurd H (by simp)
     rw [if_pos c14] at H
     have c14b0:=eq_true c14
     (try (have c14b0e:=c14b0;simp only [ByteArray.size_append,ByteArray.size_extract,Nat.min_self,Nat.sub_zero,show (⟨#[115,101,99,116,105,111,110,32,98,97,110,107]⟩:ByteArray).size = 12 from rfl,show (⟨#[44,114,111,109,120,44,50,53,54,44]⟩:ByteArray).size = 10 from rfl] at c14b0e))
     have c14b1:decide ((((⟨#[115,101,99,116,105,111,110,32,98,97,110,107]⟩:ByteArray) ++ t541) ++ (⟨#[44,114,111,109,120,44,50,53,54,44]⟩:ByteArray)).size + t542.size ≤ 9223372036854775807) = true:=decide_eq_true c14
     (try (have c14b1e:=c14b1;simp only [ByteArray.size_append,ByteArray.size_extract,Nat.min_self,Nat.sub_zero,show (⟨#[115,101,99,116,105,111,110,32,98,97,110,107]⟩:ByteArray).size = 12 from rfl,show (⟨#[44,114,111,109,120,44,50,53,54,44]⟩:ByteArray).size = 10 from rfl] at c14b1e))
     try have c14b2:(9223372036854775807 < (((⟨#[115,101,99,116,105,111,110,32,98,97,110,107]⟩:ByteArray) ++ t541) ++ (⟨#[44,114,111,109,120,44,50,53,54,44]⟩:ByteArray)).size + t542.size) = False:=eq_false (Nat.not_lt.2 c14)
     (try (have c14b2e:=c14b2;simp only [ByteArray.size_append,ByteArray.size_extract,Nat.min_self,Nat.sub_zero,show (⟨#[115,101,99,116,105,111,110,32,98,97,110,107]⟩:ByteArray).size = 12 from rfl,show (⟨#[44,114,111,109,120,44,50,53,54,44]⟩:ByteArray).size = 10 from rfl] at c14b2e))
     replace H:=Option.bind_eq_some_iff.mp H
     obtain ⟨⟨t543,t544⟩,A150,H⟩:=H
     replace H:(if x5_2.length < 8796093022208 then ((some (x5_2 ++ [(((⟨#[115,101,99,116,105,111,110,32,98,97,110,107]⟩:ByteArray) ++ t541) ++ (⟨#[44,114,111,109,120,44,50,53,54,44]⟩:ByteArray)) ++ t542]:List ByteArray)).bind fun y547 => (if y547.length + t543.length < 8796093022208 then (impl_SourceOf.l0 k2 a0 (y547 ++ t543) t537 (wrap64 (x21_2 + 1))) else (none))) else (none)) = some (r1,r2):=H
     have A15:=Aside0.mk A150
     clear A150
     by_cases c16:x5_2.length < 8796093022208
     rotate_left
     ·rw [if_neg c16] at H
      exact absurd H (by simp)
     rw [if_pos c16] at H
     have LMc16:=Aside0.mk c16
     clear c16
     obtain ⟨y547,hy547⟩:∃ y_:List ByteArray,y_ = (x5_2 ++ [(((⟨#[115,101,99,116,105,111,110,32,98,97,110,107]⟩:ByteArray) ++ t541) ++ (⟨#[44,114,111,109,120,44,50,53,54,44]⟩:ByteArray)) ++ t542]):=⟨_,rfl⟩
     replace H:(if y547.length + t543.length < 8796093022208 then (impl_SourceOf.l0 k2 a0 (y547 ++ t543) t537 (wrap64 (x21_2 + 1))) else (none)) = some (r1,r2):=by first | (rw [hy547];with_reducible exact H) | (have H2_:=(Option.bind_some _ _).symm.trans H;rw [hy547];with_reducible exact H2_) | (have H2_:=(Option.bind_some _ _).symm.trans H;with_reducible exact H2_) | with_reducible exact H | (rw [hy547];exact H) | exact H
     have Ny547:=Aside0.mk hy547
     clear hy547
     by_cases c17:y547.length + t543.length < 8796093022208
     rotate_left
     ·rw [if_neg c17] at H
      exact absurd H (by simp)
     rw [if_pos c17] at H
     have LMc17:=Aside0.mk c17
     clear c17
     obtain ⟨y550,hy550⟩:∃ y_:List ByteArray,y_ = (y547 ++ t543):=⟨_,rfl⟩
     replace H:(impl_SourceOf.l0 k2 a0 y550 t537 (wrap64 (x21_2 + 1))) = some (r1,r2):=by first | (rw [hy550];with_reducible exact H) | (have H2_:=(Option.bind_some _ _).symm.trans H;rw [hy550];with_reducible exact H2_) | (have H2_:=(Option.bind_some _ _).symm.trans H;with_reducible exact H2_) | with_reducible exact H | (rw [hy550];exact H) | exact H
     have Ny550:=Aside0.mk hy550
     clear hy550
     have H':=Aside0.mk H
     clear H
     go_wp2_with (first | ((with_reducible refine gate_callee (f:=89) rfl ?_);refine goesL_ (some 27) rfl rfl Tryz.func89 (by kernel_rfl) rfl #[.int .i64 x21_2] rfl q45_ ?_;(with_reducible refine (impl_decimal.calls x21_2 t541 _ A10.out).mono ?_);rintro e w18 ⟨rfl,hb⟩;refine ⟨_,rfl,?_⟩;have n0_:=Aside0.mk (Kd.R_below q80_ hb);have n1_:=Aside0.mk (below_step q46_ hb);clear HO_5;clear HB;have HO_5:=n0_;have HB:=n1_;clear n0_ n1_;(try clear hb)) | ((with_reducible refine gate_callee (f:=89) rfl ?_);refine goesL_ (some 31) rfl rfl Tryz.func89 (by kernel_rfl) rfl #[.int .i64 x21_2] rfl q45_ ?_;(with_reducible refine (impl_decimal.calls x21_2 t542 _ A13.out).mono ?_);rintro e w19 ⟨rfl,hb⟩;refine ⟨_,rfl,?_⟩;have n0_:=Aside0.mk (Kd.R_below q80_ hb);have n1_:=Aside0.mk (below_step q46_ hb);clear HO_5;clear HB;have HO_5:=n0_;have HB:=n1_;clear n0_ n1_;(try clear hb)) | ((with_reducible refine gate_callee (f:=37) rfl ?_);refine goesL_ (some 36) rfl rfl Tryz.func37 (by kernel_rfl) rfl #[.string a0,.int .i64 x21_2] rfl q45_ ?_;(with_reducible refine (impl_Listed.calls k2 a0 x21_2 t543 t544 _ A15.out).mono ?_);rintro e w20 ⟨v545,rfl,ho0,hb⟩;refine ⟨_,rfl,?_⟩;have n0_:=Aside0.mk (Kd.R_elder' q80_ (Kd.R_base ho0) hb);have n1_:=Aside0.mk (Kd.R_lower (Kd.R_new' ho0 (Kd.R_lt q80_)) (below_size q46_));have n2_:=Aside0.mk (below_step q46_ hb);clear HO_5;clear HB;have HO_5:=n0_;have HO546:=n1_;have HB:=n2_;clear n0_ n1_ n2_;(try clear hb);(try clear ho0)) | ((with_reducible refine gate_builtin (b:=.append) (xs:=#[.tmp 39,.tmp 41]) rfl ?_);(try (refine gate_guard (by rfl) ?_;dsimp only));at_builtin;refine Kd.R_append Kd.string (w0:=w) w.heap.size rfl (.tmp 39) (.tmp 41) 47 9 (.string ⟨#[]⟩) 16 rfl Tryz.underlying47 info9 rfl (by decide) (by omega) u5 x5_2 ((((⟨#[115,101,99,116,105,111,110,32,98,97,110,107]⟩:ByteArray) ++ t541) ++ (⟨#[44,114,111,109,120,44,50,53,54,44]⟩:ByteArray)) ++ t542) [.string ((((⟨#[115,101,99,116,105,111,110,32,98,97,110,107]⟩:ByteArray) ++ t541) ++ (⟨#[44,114,111,109,120,44,50,53,54,44]⟩:ByteArray)) ++ t542)] (fun k_ => some k_ ≠ (v545:Value).ownBlock) (fun _ => False) rfl rfl ?aP (fun _ hk => hk.elim) ?aF ?aO ?aB ?aS ?aL ?_;(case aP => exact rfl);(case aB => exact q46_);(case aF => exact (fun k_ hk => Kd.fresh' (Kd.R_lt q77_) k_ hk));(case aO => exact q47_);(case aS => exact (below_size q46_));(case aL => have:=LMc16.out;omega);intro v548 w21 ho hb hg hat;rw [← Ny547.out] at ho;have n0_:=Aside0.mk (Kd.R_after (ok:=(fun _ => True)) q77_ hg hat);have n1_:=Aside0.mk (hb);have n2_:=Aside0.mk (ho);clear HO546;clear HB;clear HO_5;have HO546:=n0_;have HB:=n1_;have HO549:=n2_;clear n0_ n1_ n2_;clear ho hb hg hat;obtain ⟨Ao23,co23,eo23⟩:=Kd.R_slice HO546.out;subst eo23) | ((with_reducible refine gate_builtin (b:=.append) (xs:=#[.tmp 42,.tmp 43]) rfl ?_);(try (refine gate_guard (by rfl) ?_;dsimp only));at_builtin;refine Kd.R_append_rows Kd.string (w0:=w) w.heap.size rfl (.tmp 42) (.tmp 43) 47 9 (.string ⟨#[]⟩) 16 rfl Tryz.underlying47 info9 rfl (by decide) (by omega) v548 y547 t543 _ _ _ (fun k_ => some k_ ≠ (.slice Ao23 t543.length co23:Value).ownBlock) (fun _ => False) rfl rfl ?aO ?aR (fun _ _ h => h) (fun _ h => h.elim) ?aF ?aB ?aS ?aL ?_;(case aR => repeat (first | exact (Kd.R_reads' HO546.out).2.2 | (with_reducible refine Kd.C_alloc ?_ _) | (with_reducible refine Kd.C_drewN ?_ _) | (with_reducible refine Kd.C_drew ?_)));(case aB => exact q46_);(case aF => exact (fun k_ hk => Kd.fresh' (Kd.R_lt q77_) k_ hk));(case aO => exact (by (with_reducible repeat (first | apply Kd.R_alloc | apply Kd.R_drewN | apply Kd.R_drew));exact HO549.out));(case aS => exact (below_size q46_));(case aL => have:=LMc17.out;omega);intro v551 w22 ho hb hg hat;rw [← Ny550.out] at ho;have n0_:=Aside0.mk (Kd.R_after (ok:=(fun _ => True)) q77_ hg hat);have n1_:=Aside0.mk (hb);have n2_:=Aside0.mk (ho);clear HO546;clear HB;clear HO549;have HO546:=n0_;have HB:=n1_;have HO552:=n2_;clear n0_ n1_ n2_;clear ho hb hg hat))
     go_roundg k2
     case measure => have:=HJ2.out;have:=HK2.out;omega
     case rel => exact ⟨(y550),(wrap64 (x21_2 + 1)),q65_,H',⟨by have:=HJ2.out;have:=HK2.out;omega⟩,⟨by (with_reducible repeat (first | apply Kd.R_alloc | apply Kd.R_drewN | apply Kd.R_drew));exact Kd.R_mono HO552.out (fun _ hk => trivial)⟩,⟨q46_⟩⟩
    rw [if_neg c9] at H
    have c9b0:decide (0 < x21_2) = false:=decide_eq_false c9
    clear c9
    replace H:=Option.bind_eq_some_iff.mp H
    obtain ⟨⟨t553,t554⟩,A240,H⟩:=H
    replace H:(if x5_2.length < 8796093022208 then ((some (x5_2 ++ [(⟨#[115,101,99,116,105,111,110,32,98,97,110,107,48,44,114,111,109,48,44,48]⟩:ByteArray)]:List ByteArray)).bind fun y557 => (if y557.length + t553.length < 8796093022208 then (impl_SourceOf.l0 k2 a0 (y557 ++ t553) t537 (wrap64 (x21_2 + 1))) else (none))) else (none)) = some (r1,r2):=H
    have A24:=Aside0.mk A240
    clear A240
    by_cases c25:x5_2.length < 8796093022208
    rotate_left
    ·rw [if_neg c25] at H
     exact absurd H (by simp)
    rw [if_pos c25] at H
    have LMc25:=Aside0.mk c25
    clear c25
    obtain ⟨y557,hy557⟩:∃ y_:List ByteArray,y_ = (x5_2 ++ [(⟨#[115,101,99,116,105,111,110,32,98,97,110,107,48,44,114,111,109,48,44,48]⟩:ByteArray)]):=⟨_,rfl⟩
    replace H:(if y557.length + t553.length < 8796093022208 then (impl_SourceOf.l0 k2 a0 (y557 ++ t553) t537 (wrap64 (x21_2 + 1))) else (none)) = some (r1,r2):=by first | (rw [hy557];with_reducible exact H) | (have H2_:=(Option.bind_some _ _).symm.trans H;rw [hy557];with_reducible exact H2_) | (have H2_:=(Option.bind_some _ _).symm.trans H;with_reducible exact H2_) | with_reducible exact H | (rw [hy557];exact H) | exact H
    have Ny557:=Aside0.mk hy557
    clear hy557
    by_cases c26:y557.length + t553.length < 8796093022208
    rotate_left
    ·rw [if_neg c26] at H
     exact absurd H (by simp)
    rw [if_pos c26] at H
    have LMc26:=Aside0.mk c26
    clear c26
    obtain ⟨y560,hy560⟩:∃ y_:List ByteArray,y_ = (y557 ++ t553):=⟨_,rfl⟩
    replace H:(impl_SourceOf.l0 k2 a0 y560 t537 (wrap64 (x21_2 + 1))) = some (r1,r2):=by first | (rw [hy560];with_reducible exact H) | (have H2_:=(Option.bind_some _ _).symm.trans H;rw [hy560];with_reducible exact H2_) | (have H2_:=(Option.bind_some _ _).symm.trans H;with_reducible exact H2_) | with_reducible exact H | (rw [hy560];exact H) | exact H
    have Ny560:=Aside0.mk hy560
    clear hy560
    have H':=Aside0.mk H
    clear H
    go_wp2_with (first | ((with_reducible refine gate_callee (f:=37) rfl ?_);refine goesL_ (some 36) rfl rfl Tryz.func37 (by kernel_rfl) rfl #[.string a0,.int .i64 x21_2] rfl q45_ ?_;(with_reducible refine (impl_Listed.calls k2 a0 x21_2 t553 t554 _ A24.out).mono ?_);rintro e w27 ⟨v555,rfl,ho0,hb⟩;refine ⟨_,rfl,?_⟩;have n0_:=Aside0.mk (Kd.R_elder' q80_ (Kd.R_base ho0) hb);have n1_:=Aside0.mk (Kd.R_lower (Kd.R_new' ho0 (Kd.R_lt q80_)) (below_size q46_));have n2_:=Aside0.mk (below_step q46_ hb);clear HO_5;clear HB;have HO_5:=n0_;have HO556:=n1_;have HB:=n2_;clear n0_ n1_ n2_;(try clear hb);(try clear ho0)) | ((with_reducible refine gate_builtin (b:=.append) (xs:=#[.tmp 39,.tmp 41]) rfl ?_);(try (refine gate_guard (by rfl) ?_;dsimp only));at_builtin;refine Kd.R_append Kd.string (w0:=w) w.heap.size rfl (.tmp 39) (.tmp 41) 47 9 (.string ⟨#[]⟩) 16 rfl Tryz.underlying47 info9 rfl (by decide) (by omega) u5 x5_2 (⟨#[115,101,99,116,105,111,110,32,98,97,110,107,48,44,114,111,109,48,44,48]⟩:ByteArray) [.string (⟨#[115,101,99,116,105,111,110,32,98,97,110,107,48,44,114,111,109,48,44,48]⟩:ByteArray)] (fun k_ => some k_ ≠ (v555:Value).ownBlock) (fun _ => False) rfl rfl ?aP (fun _ hk => hk.elim) ?aF ?aO ?aB ?aS ?aL ?_;(case aP => exact rfl);(case aB => exact q46_);(case aF => exact (fun k_ hk => Kd.fresh' (Kd.R_lt q78_) k_ hk));(case aO => exact q47_);(case aS => exact (below_size q46_));(case aL => have:=LMc25.out;omega);intro v558 w28 ho hb hg hat;rw [← Ny557.out] at ho;have n0_:=Aside0.mk (Kd.R_after (ok:=(fun _ => True)) q78_ hg hat);have n1_:=Aside0.mk (hb);have n2_:=Aside0.mk (ho);clear HO556;clear HB;clear HO_5;have HO556:=n0_;have HB:=n1_;have HO559:=n2_;clear n0_ n1_ n2_;clear ho hb hg hat;obtain ⟨Ao30,co30,eo30⟩:=Kd.R_slice HO556.out;subst eo30) | ((with_reducible refine gate_builtin (b:=.append) (xs:=#[.tmp 42,.tmp 43]) rfl ?_);(try (refine gate_guard (by rfl) ?_;dsimp only));at_builtin;refine Kd.R_append_rows Kd.string (w0:=w) w.heap.size rfl (.tmp 42) (.tmp 43) 47 9 (.string ⟨#[]⟩) 16 rfl Tryz.underlying47 info9 rfl (by decide) (by omega) v558 y557 t553 _ _ _ (fun k_ => some k_ ≠ (.slice Ao30 t553.length co30:Value).ownBlock) (fun _ => False) rfl rfl ?aO ?aR (fun _ _ h => h) (fun _ h => h.elim) ?aF ?aB ?aS ?aL ?_;(case aR => repeat (first | exact (Kd.R_reads' HO556.out).2.2 | (with_reducible refine Kd.C_alloc ?_ _) | (with_reducible refine Kd.C_drewN ?_ _) | (with_reducible refine Kd.C_drew ?_)));(case aB => exact q46_);(case aF => exact (fun k_ hk => Kd.fresh' (Kd.R_lt q78_) k_ hk));(case aO => exact (by (with_reducible repeat (first | apply Kd.R_alloc | apply Kd.R_drewN | apply Kd.R_drew));exact HO559.out));(case aS => exact (below_size q46_));(case aL => have:=LMc26.out;omega);intro v561 w29 ho hb hg hat;rw [← Ny560.out] at ho;have n0_:=Aside0.mk (Kd.R_after (ok:=(fun _ => True)) q78_ hg hat);have n1_:=Aside0.mk (hb);have n2_:=Aside0.mk (ho);clear HO556;clear HB;clear HO559;have HO556:=n0_;have HB:=n1_;have HO562:=n2_;clear n0_ n1_ n2_;clear ho hb hg hat))
    go_roundg k2
    case measure => have:=HJ2.out;have:=HK2.out;omega
    case rel => exact ⟨(y560),(wrap64 (x21_2 + 1)),q65_,H',⟨by have:=HJ2.out;have:=HK2.out;omega⟩,⟨by (with_reducible repeat (first | apply Kd.R_alloc | apply Kd.R_drewN | apply Kd.R_drew));exact Kd.R_mono HO562.out (fun _ hk => trivial)⟩,⟨q46_⟩⟩
   rw [if_neg c8] at H
   have c8b0:decide (x21_2 < t537) = false:=decide_eq_false c8
   clear c8
   replace H:=Option.bind_eq_some_iff.mp H
   obtain ⟨t563,A310,H⟩:=H
   have A31:=Aside0.mk A310
   clear A310
   by_cases c32:t563.size + 1 ≤ 9223372036854775807
   rotate_left
   ·rw [if_neg c32] at H
    exact absurd H (by simp)
   rw [if_pos c32] at H
   have c32b0:=eq_true c32
   have c32b1:decide (t563.size + 1 ≤ 9223372036854775807) = true:=decide_eq_true c32
   try have c32b2:(9223372036854775807 < t563.size + 1) = False:=eq_false (Nat.not_lt.2 c32)
   by_cases c33:(x5_2.length:Int) > 1500
   ·rw [if_pos c33] at H
    have c33b0:decide (1500 < (x5_2.length:Int)) = true:=decide_eq_true c33
    have c33b1:decide (1500 < x5_2.length) = true:=decide_eq_true (by omega)
    clear c33
    simp only [Option.some.injEq,Prod.mk.injEq] at H
    obtain ⟨rfl,rfl⟩:=H
    obtain ⟨Ao34,co34,eo34⟩:=Kd.R_slice HO_5.out
    subst eo34
    go_wp2_with (first | ((with_reducible refine gate_callee (f:=90) rfl ?_);refine goesL_ (some 47) rfl rfl Tryz.func90 (by kernel_rfl) rfl #[.slice Ao34 x5_2.length co34,.string (⟨#[10]⟩:ByteArray)] rfl q45_ ?_;(with_reducible refine (strings_Join.calls _ _ x5_2 (⟨#[10]⟩:ByteArray) t563 _ ?side1 ?side2 A31.out).mono ?_);(case side1 => exact q104_);(case side2 => exact (Kd.R_reads' HO_5.out).2.1);rintro e w35 ⟨rfl,hb⟩;refine ⟨_,rfl,?_⟩;have n0_:=Aside0.mk (Kd.R_below q80_ hb);have n1_:=Aside0.mk (below_step q46_ hb);clear HO_5;clear HB;have HO_5:=n0_;have HB:=n1_;clear n0_ n1_;(try clear hb)))
    go_ret2
    exact ⟨q49_,q46_⟩
   rw [if_neg c33] at H
   have c33b0:decide (1500 < (x5_2.length:Int)) = false:=decide_eq_false c33
   have c33b1:decide (1500 < x5_2.length) = false:=decide_eq_false (by omega)
   clear c33
   by_cases c36:((t563 ++ (⟨#[10]⟩:ByteArray)).size:Int) > 40000
   ·rw [if_pos c36] at H
    have c36b0:decide (40000 < ((t563 ++ (⟨#[10]⟩:ByteArray)).size:Int)) = true:=decide_eq_true c36
    (try (have c36b0e:=c36b0;simp only [ByteArray.size_append,ByteArray.size_extract,Nat.min_self,Nat.sub_zero,show (⟨#[10]⟩:ByteArray).size = 1 from rfl] at c36b0e))
    (try (have c36b0eg:=c36b0e;simp only [Int.natCast_add,Int.natCast_one,Int.cast_ofNat_Int] at c36b0eg))
    (try (have c36b0fg:=c36b0f;simp only [Int.natCast_add,Int.natCast_one,Int.cast_ofNat_Int] at c36b0fg))
    have c36b1:decide (40000 < (t563 ++ (⟨#[10]⟩:ByteArray)).size) = true:=decide_eq_true (by omega)
    (try (have c36b1e:=c36b1;simp only [ByteArray.size_append,ByteArray.size_extract,Nat.min_self,Nat.sub_zero,show (⟨#[10]⟩:ByteArray).size = 1 from rfl] at c36b1e))
    (try (have c36b1eg:=c36b1e;simp only [Int.natCast_add,Int.natCast_one,Int.cast_ofNat_Int] at c36b1eg))
    (try (have c36b1fg:=c36b1f;simp only [Int.natCast_add,Int.natCast_one,Int.cast_ofNat_Int] at c36b1fg))
    clear c36
    simp only [Option.some.injEq,Prod.mk.injEq] at H
    obtain ⟨rfl,rfl⟩:=H
    obtain ⟨Ao37,co37,eo37⟩:=Kd.R_slice HO_5.out
    subst eo37
    go_wp2_with (first | ((with_reducible refine gate_callee (f:=90) rfl ?_);refine goesL_ (some 47) rfl rfl Tryz.func90 (by kernel_rfl) rfl #[.slice Ao37 x5_2.length co37,.string (⟨#[10]⟩:ByteArray)] rfl q45_ ?_;(with_reducible refine (strings_Join.calls _ _ x5_2 (⟨#[10]⟩:ByteArray) t563 _ ?side1 ?side2 A31.out).mono ?_);(case side1 => exact q104_);(case side2 => exact (Kd.R_reads' HO_5.out).2.1);rintro e w38 ⟨rfl,hb⟩;refine ⟨_,rfl,?_⟩;have n0_:=Aside0.mk (Kd.R_below q80_ hb);have n1_:=Aside0.mk (below_step q46_ hb);clear HO_5;clear HB;have HO_5:=n0_;have HB:=n1_;clear n0_ n1_;(try clear hb)))
    go_ret2
    exact ⟨q49_,q46_⟩
   rw [if_neg c36] at H
   have c36b0:decide (40000 < ((t563 ++ (⟨#[10]⟩:ByteArray)).size:Int)) = false:=decide_eq_false c36
   (try (have c36b0e:=c36b0;simp only [ByteArray.size_append,ByteArray.size_extract,Nat.min_self,Nat.sub_zero,show (⟨#[10]⟩:ByteArray).size = 1 from rfl] at c36b0e))
   (try (have c36b0eg:=c36b0e;simp only [Int.natCast_add,Int.natCast_one,Int.cast_ofNat_Int] at c36b0eg))
   (try (have c36b0fg:=c36b0f;simp only [Int.natCast_add,Int.natCast_one,Int.cast_ofNat_Int] at c36b0fg))
   have c36b1:decide (40000 < (t563 ++ (⟨#[10]⟩:ByteArray)).size) = false:=decide_eq_false (by omega)
   (try (have c36b1e:=c36b1;simp only [ByteArray.size_append,ByteArray.size_extract,Nat.min_self,Nat.sub_zero,show (⟨#[10]⟩:ByteArray).size = 1 from rfl] at c36b1e))
   (try (have c36b1eg:=c36b1e;simp only [Int.natCast_add,Int.natCast_one,Int.cast_ofNat_Int] at c36b1eg))
   (try (have c36b1fg:=c36b1f;simp only [Int.natCast_add,Int.natCast_one,Int.cast_ofNat_Int] at c36b1fg))
   clear c36
   simp only [Option.some.injEq,Prod.mk.injEq] at H
   obtain ⟨rfl,rfl⟩:=H
   obtain ⟨Ao39,co39,eo39⟩:=Kd.R_slice HO_5.out
   subst eo39
   go_wp2_with (first | ((with_reducible refine gate_callee (f:=90) rfl ?_);refine goesL_ (some 47) rfl rfl Tryz.func90 (by kernel_rfl) rfl #[.slice Ao39 x5_2.length co39,.string (⟨#[10]⟩:ByteArray)] rfl q45_ ?_;(with_reducible refine (strings_Join.calls _ _ x5_2 (⟨#[10]⟩:ByteArray) t563 _ ?side1 ?side2 A31.out).mono ?_);(case side1 => exact q104_);(case side2 => exact (Kd.R_reads' HO_5.out).2.1);rintro e w40 ⟨rfl,hb⟩;refine ⟨_,rfl,?_⟩;have n0_:=Aside0.mk (Kd.R_below q80_ hb);have n1_:=Aside0.mk (below_step q46_ hb);clear HO_5;clear HB;have HO_5:=n0_;have HB:=n1_;clear n0_ n1_;(try clear hb)))
   go_ret2
   exact ⟨q49_,q46_⟩
def laws_FnExactSourceOf.f (k:Nat) (a0:ByteArray):Option (Bool):=if (a0.size:Int) > 1048576 then (some true) else ((spec_SourceOf.f k a0).bind fun bt564 => ((impl_SourceOf.f k a0).bind fun bt566 => (if bt566.1.toList = bt564.1.toList then (if (bt566.2 != bt564.2) = true then (some false) else (some true)) else (some false))))
theorem laws_FnExactSourceOf.mono:∀ a0 k,LeO (laws_FnExactSourceOf.f k a0) (laws_FnExactSourceOf.f (k + 1) a0):=by
 intro a0 k
 unfold laws_FnExactSourceOf.f
 repeat' first
   | (with_reducible first | exact impl_SourceOf.mono _ _ | exact spec_SourceOf.mono _ _ | exact LeO.refl _ | exact LeO.none _ | refine LeO.ite ?_ ?_ | refine LeO.bind ?_ (fun _ => ?_))
   | exact impl_SourceOf.mono _ _
   | exact spec_SourceOf.mono _ _
   | exact LeO.none _
   | refine LeO.ite ?_ ?_
   | refine LeO.bind ?_ (fun _ => ?_)
theorem laws_FnExactSourceOf.calls (k:Nat) (a0:ByteArray) (r:Bool) (w:World) (h:laws_FnExactSourceOf.f k a0 = some r) (hG:Go.Proofs.YtodlnnoekccmmaaGreatDoor.LibW.GL w:=by first | exact hG | exact hG.below q4_ | exact hG.drewN _) :
  Calls Tryz.prog 10 #[.string a0] w fun e w' => e = .returned (.bool r) ∧ Below w.heap.size w w':=by
 have HB:=Aside0.mk (Below.refl w.heap.size w)
 have H:(if (a0.size:Int) > 1048576 then (some true) else ((spec_SourceOf.f k a0).bind fun bt564 => ((impl_SourceOf.f k a0).bind fun bt566 => (if bt566.1.toList = bt564.1.toList then (if (bt566.2 != bt564.2) = true then (some false) else (some true)) else (some false))))) = some r:=h
 clear h
 by_cases c2:(a0.size:Int) > 1048576
 ·rw [if_pos c2] at H
  have c2b0:decide (1048576 < (a0.size:Int)) = true:=decide_eq_true c2
  have c2b1:decide (1048576 < a0.size) = true:=decide_eq_true (by omega)
  clear c2
  obtain rfl:=Option.some.inj H
  go_enter Tryz.func10,Tryz.ntmps10
  go_wp2
  go_ret
  exact ⟨q49_,q46_⟩
 rw [if_neg c2] at H
 have c2b0:decide (1048576 < (a0.size:Int)) = false:=decide_eq_false c2
 have c2b1:decide (1048576 < a0.size) = false:=decide_eq_false (by omega)
 clear c2
 replace H:=Option.bind_eq_some_iff.mp H
 obtain ⟨⟨t564,t565⟩,A30,H⟩:=H
 replace H:((impl_SourceOf.f k a0).bind fun bt566 => (if bt566.1.toList = t564.toList then (if (bt566.2 != t565) = true then (some false) else (some true)) else (some false))) = some r:=H
 have A3:=Aside0.mk A30
 clear A30
 replace H:=Option.bind_eq_some_iff.mp H
 obtain ⟨⟨t566,t567⟩,A40,H⟩:=H
 replace H:(if t566.toList = t564.toList then (if (t567 != t565) = true then (some false) else (some true)) else (some false)) = some r:=H
 have A4:=Aside0.mk A40
 clear A40
 by_cases c5:t566.toList = t564.toList
 ·rw [if_pos c5] at H
  have c5b0:(t566.toList == t564.toList) = true:=beq_iff_eq.mpr c5
  have c5b1:(t566.toList != t564.toList) = false:=bne_eq_false_iff_eq.mpr c5
  clear c5
  by_cases c6:(t567 != t565) = true
  ·rw [if_pos c6] at H
   have c6b0:(t567 != t565) = true:=c6
   (try (have c6b1:decide (t567 = t565) = false:=by simpa using c6))
   (try (have c6b2:(t567 == t565) = false:=by simpa using c6))
   (try (have c6b3:¬ (t567 = t565):=by simpa using c6))
   clear c6
   obtain rfl:=Option.some.inj H
   go_enter Tryz.func10,Tryz.ntmps10
   go_wp2_with (first | ((with_reducible refine gate_callee (f:=41) rfl ?_);refine goesL_ (some 12) rfl rfl Tryz.func41 (by kernel_rfl) rfl #[.string a0] rfl q45_ ?_;(with_reducible refine (spec_SourceOf.calls k a0 t564 t565 _ A3.out).mono ?_);rintro e w7 ⟨rfl,hb⟩;refine ⟨_,rfl,?_⟩;replace HB:=Aside0.mk (below_step q46_ hb);(try clear hb)) | ((with_reducible refine gate_callee (f:=42) rfl ?_);refine goesL_ (some 17) rfl rfl Tryz.func42 (by kernel_rfl) rfl #[.string a0] rfl q45_ ?_;(with_reducible refine (impl_SourceOf.calls k a0 t566 t567 _ A4.out).mono ?_);rintro e w8 ⟨rfl,hb⟩;refine ⟨_,rfl,?_⟩;replace HB:=Aside0.mk (below_step q46_ hb);(try clear hb)))
   go_ret
   exact ⟨q49_,q46_⟩
  rw [if_neg c6] at H
  have c6b0:(t567 != t565) = false:=by simpa using c6
  (try (have c6b1:decide (t567 = t565) = true:=by simpa using c6))
  (try (have c6b2:(t567 == t565) = true:=by simpa using c6))
  clear c6
  obtain rfl:=Option.some.inj H
  go_enter Tryz.func10,Tryz.ntmps10
  go_wp2_with (first | ((with_reducible refine gate_callee (f:=41) rfl ?_);refine goesL_ (some 12) rfl rfl Tryz.func41 (by kernel_rfl) rfl #[.string a0] rfl q45_ ?_;(with_reducible refine (spec_SourceOf.calls k a0 t564 t565 _ A3.out).mono ?_);rintro e w9 ⟨rfl,hb⟩;refine ⟨_,rfl,?_⟩;replace HB:=Aside0.mk (below_step q46_ hb);(try clear hb)) | ((with_reducible refine gate_callee (f:=42) rfl ?_);refine goesL_ (some 17) rfl rfl Tryz.func42 (by kernel_rfl) rfl #[.string a0] rfl q45_ ?_;(with_reducible refine (impl_SourceOf.calls k a0 t566 t567 _ A4.out).mono ?_);rintro e w10 ⟨rfl,hb⟩;refine ⟨_,rfl,?_⟩;replace HB:=Aside0.mk (below_step q46_ hb);(try clear hb)))
  go_ret
  exact ⟨q49_,q46_⟩
 rw [if_neg c5] at H
 have c5b0:(t566.toList == t564.toList) = false:=beq_eq_false_iff_ne.mpr c5
 have c5b1:(t566.toList != t564.toList) = true:=bne_iff_ne.mpr c5
 obtain rfl:=Option.some.inj H
 go_enter Tryz.func10,Tryz.ntmps10
 go_wp2_with (first | ((with_reducible refine gate_callee (f:=41) rfl ?_);refine goesL_ (some 12) rfl rfl Tryz.func41 (by kernel_rfl) rfl #[.string a0] rfl q45_ ?_;(with_reducible refine (spec_SourceOf.calls k a0 t564 t565 _ A3.out).mono ?_);rintro e w11 ⟨rfl,hb⟩;refine ⟨_,rfl,?_⟩;replace HB:=Aside0.mk (below_step q46_ hb);(try clear hb)) | ((with_reducible refine gate_callee (f:=42) rfl ?_);refine goesL_ (some 17) rfl rfl Tryz.func42 (by kernel_rfl) rfl #[.string a0] rfl q45_ ?_;(with_reducible refine (impl_SourceOf.calls k a0 t566 t567 _ A4.out).mono ?_);rintro e w12 ⟨rfl,hb⟩;refine ⟨_,rfl,?_⟩;replace HB:=Aside0.mk (below_step q46_ hb);(try clear hb)))
 go_ret
 exact ⟨q49_,q46_⟩
/-- THE ONE PURE STATEMENT of laws_FnExactSourceOf: yours. -/
def laws_FnExactSourceOf.Pure:Prop:=∀ (a0:ByteArray),a0.size ≤ 140737488351232 → ∃ k,laws_FnExactSourceOf.f k a0 = some true
theorem laws_FnExactSourceOf.walk (P:laws_FnExactSourceOf.Pure) (a0:ByteArray) (w:World) (w0:a0.size ≤ 140737488351232) (hG:Go.Proofs.YtodlnnoekccmmaaGreatDoor.LibW.GL w) :
  Calls Tryz.prog 10 #[.string a0] w fun e w' => e = .returned (.bool true) ∧ Below w.heap.size w w':=by
 obtain ⟨k,h⟩:=P a0 w0
 refine (laws_FnExactSourceOf.calls k a0 true w h).mono ?_
 rintro e w' ⟨rfl,hd⟩
 exact ⟨rfl,hd⟩
end Go.Proofs.YtodlnnoekccmmaaGreatDoor.QFnExactSourceOf
