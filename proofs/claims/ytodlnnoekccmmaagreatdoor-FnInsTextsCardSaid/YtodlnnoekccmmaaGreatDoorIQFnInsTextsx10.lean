/- The machine's side of a law,written by a program of this session for this claim. -/
import Derived.Test.YtodlnnoekccmmaaGreatDoorIQq
import Derived.Test.YtodlnnoekccmmaaGreatDoorIQFnInsTextsx0
import Derived.Test.YtodlnnoekccmmaaGreatDoorIQFnInsTextsx7
import Derived.Test.YtodlnnoekccmmaaGreatDoorIQFnInsTextsx8
import Derived.Test.YtodlnnoekccmmaaGreatDoorIQFnInsTextsx9
namespace Go.Proofs.YtodlnnoekccmmaaGreatDoor.QFnInsTexts
open Go.Proofs.YtodlnnoekccmmaaGreatDoor.Qq
open Go.RowKit Go.Proofs.YtodlnnoekccmmaaGreatDoor.LibX Go.Proofs.YtodlnnoekccmmaaGreatDoor.LibE Go.Proofs.YtodlnnoekccmmaaGreatDoor.LibCB Go.Proofs.YtodlnnoekccmmaaGreatDoorW.PrintWords Go.Proofs.YtodlnnoekccmmaaGreatDoorW.PrintLast Go.Proofs.YtodlnnoekccmmaaGreatDoorW.PrintMore
attribute [local go_sem] max2_int min2_int max_two min_two max_three min_three max_four min_four   -- for this text's walks alone
set_option maxHeartbeats 8000000
set_option maxRecDepth 100000
set_option linter.unusedVariables false
set_option linter.unusedSimpArgs false
def spec_l3Template.j0:Nat → Int → Bool → Int → Int → Int → Bool → Option (ByteArray)
 | 0,_,_,_,_,_,_ => none
 | k + 1,x0,x1,x5,x6,x7,x15 => if x15 = true then ((spec_l3Turns.f).bind fun t379 => (if 0 ≤ x6 then (if x6 < (t379.length:Int) then (if (rdOf ByteArray.empty t379 x6).size + 1 ≤ 9223372036854775807 then ((spec_l3Regs.f).bind fun t383 => (if 0 ≤ x7 then (if x7 < (t383.length:Int) then (if ((rdOf ByteArray.empty t379 x6) ++ (⟨#[32]⟩:ByteArray)).size + (rdOf ByteArray.empty t383 x7).size ≤ 9223372036854775807 then (some (((rdOf ByteArray.empty t379 x6) ++ (⟨#[32]⟩:ByteArray)) ++ (rdOf ByteArray.empty t383 x7))) else (none)) else (none)) else (none))) else (none)) else (none)) else (none))) else (if x1 = true then ((some (([(⟨#[]⟩:ByteArray),(⟨#[98,105,116,32]⟩:ByteArray),(⟨#[114,101,115,32]⟩:ByteArray),(⟨#[115,101,116,32]⟩:ByteArray)]:List ByteArray):List ByteArray)).bind fun y387 => (if 0 ≤ x5 then (if x5 < (y387.length:Int) then ((spec_l1Dec.f k x6).bind fun t391 => (if (rdOf ByteArray.empty y387 x5).size + t391.size ≤ 9223372036854775807 then (if ((rdOf ByteArray.empty y387 x5) ++ t391).size + 1 ≤ 9223372036854775807 then ((spec_l3Regs.f).bind fun t392 => (if 0 ≤ x7 then (if x7 < (t392.length:Int) then (if (((rdOf ByteArray.empty y387 x5) ++ t391) ++ (⟨#[44]⟩:ByteArray)).size + (rdOf ByteArray.empty t392 x7).size ≤ 9223372036854775807 then (some ((((rdOf ByteArray.empty y387 x5) ++ t391) ++ (⟨#[44]⟩:ByteArray)) ++ (rdOf ByteArray.empty t392 x7))) else (none)) else (none)) else (none))) else (none)) else (none))) else (none)) else (none))) else (if x5 = 0 then ((spec_l3Low.f x6 x7).bind fun t396 => (some t396)) else (if x0 = 118 then (some (⟨#[104,97,108,116]⟩:ByteArray)) else (if x5 = 1 then ((spec_l3Regs.f).bind fun t397 => (if 0 ≤ x6 then (if x6 < (t397.length:Int) then (if 3 + (rdOf ByteArray.empty t397 x6).size ≤ 9223372036854775807 then (if ((⟨#[108,100,32]⟩:ByteArray) ++ (rdOf ByteArray.empty t397 x6)).size + 1 ≤ 9223372036854775807 then ((spec_l3Regs.f).bind fun t401 => (if 0 ≤ x7 then (if x7 < (t401.length:Int) then (if (((⟨#[108,100,32]⟩:ByteArray) ++ (rdOf ByteArray.empty t397 x6)) ++ (⟨#[44]⟩:ByteArray)).size + (rdOf ByteArray.empty t401 x7).size ≤ 9223372036854775807 then (some ((((⟨#[108,100,32]⟩:ByteArray) ++ (rdOf ByteArray.empty t397 x6)) ++ (⟨#[44]⟩:ByteArray)) ++ (rdOf ByteArray.empty t401 x7))) else (none)) else (none)) else (none))) else (none)) else (none)) else (none)) else (none))) else (if x5 = 2 then ((spec_l3Alus.f).bind fun t405 => (if 0 ≤ x6 then (if x6 < (t405.length:Int) then (if (rdOf ByteArray.empty t405 x6).size + 3 ≤ 9223372036854775807 then ((spec_l3Regs.f).bind fun t409 => (if 0 ≤ x7 then (if x7 < (t409.length:Int) then (if ((rdOf ByteArray.empty t405 x6) ++ (⟨#[32,97,44]⟩:ByteArray)).size + (rdOf ByteArray.empty t409 x7).size ≤ 9223372036854775807 then (some (((rdOf ByteArray.empty t405 x6) ++ (⟨#[32,97,44]⟩:ByteArray)) ++ (rdOf ByteArray.empty t409 x7))) else (none)) else (none)) else (none))) else (none)) else (none)) else (none))) else ((spec_l3Top.f k x6 x7).bind fun t413 => (some t413)))))))
def spec_l3Template.f (k:Nat) (a0:Int) (a1:Bool):Option (ByteArray):=if a1 = true then (spec_l3Template.j0 k a0 a1 (wrap64 (Int.tdiv a0 64)) (Int.tmod (wrap64 (Int.tdiv a0 8)) 8) (Int.tmod a0 8) ((wrap64 (Int.tdiv a0 64)) == 0)) else (spec_l3Template.j0 k a0 a1 (wrap64 (Int.tdiv a0 64)) (Int.tmod (wrap64 (Int.tdiv a0 8)) 8) (Int.tmod a0 8) false)
theorem spec_l3Template.mono_l:∀ k,(∀ y0 y1 y2 y3 y4 y5,LeO (spec_l3Template.j0 k y0 y1 y2 y3 y4 y5) (spec_l3Template.j0 (k + 1) y0 y1 y2 y3 y4 y5))
 | 0 => fun _ _ _ _ _ _ r h => by simp [spec_l3Template.j0] at h
 | k + 1 => by
  have ih0:=spec_l3Template.mono_l k
  intro y0 y1 y2 y3 y4 y5
  unfold spec_l3Template.j0
  repeat' first
  | (with_reducible first | exact ih0 _ _ _ _ _ _ | exact spec_l1Dec.mono _ _ | exact spec_l3Top.mono _ _ _ | exact LeO.refl _ | exact LeO.none _ | refine LeO.ite ?_ ?_ | refine LeO.bind ?_ (fun _ => ?_))
  | exact ih0 _ _ _ _ _ _
  | exact spec_l1Dec.mono _ _
  | exact spec_l3Top.mono _ _ _
  | exact LeO.none _
  | refine LeO.ite ?_ ?_
  | refine LeO.bind ?_ (fun _ => ?_)
theorem spec_l3Template.mono:∀ a0 a1 k,LeO (spec_l3Template.f k a0 a1) (spec_l3Template.f (k + 1) a0 a1):=by
 intro a0 a1 k
 have ih0:=spec_l3Template.mono_l k
 unfold spec_l3Template.f
 repeat' first
   | (with_reducible first | exact ih0 _ _ _ _ _ _ | exact spec_l1Dec.mono _ _ | exact spec_l3Top.mono _ _ _ | exact LeO.refl _ | exact LeO.none _ | refine LeO.ite ?_ ?_ | refine LeO.bind ?_ (fun _ => ?_))
   | exact ih0 _ _ _ _ _ _
   | exact spec_l1Dec.mono _ _
   | exact spec_l3Top.mono _ _ _
   | exact LeO.none _
   | refine LeO.ite ?_ ?_
   | refine LeO.bind ?_ (fun _ => ?_)
def spec_l3Template.T5:Bool × List (List Nat × List Nat):=(true,[([],[]),([],[]),([0,1],[0,1]),([2],[2]),([3],[3]),([0],[]),([],[]),([5,6],[5,6]),([7],[7]),([4,8],[4,8]),([9,5,0,1,2,3,4,5,6,7,8,9],[9])])
def spec_l3Template.B5:List Nat:=[0,0,3,7,15,1,0,97,225,511,1023]
theorem spec_l3Template.tab5:rtab .any (opsOf Tryz.f60 5) = spec_l3Template.T5:=by kernel_rfl
theorem spec_l3Template.bits5:waitsOk spec_l3Template.T5.2 spec_l3Template.B5 = true:=by kernel_rfl
def spec_l3Template.T7:Bool × List (List Nat × List Nat):=(true,[([],[]),([],[]),([0,1],[0,1]),([2],[2]),([],[]),([4],[4]),([3,5],[3,5]),([6],[6]),([5],[]),([],[]),([8,9],[8,9]),([10],[10]),([7,11],[7,11]),([12,8,0,1,2,3,4,5,6,7,8,9,10,11,12],[12])])
def spec_l3Template.B7:List Nat:=[0,0,3,7,0,16,63,127,48,0,816,1840,4095,8191]
theorem spec_l3Template.tab7:rtab .any (opsOf Tryz.f60 7) = spec_l3Template.T7:=by kernel_rfl
theorem spec_l3Template.bits7:waitsOk spec_l3Template.T7.2 spec_l3Template.B7 = true:=by kernel_rfl
def spec_l3Template.T13:Bool × List (List Nat × List Nat):=(true,[([],[]),([],[]),([0,1],[0,1]),([2],[2]),([3],[3]),([4],[4]),([0],[]),([],[]),([6,7],[6,7]),([8],[8]),([5,9],[5,9]),([10,6,0,1,2,3,4,5,6,7,8,9,10],[10])])
def spec_l3Template.B13:List Nat:=[0,0,3,7,15,31,1,0,193,449,1023,2047]
theorem spec_l3Template.tab13:rtab .any (opsOf Tryz.f60 13) = spec_l3Template.T13:=by kernel_rfl
theorem spec_l3Template.bits13:waitsOk spec_l3Template.T13.2 spec_l3Template.B13 = true:=by kernel_rfl
def spec_l3Template.T15:Bool × List (List Nat × List Nat):=(true,[([],[]),([],[]),([0,1],[0,1]),([2],[2]),([3],[3]),([0],[]),([],[]),([5,6],[5,6]),([7],[7]),([4,8],[4,8]),([9,5,0,1,2,3,4,5,6,7,8,9],[9])])
def spec_l3Template.B15:List Nat:=[0,0,3,7,15,1,0,97,225,511,1023]
theorem spec_l3Template.tab15:rtab .any (opsOf Tryz.f60 15) = spec_l3Template.T15:=by kernel_rfl
theorem spec_l3Template.bits15:waitsOk spec_l3Template.T15.2 spec_l3Template.B15 = true:=by kernel_rfl
theorem spec_l3Template.calls (k:Nat) (a0:Int) (a1:Bool) (r:ByteArray) (w:World) (h:spec_l3Template.f k a0 a1 = some r) :
  Calls Tryz.prog 60 #[.int .i64 a0,.bool a1] w fun e w' => e = .returned (.string r) ∧ Below w.heap.size w w':=by
 have HB:=Aside0.mk (Below.refl w.heap.size w)
 have H:=h;unfold spec_l3Template.f at H
 clear h
 have HC3:=Aside0.mk H
 clear H
 go_enter Tryz.func60,Tryz.ntmps60
 go_upto_region 4 with (fail)
 go_cut [15] (fun v15 wc => ∃ (kq:Nat) (x15_2:Bool),v15 = .bool x15_2 ∧ Aside0 (spec_l3Template.j0 kq a0 a1 (wrap64 (Int.tdiv a0 64)) (Int.tmod (wrap64 (Int.tdiv a0 8)) 8) (Int.tmod a0 8) x15_2 = some r) ∧ Aside0 (kq ≤ k) ∧ Aside0 (Below w.heap.size w wc))
 case first =>
  have H:=HC3.out
  clear HC3
  by_cases c4:a1 = true
  ·subst c4
   rewrite [if_pos rfl] at H
   have H':=Aside0.mk H
   clear H
   go_wp2
   go_meet
   case rel => exact ⟨_,(((wrap64 (Int.tdiv a0 64)) == 0)),q92_,H',⟨q121_⟩,⟨q72_⟩⟩
  replace c4:=Bool.eq_false_iff.mpr c4
  subst c4
  rewrite [if_neg (show ¬ (false = true) by decide)] at H
  have H':=Aside0.mk H
  clear H
  go_wp2
  go_meet
  case rel => exact ⟨_,(false),q92_,H',⟨q121_⟩,⟨q72_⟩⟩
 clear HC3
 try clear p2
 try clear c4
 obtain ⟨kq,x15_2,rfl,HA,HJ2,HB⟩:=hcut
 cases kq with
 | zero => exact absurd HA.out (by simp [spec_l3Template.j0])
 | succ kj2 =>
  have H:=HA.out
  clear HA
  simp only [spec_l3Template.j0] at H
  by_cases c5:x15_2 = true
  ·subst c5
   rewrite [if_pos rfl] at H
   replace H:=Option.bind_eq_some_iff.mp H
   obtain ⟨t379,A60,H⟩:=H
   have A6:=Aside0.mk A60
   clear A60
   obtain ⟨ji7,hji7⟩:∃ j_:Int,(Int.tmod (wrap64 (Int.tdiv a0 8)) 8) = j_:=⟨_,rfl⟩
   (first | rewrite [hji7] at H | simp only [hji7] at H)
   (try rw [hji7] at A6)
   by_cases c8:0 ≤ (ji7)
   rotate_left
   ·rw [if_neg c8] at H
    exact absurd H (by simp)
   rw [if_pos c8] at H
   have c8b0:=decide_eq_true c8
   clear c8
   by_cases c9:(ji7) < (t379.length:Int)
   rotate_left
   ·rw [if_neg c9] at H
    exact absurd H (by simp)
   rw [if_pos c9] at H
   have c9b0:=decide_eq_true c9
   clear c9
   by_cases c10:(rdOf ByteArray.empty t379 (ji7)).size + 1 ≤ 9223372036854775807
   rotate_left
   ·rw [if_neg c10] at H
    exact absurd H (by simp)
   rw [if_pos c10] at H
   have c10b0:=eq_true c10
   have c10b1:=decide_eq_true c10
   try have c10b2:(9223372036854775807 < (rdOf ByteArray.empty t379 (ji7)).size + 1) = False:=eq_false (Nat.not_lt.2 c10)
   replace H:=Option.bind_eq_some_iff.mp H
   obtain ⟨t383,A110,H⟩:=H
   have A11:=Aside0.mk A110
   clear A110
   obtain ⟨ji12,hji12⟩:∃ j_:Int,(Int.tmod a0 8) = j_:=⟨_,rfl⟩
   (first | rewrite [hji12] at H | simp only [hji12] at H)
   (try rw [hji12] at A6)
   (try rw [hji12] at A11)
   by_cases c13:0 ≤ (ji12)
   rotate_left
   ·rw [if_neg c13] at H
    exact absurd H (by simp)
   rw [if_pos c13] at H
   have c13b0:=decide_eq_true c13
   clear c13
   by_cases c14:(ji12) < (t383.length:Int)
   rotate_left
   ·rw [if_neg c14] at H
    exact absurd H (by simp)
   rw [if_pos c14] at H
   have c14b0:=decide_eq_true c14
   clear c14
   by_cases c15:((rdOf ByteArray.empty t379 (ji7)) ++ (⟨#[32]⟩:ByteArray)).size + (rdOf ByteArray.empty t383 (ji12)).size ≤ 9223372036854775807
   rotate_left
   ·rw [if_neg c15] at H
    exact absurd H (by simp)
   rw [if_pos c15] at H
   have c15b0:=eq_true c15
   (try (have c15b0e:=c15b0;simp only [ByteArray.size_append,ByteArray.size_extract,Nat.min_self,Nat.sub_zero,show (⟨#[32]⟩:ByteArray).size = 1 from rfl] at c15b0e))
   have c15b1:=decide_eq_true c15
   (try (have c15b1e:=c15b1;simp only [ByteArray.size_append,ByteArray.size_extract,Nat.min_self,Nat.sub_zero,show (⟨#[32]⟩:ByteArray).size = 1 from rfl] at c15b1e))
   try have c15b2:(9223372036854775807 < ((rdOf ByteArray.empty t379 (ji7)) ++ (⟨#[32]⟩:ByteArray)).size + (rdOf ByteArray.empty t383 (ji12)).size) = False:=eq_false (Nat.not_lt.2 c15)
   (try (have c15b2e:=c15b2;simp only [ByteArray.size_append,ByteArray.size_extract,Nat.min_self,Nat.sub_zero,show (⟨#[32]⟩:ByteArray).size = 1 from rfl] at c15b2e))
   obtain rfl:=Option.some.inj H
   try go_wp2
   have pi382:(0 ≤ ((ji7):Int)) = True:=eq_true (of_decide_eq_true q109_)
   have qi382:((ji7) < (t379.length:Int)) = True:=eq_true (of_decide_eq_true q109_)
   have pi386:(0 ≤ ((ji12):Int)) = True:=eq_true (of_decide_eq_true q109_)
   have qi386:((ji12) < (t383.length:Int)) = True:=eq_true (of_decide_eq_true q109_)
   have n0_:=Aside0.mk (below_drew1 HB.out)
   clear HB
   have HB:=n0_
   clear n0_
   refine start_ (n:=11) (S:=fun w' => True) (ds:=[]) #[false,false,false,false,false,false,false,false,false,false,false] (by kernel_rfl) rfl rfl trivial (fun hHeld => ?_);refine with_tabW spec_l3Template.tab5 spec_l3Template.bits5 (fun HT_ HW_ => ?_)
   generalize wc.drew = w16 at HB hHeld ⊢
   refine pure_ (i:=1) (N:=some 22) (v:=?_) (a':=?_) #[false,true,false,false,false,false,false,false,false,false,false] rfl rfl (any_of HT_.out (by kernel_rfl)) (fun _ _ _ h => h) (Or.inl ⟨by rfl,?_⟩) ?_ ?_
   rotate_left
   ·intro w'
    go_simp
    with_reducible rfl
   rotate_left
   ·simp only [Act.put,List.setIfInBounds_toArray,List.set_cons_zero,List.set_cons_succ,i64_w,i32_w]
    rfl
   refine pure_ (i:=6) (N:=some 27) (v:=?_) (a':=?_) #[false,true,false,false,false,false,true,false,false,false,false] rfl rfl (any_of HT_.out (by kernel_rfl)) (fun _ _ _ h => h) (Or.inl ⟨by rfl,?_⟩) ?_ ?_
   rotate_left
   ·intro w'
    go_simp
    with_reducible rfl
   rotate_left
   ·simp only [Act.put,List.setIfInBounds_toArray,List.set_cons_zero,List.set_cons_succ,i64_w,i32_w]
    rfl
   refine inv_at [0,2,3,4,5,7,8,9,10] (fun a0_ b a w' => ∃ (v380:Value) (adz_v380:Addr) (v384:Value) (adz_v384:Addr) (m2_:Value) (m7_:Value),a = putSel a0_ b [(0,21,v380),(2,23,m2_),(3,24,.string (rdOf ByteArray.empty t379 (ji7))),(4,25,.string ((rdOf ByteArray.empty t379 (ji7)) ++ (⟨#[32]⟩:ByteArray))),(5,26,v384),(7,28,m7_),(8,29,.string (rdOf ByteArray.empty t383 (ji12))),(9,30,.string (((rdOf ByteArray.empty t379 (ji7)) ++ (⟨#[32]⟩:ByteArray)) ++ (rdOf ByteArray.empty t383 (ji12)))),(10,4,.string (((rdOf ByteArray.empty t379 (ji7)) ++ (⟨#[32]⟩:ByteArray)) ++ (rdOf ByteArray.empty t383 (ji12))))] ∧ (Below w.heap.size w w') ∧ (b 0 = true → Kd.R Kd.string 9 w' w.heap.size (fun _ => True) v380 t379) ∧ (b 0 = true → ∃ c_,(v380:Value) = .slice (some adz_v380) t379.length c_) ∧ (b 5 = true → Kd.R Kd.string 9 w' w.heap.size (fun _ => True) v384 t383) ∧ (b 5 = true → ∃ c_,(v384:Value) = .slice (some adz_v384) t383.length c_) ∧ (b 2 = true → (m2_:Value) = .pointer (some (adz_v380.add ((ji7)).toNat))) ∧ (b 7 = true → (m7_:Value) = .pointer (some (adz_v384.add ((ji12)).toNat)))) HT_.out HW_.out (by kernel_rfl) (by kernel_rfl) ?_ ?_ ?_
   ·exact ⟨.bool false,⟨0,0,none⟩,.bool false,⟨0,0,none⟩,.bool false,.bool false,q110_,HB.out,fun h_ => absurd h_ (by decide),fun h_ => absurd h_ (by decide),fun h_ => absurd h_ (by decide),fun h_ => absurd h_ (by decide),fun h_ => absurd h_ (by decide),fun h_ => absurd h_ (by decide)⟩
   ·skip
    clear HB
    refine steps_cons ?_ ?_
    ·rintro b a w' ⟨v380,adz_v380,v384,adz_v384,m2_,m7_,ha,Q_HB,Q_HO381,Q_HA_HO381,Q_HO385,Q_HA_HO385,Q_X2_,Q_X7_⟩ hb_ hon hoff
     refine ⟨_,rfl,fun K hK => ?_⟩
     replace ha:=Aside0.mk ha
     have HB:=Aside0.mk Q_HB
     refine goes_ Tryz.func99 (by kernel_rfl) rfl #[] (by rfl) rfl rfl (by first | (simp only [List.map_toArray,List.map_cons,List.map_nil,Act.eval,Array.getD_eq_getD_getElem?,Option.getD_some];done) | (simp only [List.map_toArray,List.map_cons,List.map_nil,Act.eval,Array.getD_eq_getD_getElem?,Option.getD_some];rfl)) ?_
     with_reducible refine (spec_l3Turns.calls  t379 _ A6.out).mono ?_
     rintro e w17 ⟨v380,rfl,ho0,hb⟩
     refine ⟨_,rfl,?_⟩
     have n0_:=Aside0.mk (Kd.R_lower ho0 (below_size q72_))
     have n1_:=Aside0.mk (below_step q72_ hb)
     clear HB
     have HO381:=n0_
     have HB:=n1_
     clear n0_ n1_
     (try clear hb)
     (try clear hb2)
     (try clear hk)
     (try clear hi)
     (try clear ho0)
     obtain ⟨Ao18,co18,eo18⟩:=Kd.R_slice HO381.out
     subst eo18
     obtain ⟨ado18,fo18,_⟩:=Kd.at_string (Kd.R_reads' HO381.out).2.2 0 (by decide) (by have h1_:=of_eq_true pi382;have h2_:=of_eq_true qi382;omega)
     cases fo18
     refine hK.out _ _ ⟨.slice (some ado18) t379.length co18,ado18,v384,adz_v384,m2_,m7_,q111_,q72_,fun _ => q101_,fun _ => ⟨_,rfl⟩,fun h0_ => absurd ((hoff 5 (by kernel_rfl)).symm.trans h0_) (by decide),fun h0_ => absurd ((hoff 5 (by kernel_rfl)).symm.trans h0_) (by decide),fun h0_ => absurd ((hoff 2 (by kernel_rfl)).symm.trans h0_) (by decide),fun h0_ => absurd ((hoff 7 (by kernel_rfl)).symm.trans h0_) (by decide)⟩
    refine steps_cons ?_ ?_
    ·rintro b a w' ⟨v380,adz_v380,v384,adz_v384,m2_,m7_,ha,Q_HB,Q_HO381,Q_HA_HO381,Q_HO385,Q_HA_HO385,Q_X2_,Q_X7_⟩ hb_ hon hoff
     refine ⟨_,rfl,fun K hK => ?_⟩
     have e21:a.tmps[21]? = some (v380):=by rw [ha];exact putSel_on (e:=(0,21,v380)) 0 rfl rfl (hon 0 (by kernel_rfl)) rfl
     have e22:a.tmps[22]? = some (.int .i64 (ji7)):=by rw [ha];exact (putSel_off rfl).trans rfl
     replace ha:=Aside0.mk ha
     have HB:=Aside0.mk Q_HB
     have HO381:=Aside0.mk (Q_HO381 (hon 0 (by kernel_rfl)))
     have HA_HO381:=Aside0.mk (Q_HA_HO381 (hon 0 (by kernel_rfl)))
     obtain ⟨c_,hv_⟩:=HA_HO381.out
     rw [hv_] at e21
     refine value_ (w1:=w') (v:=.pointer (some (adz_v380.add ((ji7)).toNat))) (by rfl) rfl ?_ ?_
     ·go_simp
      (try simp only [i64_w])
      try rfl
     refine hK.out _ _ ⟨v380,adz_v380,v384,adz_v384,(.pointer (some (adz_v380.add ((ji7)).toNat))),m7_,q112_,Q_HB,Q_HO381,Q_HA_HO381,Q_HO385,Q_HA_HO385,fun _ => rfl,Q_X7_⟩
    refine steps_cons ?_ ?_
    ·rintro b a w' ⟨v380,adz_v380,v384,adz_v384,m2_,m7_,ha,Q_HB,Q_HO381,Q_HA_HO381,Q_HO385,Q_HA_HO385,Q_X2_,Q_X7_⟩ hb_ hon hoff
     refine ⟨_,rfl,fun K hK => ?_⟩
     have e23:a.tmps[23]? = some (m2_):=by rw [ha];exact putSel_on (e:=(2,23,m2_)) 1 rfl rfl (hon 2 (by kernel_rfl)) rfl
     rw [Q_X2_ (hon 2 (by kernel_rfl))] at e23
     replace ha:=Aside0.mk ha
     have HB:=Aside0.mk Q_HB
     have HO381:=Aside0.mk (Q_HO381 (hon 0 (by kernel_rfl)))
     have HA_HO381:=Aside0.mk (Q_HA_HO381 (hon 0 (by kernel_rfl)))
     obtain ⟨c_,hv_⟩:=HA_HO381.out
     have hF_:=HO381.out
     rw [hv_] at hF_
     obtain ⟨ad_,ea_,hx_⟩:=Kd.at_string (Kd.R_reads' hF_).2.2 (ji7) (of_eq_true pi382) (of_eq_true qi382)
     cases ea_
     refine value_ (w1:=w') (v:=.string (rdOf ByteArray.empty t379 (ji7))) (by rfl) rfl ?_ ?_
     ·go_simp
      (try simp only [i64_w])
      try rfl
     refine hK.out _ _ ⟨v380,adz_v380,v384,adz_v384,m2_,m7_,q113_,Q_HB,Q_HO381,Q_HA_HO381,Q_HO385,Q_HA_HO385,Q_X2_,Q_X7_⟩
    refine steps_cons ?_ ?_
    ·rintro b a w' ⟨v380,adz_v380,v384,adz_v384,m2_,m7_,ha,Q_HB,Q_HO381,Q_HA_HO381,Q_HO385,Q_HA_HO385,Q_X2_,Q_X7_⟩ hb_ hon hoff
     refine ⟨_,rfl,fun K hK => ?_⟩
     have e24:a.tmps[24]? = some (.string (rdOf ByteArray.empty t379 (ji7))):=by rw [ha];exact putSel_on (e:=(3,24,.string (rdOf ByteArray.empty t379 (ji7)))) 2 rfl rfl (hon 3 (by kernel_rfl)) rfl
     replace ha:=Aside0.mk ha
     have HB:=Aside0.mk Q_HB
     have HO381:=Aside0.mk (Q_HO381 (hon 0 (by kernel_rfl)))
     have HA_HO381:=Aside0.mk (Q_HA_HO381 (hon 0 (by kernel_rfl)))
     refine value_ (w1:=w') (v:=.string ((rdOf ByteArray.empty t379 (ji7)) ++ (⟨#[32]⟩:ByteArray))) (by rfl) rfl ?_ ?_
     ·go_simp
      (try simp only [i64_w])
      try rfl
     refine hK.out _ _ ⟨v380,adz_v380,v384,adz_v384,m2_,m7_,q114_,Q_HB,Q_HO381,Q_HA_HO381,Q_HO385,Q_HA_HO385,Q_X2_,Q_X7_⟩
    refine steps_cons ?_ ?_
    ·rintro b a w' ⟨v380,adz_v380,v384,adz_v384,m2_,m7_,ha,Q_HB,Q_HO381,Q_HA_HO381,Q_HO385,Q_HA_HO385,Q_X2_,Q_X7_⟩ hb_ hon hoff
     refine ⟨_,rfl,fun K hK => ?_⟩
     replace ha:=Aside0.mk ha
     have HB:=Aside0.mk Q_HB
     have HO381:=Aside0.mk (Q_HO381 (hon 0 (by kernel_rfl)))
     have HA_HO381:=Aside0.mk (Q_HA_HO381 (hon 0 (by kernel_rfl)))
     obtain ⟨co20,eo20⟩:=HA_HO381.out
     clear HA_HO381
     subst eo20
     refine goes_ Tryz.func100 (by kernel_rfl) rfl #[] (by rfl) rfl rfl (by first | (simp only [List.map_toArray,List.map_cons,List.map_nil,Act.eval,Array.getD_eq_getD_getElem?,Option.getD_some];done) | (simp only [List.map_toArray,List.map_cons,List.map_nil,Act.eval,Array.getD_eq_getD_getElem?,Option.getD_some];rfl)) ?_
     with_reducible refine (spec_l3Regs.calls  t383 _ A11.out).mono ?_
     rintro e w21 ⟨v384,rfl,ho0,hb⟩
     refine ⟨_,rfl,?_⟩
     have n0_:=Aside0.mk (Kd.R_elder' q101_ (Kd.R_base ho0) hb)
     have n1_:=Aside0.mk (Kd.R_lower (Kd.R_new' ho0 (Kd.R_lt q101_)) (below_size q72_))
     have n2_:=Aside0.mk (below_step q72_ hb)
     clear HO381
     clear HB
     have HO381:=n0_
     have HO385:=n1_
     have HB:=n2_
     clear n0_ n1_ n2_
     (try clear hb)
     (try clear hb2)
     (try clear hk)
     (try clear hi)
     (try clear ho0)
     obtain ⟨Ao22,co22,eo22⟩:=Kd.R_slice HO385.out
     subst eo22
     obtain ⟨ado22,fo22,_⟩:=Kd.at_string (Kd.R_reads' HO385.out).2.2 0 (by decide) (by have h1_:=of_eq_true pi386;have h2_:=of_eq_true qi386;omega)
     cases fo22
     refine hK.out _ _ ⟨.slice (some adz_v380) t379.length co20,adz_v380,.slice (some ado22) t383.length co22,ado22,m2_,m7_,q115_,q72_,fun _ => (by (with_reducible repeat (first | apply Kd.R_alloc | apply Kd.R_drewN | apply Kd.R_drew));exact Kd.R_mono HO381.out (fun _ hk => by first | exact hk.2 | trivial)),fun _ => ⟨_,rfl⟩,fun _ => (by (with_reducible repeat (first | apply Kd.R_alloc | apply Kd.R_drewN | apply Kd.R_drew));exact Kd.R_mono HO385.out (fun _ hk => by first | exact hk.2 | trivial)),fun _ => ⟨_,rfl⟩,Q_X2_,fun h0_ => absurd ((hoff 7 (by kernel_rfl)).symm.trans h0_) (by decide)⟩
    refine steps_cons ?_ ?_
    ·rintro b a w' ⟨v380,adz_v380,v384,adz_v384,m2_,m7_,ha,Q_HB,Q_HO381,Q_HA_HO381,Q_HO385,Q_HA_HO385,Q_X2_,Q_X7_⟩ hb_ hon hoff
     refine ⟨_,rfl,fun K hK => ?_⟩
     have e26:a.tmps[26]? = some (v384):=by rw [ha];exact putSel_on (e:=(5,26,v384)) 4 rfl rfl (hon 5 (by kernel_rfl)) rfl
     have e27:a.tmps[27]? = some (.int .i64 (ji12)):=by rw [ha];exact (putSel_off rfl).trans rfl
     replace ha:=Aside0.mk ha
     have HB:=Aside0.mk Q_HB
     have HO381:=Aside0.mk (Q_HO381 (hon 0 (by kernel_rfl)))
     have HA_HO381:=Aside0.mk (Q_HA_HO381 (hon 0 (by kernel_rfl)))
     have HO385:=Aside0.mk (Q_HO385 (hon 5 (by kernel_rfl)))
     have HA_HO385:=Aside0.mk (Q_HA_HO385 (hon 5 (by kernel_rfl)))
     obtain ⟨c_,hv_⟩:=HA_HO385.out
     rw [hv_] at e26
     refine value_ (w1:=w') (v:=.pointer (some (adz_v384.add ((ji12)).toNat))) (by rfl) rfl ?_ ?_
     ·go_simp
      (try simp only [i64_w])
      try rfl
     refine hK.out _ _ ⟨v380,adz_v380,v384,adz_v384,m2_,(.pointer (some (adz_v384.add ((ji12)).toNat))),q116_,Q_HB,Q_HO381,Q_HA_HO381,Q_HO385,Q_HA_HO385,Q_X2_,fun _ => rfl⟩
    refine steps_cons ?_ ?_
    ·rintro b a w' ⟨v380,adz_v380,v384,adz_v384,m2_,m7_,ha,Q_HB,Q_HO381,Q_HA_HO381,Q_HO385,Q_HA_HO385,Q_X2_,Q_X7_⟩ hb_ hon hoff
     refine ⟨_,rfl,fun K hK => ?_⟩
     have e28:a.tmps[28]? = some (m7_):=by rw [ha];exact putSel_on (e:=(7,28,m7_)) 5 rfl rfl (hon 7 (by kernel_rfl)) rfl
     rw [Q_X7_ (hon 7 (by kernel_rfl))] at e28
     replace ha:=Aside0.mk ha
     have HB:=Aside0.mk Q_HB
     have HO381:=Aside0.mk (Q_HO381 (hon 0 (by kernel_rfl)))
     have HA_HO381:=Aside0.mk (Q_HA_HO381 (hon 0 (by kernel_rfl)))
     have HO385:=Aside0.mk (Q_HO385 (hon 5 (by kernel_rfl)))
     have HA_HO385:=Aside0.mk (Q_HA_HO385 (hon 5 (by kernel_rfl)))
     obtain ⟨c_,hv_⟩:=HA_HO385.out
     have hF_:=HO385.out
     rw [hv_] at hF_
     obtain ⟨ad_,ea_,hx_⟩:=Kd.at_string (Kd.R_reads' hF_).2.2 (ji12) (of_eq_true pi386) (of_eq_true qi386)
     cases ea_
     refine value_ (w1:=w') (v:=.string (rdOf ByteArray.empty t383 (ji12))) (by rfl) rfl ?_ ?_
     ·go_simp
      (try simp only [i64_w])
      try rfl
     refine hK.out _ _ ⟨v380,adz_v380,v384,adz_v384,m2_,m7_,q117_,Q_HB,Q_HO381,Q_HA_HO381,Q_HO385,Q_HA_HO385,Q_X2_,Q_X7_⟩
    refine steps_cons ?_ ?_
    ·rintro b a w' ⟨v380,adz_v380,v384,adz_v384,m2_,m7_,ha,Q_HB,Q_HO381,Q_HA_HO381,Q_HO385,Q_HA_HO385,Q_X2_,Q_X7_⟩ hb_ hon hoff
     refine ⟨_,rfl,fun K hK => ?_⟩
     have e25:a.tmps[25]? = some (.string ((rdOf ByteArray.empty t379 (ji7)) ++ (⟨#[32]⟩:ByteArray))):=by rw [ha];exact putSel_on (e:=(4,25,.string ((rdOf ByteArray.empty t379 (ji7)) ++ (⟨#[32]⟩:ByteArray)))) 3 rfl rfl (hon 4 (by kernel_rfl)) rfl
     have e29:a.tmps[29]? = some (.string (rdOf ByteArray.empty t383 (ji12))):=by rw [ha];exact putSel_on (e:=(8,29,.string (rdOf ByteArray.empty t383 (ji12)))) 6 rfl rfl (hon 8 (by kernel_rfl)) rfl
     replace ha:=Aside0.mk ha
     have HB:=Aside0.mk Q_HB
     have HO381:=Aside0.mk (Q_HO381 (hon 0 (by kernel_rfl)))
     have HA_HO381:=Aside0.mk (Q_HA_HO381 (hon 0 (by kernel_rfl)))
     have HO385:=Aside0.mk (Q_HO385 (hon 5 (by kernel_rfl)))
     have HA_HO385:=Aside0.mk (Q_HA_HO385 (hon 5 (by kernel_rfl)))
     refine value_ (w1:=w') (v:=.string (((rdOf ByteArray.empty t379 (ji7)) ++ (⟨#[32]⟩:ByteArray)) ++ (rdOf ByteArray.empty t383 (ji12)))) (by rfl) rfl ?_ ?_
     ·go_simp
      (try simp only [i64_w])
      try rfl
     refine hK.out _ _ ⟨v380,adz_v380,v384,adz_v384,m2_,m7_,q118_,Q_HB,Q_HO381,Q_HA_HO381,Q_HO385,Q_HA_HO385,Q_X2_,Q_X7_⟩
    refine steps_cons ?_ ?_
    ·rintro b a w' ⟨v380,adz_v380,v384,adz_v384,m2_,m7_,ha,Q_HB,Q_HO381,Q_HA_HO381,Q_HO385,Q_HA_HO385,Q_X2_,Q_X7_⟩ hb_ hon hoff
     refine ⟨_,rfl,fun K hK => ?_⟩
     have e30:a.tmps[30]? = some (.string (((rdOf ByteArray.empty t379 (ji7)) ++ (⟨#[32]⟩:ByteArray)) ++ (rdOf ByteArray.empty t383 (ji12)))):=by rw [ha];exact putSel_on (e:=(9,30,.string (((rdOf ByteArray.empty t379 (ji7)) ++ (⟨#[32]⟩:ByteArray)) ++ (rdOf ByteArray.empty t383 (ji12))))) 7 rfl rfl (hon 9 (by kernel_rfl)) rfl
     replace ha:=Aside0.mk ha
     have HB:=Aside0.mk Q_HB
     have HO381:=Aside0.mk (Q_HO381 (hon 0 (by kernel_rfl)))
     have HA_HO381:=Aside0.mk (Q_HA_HO381 (hon 0 (by kernel_rfl)))
     have HO385:=Aside0.mk (Q_HO385 (hon 5 (by kernel_rfl)))
     have HA_HO385:=Aside0.mk (Q_HA_HO385 (hon 5 (by kernel_rfl)))
     refine value_ (w1:=w') (v:=.string (((rdOf ByteArray.empty t379 (ji7)) ++ (⟨#[32]⟩:ByteArray)) ++ (rdOf ByteArray.empty t383 (ji12)))) (by rfl) rfl ?_ ?_
     ·go_simp
      (try simp only [i64_w])
      try rfl
     refine hK.out _ _ ⟨v380,adz_v380,v384,adz_v384,m2_,m7_,q119_,Q_HB,Q_HO381,Q_HA_HO381,Q_HO385,Q_HA_HO385,Q_X2_,Q_X7_⟩
    exact steps_nil
   rintro b a w21 hall ⟨v380,adz_v380,v384,adz_v384,m2_,m7_,ha,Q_HB,Q_HO381,Q_HA_HO381,Q_HO385,Q_HA_HO385,Q_X2_,Q_X7_⟩
   clear HB
   have hb0_:=hall 0 (by kernel_rfl)
   have hb2_:=hall 2 (by kernel_rfl)
   have hb3_:=hall 3 (by kernel_rfl)
   have hb4_:=hall 4 (by kernel_rfl)
   have hb5_:=hall 5 (by kernel_rfl)
   have hb7_:=hall 7 (by kernel_rfl)
   have hb8_:=hall 8 (by kernel_rfl)
   have hb9_:=hall 9 (by kernel_rfl)
   have hb10_:=hall 10 (by kernel_rfl)
   subst ha
   obtain rfl:=Q_X2_ hb2_
   obtain rfl:=Q_X7_ hb7_
   simp only [putSel,hb0_,hb2_,hb3_,hb4_,hb5_,hb7_,hb8_,hb9_,hb10_,if_true,Act.put,List.setIfInBounds_toArray,List.set_cons_zero,List.set_cons_succ]
   have HB:=Aside0.mk Q_HB
   clear Q_HB
   have HO381:=Aside0.mk (Q_HO381 hb0_)
   clear Q_HO381
   have HA_HO381:=Aside0.mk (Q_HA_HO381 hb0_)
   clear Q_HA_HO381
   have HO385:=Aside0.mk (Q_HO385 hb5_)
   clear Q_HO385
   have HA_HO385:=Aside0.mk (Q_HA_HO385 hb5_)
   clear Q_HA_HO385
   clear hall hb0_ hb2_ hb3_ hb4_ hb5_ hb7_ hb8_ hb9_ hb10_
   obtain ⟨co22,eo22⟩:=HA_HO381.out
   clear HA_HO381
   subst eo22
   obtain ⟨co23,eo23⟩:=HA_HO385.out
   clear HA_HO385
   subst eo23
   try go_wp2
   go_ret
   exact ⟨by first | rfl | (simp [errW_none,errW_some] <;> rfl) | (simp only [← hji7,← hji12];first | rfl | (simp [errW_none,errW_some] <;> rfl)) | (simp [*,errW_none,errW_some] <;> rfl) | (exfalso;simp_all;done),q72_⟩
  replace c5:=Bool.eq_false_iff.mpr c5
  subst c5
  rewrite [if_neg (show ¬ (false = true) by decide)] at H
  by_cases c24:a1 = true
  ·subst c24
   rewrite [if_pos rfl] at H
   obtain ⟨y387,hy387⟩:∃ y_:List ByteArray,y_ = (([(⟨#[]⟩:ByteArray),(⟨#[98,105,116,32]⟩:ByteArray),(⟨#[114,101,115,32]⟩:ByteArray),(⟨#[115,101,116,32]⟩:ByteArray)]:List ByteArray)):=⟨_,rfl⟩
   replace H:(if 0 ≤ (wrap64 (Int.tdiv a0 64)) then (if (wrap64 (Int.tdiv a0 64)) < (y387.length:Int) then ((spec_l1Dec.f kj2 (Int.tmod (wrap64 (Int.tdiv a0 8)) 8)).bind fun t391 => (if (rdOf ByteArray.empty y387 (wrap64 (Int.tdiv a0 64))).size + t391.size ≤ 9223372036854775807 then (if ((rdOf ByteArray.empty y387 (wrap64 (Int.tdiv a0 64))) ++ t391).size + 1 ≤ 9223372036854775807 then ((spec_l3Regs.f).bind fun t392 => (if 0 ≤ (Int.tmod a0 8) then (if (Int.tmod a0 8) < (t392.length:Int) then (if (((rdOf ByteArray.empty y387 (wrap64 (Int.tdiv a0 64))) ++ t391) ++ (⟨#[44]⟩:ByteArray)).size + (rdOf ByteArray.empty t392 (Int.tmod a0 8)).size ≤ 9223372036854775807 then (some ((((rdOf ByteArray.empty y387 (wrap64 (Int.tdiv a0 64))) ++ t391) ++ (⟨#[44]⟩:ByteArray)) ++ (rdOf ByteArray.empty t392 (Int.tmod a0 8)))) else (none)) else (none)) else (none))) else (none)) else (none))) else (none)) else (none)) = some r:=by first | (rw [hy387];exact H) | exact H
   have Ny387:=Aside0.mk hy387
   clear hy387
   obtain ⟨ji25,hji25⟩:∃ j_:Int,(wrap64 (Int.tdiv a0 64)) = j_:=⟨_,rfl⟩
   (first | rewrite [hji25] at H | simp only [hji25] at H)
   have hji25w:(IntKind.i64.wrap (Int.tdiv a0 64)) = ji25:=(i64_w _).trans hji25
   by_cases c26:0 ≤ (ji25)
   rotate_left
   ·rw [if_neg c26] at H
    exact absurd H (by simp)
   rw [if_pos c26] at H
   have c26b0:=decide_eq_true c26
   clear c26
   by_cases c27:(ji25) < (y387.length:Int)
   rotate_left
   ·rw [if_neg c27] at H
    exact absurd H (by simp)
   rw [if_pos c27] at H
   have c27b0:=decide_eq_true c27
   clear c27
   replace H:=Option.bind_eq_some_iff.mp H
   obtain ⟨t391,A280,H⟩:=H
   have A28:=Aside0.mk A280
   clear A280
   by_cases c29:(rdOf ByteArray.empty y387 (ji25)).size + t391.size ≤ 9223372036854775807
   rotate_left
   ·rw [if_neg c29] at H
    exact absurd H (by simp)
   rw [if_pos c29] at H
   have c29b0:=eq_true c29
   have c29b1:=decide_eq_true c29
   try have c29b2:(9223372036854775807 < (rdOf ByteArray.empty y387 (ji25)).size + t391.size) = False:=eq_false (Nat.not_lt.2 c29)
   by_cases c30:((rdOf ByteArray.empty y387 (ji25)) ++ t391).size + 1 ≤ 9223372036854775807
   rotate_left
   ·rw [if_neg c30] at H
    exact absurd H (by simp)
   rw [if_pos c30] at H
   have c30b0:=eq_true c30
   (try (have c30b0e:=c30b0;simp only [ByteArray.size_append,ByteArray.size_extract,Nat.min_self,Nat.sub_zero] at c30b0e))
   have c30b1:=decide_eq_true c30
   (try (have c30b1e:=c30b1;simp only [ByteArray.size_append,ByteArray.size_extract,Nat.min_self,Nat.sub_zero] at c30b1e))
   try have c30b2:(9223372036854775807 < ((rdOf ByteArray.empty y387 (ji25)) ++ t391).size + 1) = False:=eq_false (Nat.not_lt.2 c30)
   (try (have c30b2e:=c30b2;simp only [ByteArray.size_append,ByteArray.size_extract,Nat.min_self,Nat.sub_zero] at c30b2e))
   replace H:=Option.bind_eq_some_iff.mp H
   obtain ⟨t392,A310,H⟩:=H
   have A31:=Aside0.mk A310
   clear A310
   obtain ⟨ji32,hji32⟩:∃ j_:Int,(Int.tmod a0 8) = j_:=⟨_,rfl⟩
   (first | rewrite [hji32] at H | simp only [hji32] at H)
   (try rw [hji32] at A28)
   (try rw [hji32] at A31)
   by_cases c33:0 ≤ (ji32)
   rotate_left
   ·rw [if_neg c33] at H
    exact absurd H (by simp)
   rw [if_pos c33] at H
   have c33b0:=decide_eq_true c33
   clear c33
   by_cases c34:(ji32) < (t392.length:Int)
   rotate_left
   ·rw [if_neg c34] at H
    exact absurd H (by simp)
   rw [if_pos c34] at H
   have c34b0:=decide_eq_true c34
   clear c34
   by_cases c35:(((rdOf ByteArray.empty y387 (ji25)) ++ t391) ++ (⟨#[44]⟩:ByteArray)).size + (rdOf ByteArray.empty t392 (ji32)).size ≤ 9223372036854775807
   rotate_left
   ·rw [if_neg c35] at H
    exact absurd H (by simp)
   rw [if_pos c35] at H
   have c35b0:=eq_true c35
   (try (have c35b0e:=c35b0;simp only [ByteArray.size_append,ByteArray.size_extract,Nat.min_self,Nat.sub_zero,show (⟨#[44]⟩:ByteArray).size = 1 from rfl] at c35b0e))
   have c35b1:=decide_eq_true c35
   (try (have c35b1e:=c35b1;simp only [ByteArray.size_append,ByteArray.size_extract,Nat.min_self,Nat.sub_zero,show (⟨#[44]⟩:ByteArray).size = 1 from rfl] at c35b1e))
   try have c35b2:(9223372036854775807 < (((rdOf ByteArray.empty y387 (ji25)) ++ t391) ++ (⟨#[44]⟩:ByteArray)).size + (rdOf ByteArray.empty t392 (ji32)).size) = False:=eq_false (Nat.not_lt.2 c35)
   (try (have c35b2e:=c35b2;simp only [ByteArray.size_append,ByteArray.size_extract,Nat.min_self,Nat.sub_zero,show (⟨#[44]⟩:ByteArray).size = 1 from rfl] at c35b2e))
   obtain rfl:=Option.some.inj H
   try go_wp2
   have pi390:(0 ≤ ((ji25):Int)) = True:=eq_true (of_decide_eq_true q109_)
   have qi390:((ji25) < (y387.length:Int)) = True:=eq_true (of_decide_eq_true q109_)
   have pi395:(0 ≤ ((ji32):Int)) = True:=eq_true (of_decide_eq_true q109_)
   have qi395:((ji32) < (t392.length:Int)) = True:=eq_true (of_decide_eq_true q109_)
   have n0_:=Aside0.mk (below_drew1 HB.out)
   clear HB
   have HB:=n0_
   clear n0_
   refine start_ (n:=14) (S:=fun w' => True) (ds:=[]) #[false,false,false,false,false,false,false,false,false,false,false,false,false,false] (by kernel_rfl) rfl rfl trivial (fun hHeld => ?_);refine with_tabW spec_l3Template.tab7 spec_l3Template.bits7 (fun HT_ HW_ => ?_)
   generalize wc.drew = w36 at HB hHeld ⊢
   refine pure_ (i:=1) (N:=some 34) (v:=?_) (a':=?_) #[false,true,false,false,false,false,false,false,false,false,false,false,false,false] rfl rfl (any_of HT_.out (by kernel_rfl)) (fun _ _ _ h => h) (Or.inl ⟨by rfl,?_⟩) ?_ ?_
   rotate_left
   ·intro w'
    go_simp
    with_reducible rfl
   rotate_left
   ·simp only [Act.put,List.setIfInBounds_toArray,List.set_cons_zero,List.set_cons_succ,i64_w,i32_w]
    rfl
   refine pure_ (i:=4) (N:=some 37) (v:=?_) (a':=?_) #[false,true,false,false,true,false,false,false,false,false,false,false,false,false] rfl rfl (any_of HT_.out (by kernel_rfl)) (fun _ _ _ h => h) (Or.inl ⟨by rfl,?_⟩) ?_ ?_
   rotate_left
   ·intro w'
    go_simp
    with_reducible rfl
   rotate_left
   ·simp only [Act.put,List.setIfInBounds_toArray,List.set_cons_zero,List.set_cons_succ,i64_w,i32_w]
    rfl
   refine pure_ (i:=9) (N:=some 42) (v:=?_) (a':=?_) #[false,true,false,false,true,false,false,false,false,true,false,false,false,false] rfl rfl (any_of HT_.out (by kernel_rfl)) (fun _ _ _ h => h) (Or.inl ⟨by rfl,?_⟩) ?_ ?_
   rotate_left
   ·intro w'
    go_simp
    with_reducible rfl
   rotate_left
   ·simp only [Act.put,List.setIfInBounds_toArray,List.set_cons_zero,List.set_cons_succ,i64_w,i32_w]
    rfl
   refine inv_at [0,2,3,5,6,7,8,10,11,12,13] (fun a0_ b a w' => ∃ (v388:Value) (adz_v388:Addr) (v393:Value) (adz_v393:Addr) (m2_:Value) (m10_:Value),a = putSel a0_ b [(0,33,v388),(2,35,m2_),(3,36,.string (rdOf ByteArray.empty y387 (ji25))),(5,38,.string t391),(6,39,.string ((rdOf ByteArray.empty y387 (ji25)) ++ t391)),(7,40,.string (((rdOf ByteArray.empty y387 (ji25)) ++ t391) ++ (⟨#[44]⟩:ByteArray))),(8,41,v393),(10,43,m10_),(11,44,.string (rdOf ByteArray.empty t392 (ji32))),(12,45,.string ((((rdOf ByteArray.empty y387 (ji25)) ++ t391) ++ (⟨#[44]⟩:ByteArray)) ++ (rdOf ByteArray.empty t392 (ji32)))),(13,4,.string ((((rdOf ByteArray.empty y387 (ji25)) ++ t391) ++ (⟨#[44]⟩:ByteArray)) ++ (rdOf ByteArray.empty t392 (ji32))))] ∧ (Below w.heap.size w w') ∧ (b 0 = true → Kd.R Kd.string 9 w' w.heap.size (fun _ => True) v388 y387) ∧ (b 0 = true → ∃ c_,(v388:Value) = .slice (some adz_v388) y387.length c_) ∧ (b 8 = true → Kd.R Kd.string 9 w' w.heap.size (fun _ => True) v393 t392) ∧ (b 8 = true → ∃ c_,(v393:Value) = .slice (some adz_v393) t392.length c_) ∧ (b 2 = true → (m2_:Value) = .pointer (some (adz_v388.add ((ji25)).toNat))) ∧ (b 10 = true → (m10_:Value) = .pointer (some (adz_v393.add ((ji32)).toNat)))) HT_.out HW_.out (by kernel_rfl) (by kernel_rfl) ?_ ?_ ?_
   ·exact ⟨.bool false,⟨0,0,none⟩,.bool false,⟨0,0,none⟩,.bool false,.bool false,q110_,HB.out,fun h_ => absurd h_ (by decide),fun h_ => absurd h_ (by decide),fun h_ => absurd h_ (by decide),fun h_ => absurd h_ (by decide),fun h_ => absurd h_ (by decide),fun h_ => absurd h_ (by decide)⟩
   ·skip
    clear HB
    refine steps_cons ?_ ?_
    ·rintro b a w' ⟨v388,adz_v388,v393,adz_v393,m2_,m10_,ha,Q_HB,Q_HO389,Q_HA_HO389,Q_HO394,Q_HA_HO394,Q_X2_,Q_X10_⟩ hb_ hon hoff
     refine ⟨_,rfl,fun K hK => ?_⟩
     replace ha:=Aside0.mk ha
     have HB:=Aside0.mk Q_HB
     refine Kd.R_lit_step Kd.string _ 9 ?hg (N:=33) ?hd (xs:=([(⟨#[]⟩:ByteArray),(⟨#[98,105,116,32]⟩:ByteArray),(⟨#[114,101,115,32]⟩:ByteArray),(⟨#[115,101,116,32]⟩:ByteArray)]:List ByteArray)) (inner:=[.string (⟨#[]⟩:ByteArray),.string (⟨#[98,105,116,32]⟩:ByteArray),.string (⟨#[114,101,115,32]⟩:ByteArray),.string (⟨#[115,101,116,32]⟩:ByteArray)]) (ok:=fun _ => True) (okp:=fun _ => True) ?hr ?hp (fun _ hk => hk) trivial (Below.refl _ _) (Nat.le_refl _) (by simp) ?_;(case hd => rfl);(case hg => rfl);(case hr => exact q139_);(case hp => exact (Reps.one (show Kd.M Kd.string _ _ _ (⟨#[]⟩:ByteArray) [.string (⟨#[]⟩:ByteArray)] from rfl) (Reps.one (show Kd.M Kd.string _ _ _ (⟨#[98,105,116,32]⟩:ByteArray) [.string (⟨#[98,105,116,32]⟩:ByteArray)] from rfl) (Reps.one (show Kd.M Kd.string _ _ _ (⟨#[114,101,115,32]⟩:ByteArray) [.string (⟨#[114,101,115,32]⟩:ByteArray)] from rfl) (Reps.one (show Kd.M Kd.string _ _ _ (⟨#[115,101,116,32]⟩:ByteArray) [.string (⟨#[115,101,116,32]⟩:ByteArray)] from rfl) (Reps.none _ _))))))
     intro v388 w37 ho38 hb hg_ hnew_
     clear hg_ hnew_
     (first | rw [← Ny387.out] at ho38 | (simp only [Int.reduceToNat] at ho38;rw [← Ny387.out] at ho38))
     have n0_:=Aside0.mk (Kd.R_lower ho38 (below_size q72_))
     have n1_:=Aside0.mk (below_step q72_ hb)
     have z_HO394:=fun (h0_:b 8 = true) => (show Kd.R Kd.string 9 w37 w.heap.size (fun _ => True) v393 t392 from by first | exact (Kd.R_elder' (by (with_reducible repeat (first | apply Kd.R_alloc | apply Kd.R_drewN | apply Kd.R_drew));exact (Q_HO394 h0_)) (Kd.R_base ho38) hb) | exact Kd.R_mono (Kd.R_elder' (by (with_reducible repeat (first | apply Kd.R_alloc | apply Kd.R_drewN | apply Kd.R_drew));exact (Q_HO394 h0_)) (Kd.R_base ho38) hb) (fun _ h_ => by first | trivial | exact h_ | exact h_.1))
     clear HB
     have HO389:=n0_
     have HB:=n1_
     clear n0_ n1_
     clear hb ho38
     obtain ⟨Ao39,co39,eo39⟩:=Kd.R_slice HO389.out
     subst eo39
     obtain ⟨ado39,fo39,_⟩:=Kd.at_string (Kd.R_reads' HO389.out).2.2 0 (by decide) (by rw [Ny387.out];simp)
     cases fo39
     refine hK.out _ _ ⟨.slice (some ado39) y387.length co39,ado39,v393,adz_v393,m2_,m10_,q111_,q72_,fun _ => (by (with_reducible repeat (first | apply Kd.R_alloc | apply Kd.R_drewN | apply Kd.R_drew));exact HO389.out),fun _ => ⟨_,rfl⟩,z_HO394,Q_HA_HO394,fun h0_ => absurd ((hoff 2 (by kernel_rfl)).symm.trans h0_) (by decide),Q_X10_⟩
    refine steps_cons ?_ ?_
    ·rintro b a w' ⟨v388,adz_v388,v393,adz_v393,m2_,m10_,ha,Q_HB,Q_HO389,Q_HA_HO389,Q_HO394,Q_HA_HO394,Q_X2_,Q_X10_⟩ hb_ hon hoff
     refine ⟨_,rfl,fun K hK => ?_⟩
     have e33:a.tmps[33]? = some (v388):=by rw [ha];exact putSel_on (e:=(0,33,v388)) 0 rfl rfl (hon 0 (by kernel_rfl)) rfl
     have e34:a.tmps[34]? = some (.int .i64 (ji25)):=by rw [ha];exact (putSel_off rfl).trans rfl
     replace ha:=Aside0.mk ha
     have HB:=Aside0.mk Q_HB
     have HO389:=Aside0.mk (Q_HO389 (hon 0 (by kernel_rfl)))
     have HA_HO389:=Aside0.mk (Q_HA_HO389 (hon 0 (by kernel_rfl)))
     obtain ⟨c_,hv_⟩:=HA_HO389.out
     rw [hv_] at e33
     refine value_ (w1:=w') (v:=.pointer (some (adz_v388.add ((ji25)).toNat))) (by rfl) rfl ?_ ?_
     ·go_simp
      (try simp only [i64_w])
      try rfl
     refine hK.out _ _ ⟨v388,adz_v388,v393,adz_v393,(.pointer (some (adz_v388.add ((ji25)).toNat))),m10_,q112_,Q_HB,Q_HO389,Q_HA_HO389,Q_HO394,Q_HA_HO394,fun _ => rfl,Q_X10_⟩
    refine steps_cons ?_ ?_
    ·rintro b a w' ⟨v388,adz_v388,v393,adz_v393,m2_,m10_,ha,Q_HB,Q_HO389,Q_HA_HO389,Q_HO394,Q_HA_HO394,Q_X2_,Q_X10_⟩ hb_ hon hoff
     refine ⟨_,rfl,fun K hK => ?_⟩
     have e35:a.tmps[35]? = some (m2_):=by rw [ha];exact putSel_on (e:=(2,35,m2_)) 1 rfl rfl (hon 2 (by kernel_rfl)) rfl
     rw [Q_X2_ (hon 2 (by kernel_rfl))] at e35
     replace ha:=Aside0.mk ha
     have HB:=Aside0.mk Q_HB
     have HO389:=Aside0.mk (Q_HO389 (hon 0 (by kernel_rfl)))
     have HA_HO389:=Aside0.mk (Q_HA_HO389 (hon 0 (by kernel_rfl)))
     obtain ⟨c_,hv_⟩:=HA_HO389.out
     have hF_:=HO389.out
     rw [hv_] at hF_
     obtain ⟨ad_,ea_,hx_⟩:=Kd.at_string (Kd.R_reads' hF_).2.2 (ji25) (of_eq_true pi390) (of_eq_true qi390)
     cases ea_
     refine value_ (w1:=w') (v:=.string (rdOf ByteArray.empty y387 (ji25))) (by rfl) rfl ?_ ?_
     ·go_simp
      (try simp only [i64_w])
      try rfl
     refine hK.out _ _ ⟨v388,adz_v388,v393,adz_v393,m2_,m10_,q113_,Q_HB,Q_HO389,Q_HA_HO389,Q_HO394,Q_HA_HO394,Q_X2_,Q_X10_⟩
    refine steps_cons ?_ ?_
    ·rintro b a w' ⟨v388,adz_v388,v393,adz_v393,m2_,m10_,ha,Q_HB,Q_HO389,Q_HA_HO389,Q_HO394,Q_HA_HO394,Q_X2_,Q_X10_⟩ hb_ hon hoff
     refine ⟨_,rfl,fun K hK => ?_⟩
     have e37:a.tmps[37]? = some (.int .i64 (Int.tmod (wrap64 (Int.tdiv a0 8)) 8)):=by rw [ha];exact (putSel_off rfl).trans rfl
     replace ha:=Aside0.mk ha
     have HB:=Aside0.mk Q_HB
     refine goes_ Tryz.func71 (by kernel_rfl) rfl #[.int .i64 (Int.tmod (wrap64 (Int.tdiv a0 8)) 8)] (by rfl) rfl rfl (by first | (simp only [List.map_toArray,List.map_cons,List.map_nil,Act.eval,Array.getD_eq_getD_getElem?,Option.getD_some,e37];done) | (simp only [List.map_toArray,List.map_cons,List.map_nil,Act.eval,Array.getD_eq_getD_getElem?,Option.getD_some,e37];rfl)) ?_
     with_reducible refine (spec_l1Dec.calls kj2 (Int.tmod (wrap64 (Int.tdiv a0 8)) 8) t391 _ A28.out).mono ?_
     rintro e w37 ⟨rfl,hb⟩
     refine ⟨_,rfl,?_⟩
     have n0_:=Aside0.mk (below_step q72_ hb)
     have z_HO389:=fun (h0_:b 0 = true) => (show Kd.R Kd.string 9 w37 w.heap.size (fun _ => True) v388 y387 from by first | exact (Kd.R_below q93_ hb) | exact Kd.R_mono (Kd.R_below q93_ hb) (fun _ h_ => by first | trivial | exact h_ | exact h_.1))
     clear HB
     have HB:=n0_
     clear n0_
     (try clear hb)
     (try clear hb2)
     (try clear hk)
     (try clear hi)
     refine hK.out _ _ ⟨v388,adz_v388,v393,adz_v393,m2_,m10_,q114_,q72_,z_HO389,Q_HA_HO389,fun h0_ => absurd ((hoff 8 (by kernel_rfl)).symm.trans h0_) (by decide),fun h0_ => absurd ((hoff 8 (by kernel_rfl)).symm.trans h0_) (by decide),Q_X2_,fun h0_ => absurd ((hoff 10 (by kernel_rfl)).symm.trans h0_) (by decide)⟩
    refine steps_cons ?_ ?_
    ·rintro b a w' ⟨v388,adz_v388,v393,adz_v393,m2_,m10_,ha,Q_HB,Q_HO389,Q_HA_HO389,Q_HO394,Q_HA_HO394,Q_X2_,Q_X10_⟩ hb_ hon hoff
     refine ⟨_,rfl,fun K hK => ?_⟩
     have e36:a.tmps[36]? = some (.string (rdOf ByteArray.empty y387 (ji25))):=by rw [ha];exact putSel_on (e:=(3,36,.string (rdOf ByteArray.empty y387 (ji25)))) 2 rfl rfl (hon 3 (by kernel_rfl)) rfl
     have e38:a.tmps[38]? = some (.string t391):=by rw [ha];exact putSel_on (e:=(5,38,.string t391)) 3 rfl rfl (hon 5 (by kernel_rfl)) rfl
     replace ha:=Aside0.mk ha
     have HB:=Aside0.mk Q_HB
     have HO389:=Aside0.mk (Q_HO389 (hon 0 (by kernel_rfl)))
     have HA_HO389:=Aside0.mk (Q_HA_HO389 (hon 0 (by kernel_rfl)))
     refine value_ (w1:=w') (v:=.string ((rdOf ByteArray.empty y387 (ji25)) ++ t391)) (by rfl) rfl ?_ ?_
     ·go_simp
      (try simp only [i64_w])
      try rfl
     refine hK.out _ _ ⟨v388,adz_v388,v393,adz_v393,m2_,m10_,q115_,Q_HB,Q_HO389,Q_HA_HO389,Q_HO394,Q_HA_HO394,Q_X2_,Q_X10_⟩
    refine steps_cons ?_ ?_
    ·rintro b a w' ⟨v388,adz_v388,v393,adz_v393,m2_,m10_,ha,Q_HB,Q_HO389,Q_HA_HO389,Q_HO394,Q_HA_HO394,Q_X2_,Q_X10_⟩ hb_ hon hoff
     refine ⟨_,rfl,fun K hK => ?_⟩
     have e39:a.tmps[39]? = some (.string ((rdOf ByteArray.empty y387 (ji25)) ++ t391)):=by rw [ha];exact putSel_on (e:=(6,39,.string ((rdOf ByteArray.empty y387 (ji25)) ++ t391))) 4 rfl rfl (hon 6 (by kernel_rfl)) rfl
     replace ha:=Aside0.mk ha
     have HB:=Aside0.mk Q_HB
     have HO389:=Aside0.mk (Q_HO389 (hon 0 (by kernel_rfl)))
     have HA_HO389:=Aside0.mk (Q_HA_HO389 (hon 0 (by kernel_rfl)))
     refine value_ (w1:=w') (v:=.string (((rdOf ByteArray.empty y387 (ji25)) ++ t391) ++ (⟨#[44]⟩:ByteArray))) (by rfl) rfl ?_ ?_
     ·go_simp
      (try simp only [i64_w])
      try rfl
     refine hK.out _ _ ⟨v388,adz_v388,v393,adz_v393,m2_,m10_,q116_,Q_HB,Q_HO389,Q_HA_HO389,Q_HO394,Q_HA_HO394,Q_X2_,Q_X10_⟩
    refine steps_cons ?_ ?_
    ·rintro b a w' ⟨v388,adz_v388,v393,adz_v393,m2_,m10_,ha,Q_HB,Q_HO389,Q_HA_HO389,Q_HO394,Q_HA_HO394,Q_X2_,Q_X10_⟩ hb_ hon hoff
     refine ⟨_,rfl,fun K hK => ?_⟩
     replace ha:=Aside0.mk ha
     have HB:=Aside0.mk Q_HB
     refine goes_ Tryz.func100 (by kernel_rfl) rfl #[] (by rfl) rfl rfl (by first | (simp only [List.map_toArray,List.map_cons,List.map_nil,Act.eval,Array.getD_eq_getD_getElem?,Option.getD_some];done) | (simp only [List.map_toArray,List.map_cons,List.map_nil,Act.eval,Array.getD_eq_getD_getElem?,Option.getD_some];rfl)) ?_
     with_reducible refine (spec_l3Regs.calls  t392 _ A31.out).mono ?_
     rintro e w39 ⟨v393,rfl,ho0,hb⟩
     refine ⟨_,rfl,?_⟩
     have n0_:=Aside0.mk (Kd.R_lower ho0 (below_size q72_))
     have n1_:=Aside0.mk (below_step q72_ hb)
     have z_HO389:=fun (h0_:b 0 = true) => (show Kd.R Kd.string 9 w39 w.heap.size (fun _ => True) v388 y387 from by first | exact (Kd.R_elder' q93_ (Kd.R_base ho0) hb) | exact Kd.R_mono (Kd.R_elder' q93_ (Kd.R_base ho0) hb) (fun _ h_ => by first | trivial | exact h_ | exact h_.1))
     clear HB
     have HO394:=n0_
     have HB:=n1_
     clear n0_ n1_
     (try clear hb)
     (try clear hb2)
     (try clear hk)
     (try clear hi)
     (try clear ho0)
     obtain ⟨Ao40,co40,eo40⟩:=Kd.R_slice HO394.out
     subst eo40
     obtain ⟨ado40,fo40,_⟩:=Kd.at_string (Kd.R_reads' HO394.out).2.2 0 (by decide) (by have h1_:=of_eq_true pi395;have h2_:=of_eq_true qi395;omega)
     cases fo40
     refine hK.out _ _ ⟨v388,adz_v388,.slice (some ado40) t392.length co40,ado40,m2_,m10_,q117_,q72_,z_HO389,Q_HA_HO389,fun _ => (by (with_reducible repeat (first | apply Kd.R_alloc | apply Kd.R_drewN | apply Kd.R_drew));exact HO394.out),fun _ => ⟨_,rfl⟩,Q_X2_,fun h0_ => absurd ((hoff 10 (by kernel_rfl)).symm.trans h0_) (by decide)⟩
    refine steps_cons ?_ ?_
    ·rintro b a w' ⟨v388,adz_v388,v393,adz_v393,m2_,m10_,ha,Q_HB,Q_HO389,Q_HA_HO389,Q_HO394,Q_HA_HO394,Q_X2_,Q_X10_⟩ hb_ hon hoff
     refine ⟨_,rfl,fun K hK => ?_⟩
     have e41:a.tmps[41]? = some (v393):=by rw [ha];exact putSel_on (e:=(8,41,v393)) 6 rfl rfl (hon 8 (by kernel_rfl)) rfl
     have e42:a.tmps[42]? = some (.int .i64 (ji32)):=by rw [ha];exact (putSel_off rfl).trans rfl
     replace ha:=Aside0.mk ha
     have HB:=Aside0.mk Q_HB
     have HO394:=Aside0.mk (Q_HO394 (hon 8 (by kernel_rfl)))
     have HA_HO394:=Aside0.mk (Q_HA_HO394 (hon 8 (by kernel_rfl)))
     obtain ⟨c_,hv_⟩:=HA_HO394.out
     rw [hv_] at e41
     refine value_ (w1:=w') (v:=.pointer (some (adz_v393.add ((ji32)).toNat))) (by rfl) rfl ?_ ?_
     ·go_simp
      (try simp only [i64_w])
      try rfl
     refine hK.out _ _ ⟨v388,adz_v388,v393,adz_v393,m2_,(.pointer (some (adz_v393.add ((ji32)).toNat))),q118_,Q_HB,Q_HO389,Q_HA_HO389,Q_HO394,Q_HA_HO394,Q_X2_,fun _ => rfl⟩
    refine steps_cons ?_ ?_
    ·rintro b a w' ⟨v388,adz_v388,v393,adz_v393,m2_,m10_,ha,Q_HB,Q_HO389,Q_HA_HO389,Q_HO394,Q_HA_HO394,Q_X2_,Q_X10_⟩ hb_ hon hoff
     refine ⟨_,rfl,fun K hK => ?_⟩
     have e43:a.tmps[43]? = some (m10_):=by rw [ha];exact putSel_on (e:=(10,43,m10_)) 7 rfl rfl (hon 10 (by kernel_rfl)) rfl
     rw [Q_X10_ (hon 10 (by kernel_rfl))] at e43
     replace ha:=Aside0.mk ha
     have HB:=Aside0.mk Q_HB
     have HO394:=Aside0.mk (Q_HO394 (hon 8 (by kernel_rfl)))
     have HA_HO394:=Aside0.mk (Q_HA_HO394 (hon 8 (by kernel_rfl)))
     obtain ⟨c_,hv_⟩:=HA_HO394.out
     have hF_:=HO394.out
     rw [hv_] at hF_
     obtain ⟨ad_,ea_,hx_⟩:=Kd.at_string (Kd.R_reads' hF_).2.2 (ji32) (of_eq_true pi395) (of_eq_true qi395)
     cases ea_
     refine value_ (w1:=w') (v:=.string (rdOf ByteArray.empty t392 (ji32))) (by rfl) rfl ?_ ?_
     ·go_simp
      (try simp only [i64_w])
      try rfl
     refine hK.out _ _ ⟨v388,adz_v388,v393,adz_v393,m2_,m10_,q119_,Q_HB,Q_HO389,Q_HA_HO389,Q_HO394,Q_HA_HO394,Q_X2_,Q_X10_⟩
    refine steps_cons ?_ ?_
    ·rintro b a w' ⟨v388,adz_v388,v393,adz_v393,m2_,m10_,ha,Q_HB,Q_HO389,Q_HA_HO389,Q_HO394,Q_HA_HO394,Q_X2_,Q_X10_⟩ hb_ hon hoff
     refine ⟨_,rfl,fun K hK => ?_⟩
     have e40:a.tmps[40]? = some (.string (((rdOf ByteArray.empty y387 (ji25)) ++ t391) ++ (⟨#[44]⟩:ByteArray))):=by rw [ha];exact putSel_on (e:=(7,40,.string (((rdOf ByteArray.empty y387 (ji25)) ++ t391) ++ (⟨#[44]⟩:ByteArray)))) 5 rfl rfl (hon 7 (by kernel_rfl)) rfl
     have e44:a.tmps[44]? = some (.string (rdOf ByteArray.empty t392 (ji32))):=by rw [ha];exact putSel_on (e:=(11,44,.string (rdOf ByteArray.empty t392 (ji32)))) 8 rfl rfl (hon 11 (by kernel_rfl)) rfl
     replace ha:=Aside0.mk ha
     have HB:=Aside0.mk Q_HB
     have HO389:=Aside0.mk (Q_HO389 (hon 0 (by kernel_rfl)))
     have HA_HO389:=Aside0.mk (Q_HA_HO389 (hon 0 (by kernel_rfl)))
     have HO394:=Aside0.mk (Q_HO394 (hon 8 (by kernel_rfl)))
     have HA_HO394:=Aside0.mk (Q_HA_HO394 (hon 8 (by kernel_rfl)))
     refine value_ (w1:=w') (v:=.string ((((rdOf ByteArray.empty y387 (ji25)) ++ t391) ++ (⟨#[44]⟩:ByteArray)) ++ (rdOf ByteArray.empty t392 (ji32)))) (by rfl) rfl ?_ ?_
     ·go_simp
      (try simp only [i64_w])
      try rfl
     refine hK.out _ _ ⟨v388,adz_v388,v393,adz_v393,m2_,m10_,q120_,Q_HB,Q_HO389,Q_HA_HO389,Q_HO394,Q_HA_HO394,Q_X2_,Q_X10_⟩
    refine steps_cons ?_ ?_
    ·rintro b a w' ⟨v388,adz_v388,v393,adz_v393,m2_,m10_,ha,Q_HB,Q_HO389,Q_HA_HO389,Q_HO394,Q_HA_HO394,Q_X2_,Q_X10_⟩ hb_ hon hoff
     refine ⟨_,rfl,fun K hK => ?_⟩
     have e45:a.tmps[45]? = some (.string ((((rdOf ByteArray.empty y387 (ji25)) ++ t391) ++ (⟨#[44]⟩:ByteArray)) ++ (rdOf ByteArray.empty t392 (ji32)))):=by rw [ha];exact putSel_on (e:=(12,45,.string ((((rdOf ByteArray.empty y387 (ji25)) ++ t391) ++ (⟨#[44]⟩:ByteArray)) ++ (rdOf ByteArray.empty t392 (ji32))))) 9 rfl rfl (hon 12 (by kernel_rfl)) rfl
     replace ha:=Aside0.mk ha
     have HB:=Aside0.mk Q_HB
     have HO389:=Aside0.mk (Q_HO389 (hon 0 (by kernel_rfl)))
     have HA_HO389:=Aside0.mk (Q_HA_HO389 (hon 0 (by kernel_rfl)))
     have HO394:=Aside0.mk (Q_HO394 (hon 8 (by kernel_rfl)))
     have HA_HO394:=Aside0.mk (Q_HA_HO394 (hon 8 (by kernel_rfl)))
     refine value_ (w1:=w') (v:=.string ((((rdOf ByteArray.empty y387 (ji25)) ++ t391) ++ (⟨#[44]⟩:ByteArray)) ++ (rdOf ByteArray.empty t392 (ji32)))) (by rfl) rfl ?_ ?_
     ·go_simp
      (try simp only [i64_w])
      try rfl
     refine hK.out _ _ ⟨v388,adz_v388,v393,adz_v393,m2_,m10_,(by rw [ha.out];exact putSel_upk 10 hb_ rfl rfl rfl),Q_HB,Q_HO389,Q_HA_HO389,Q_HO394,Q_HA_HO394,Q_X2_,Q_X10_⟩
    exact steps_nil
   rintro b a w43 hall ⟨v388,adz_v388,v393,adz_v393,m2_,m10_,ha,Q_HB,Q_HO389,Q_HA_HO389,Q_HO394,Q_HA_HO394,Q_X2_,Q_X10_⟩
   clear HB
   have hb0_:=hall 0 (by kernel_rfl)
   have hb2_:=hall 2 (by kernel_rfl)
   have hb3_:=hall 3 (by kernel_rfl)
   have hb5_:=hall 5 (by kernel_rfl)
   have hb6_:=hall 6 (by kernel_rfl)
   have hb7_:=hall 7 (by kernel_rfl)
   have hb8_:=hall 8 (by kernel_rfl)
   have hb10_:=hall 10 (by kernel_rfl)
   have hb11_:=hall 11 (by kernel_rfl)
   have hb12_:=hall 12 (by kernel_rfl)
   have hb13_:=hall 13 (by kernel_rfl)
   subst ha
   obtain rfl:=Q_X2_ hb2_
   obtain rfl:=Q_X10_ hb10_
   simp only [putSel,hb0_,hb2_,hb3_,hb5_,hb6_,hb7_,hb8_,hb10_,hb11_,hb12_,hb13_,if_true,Act.put,List.setIfInBounds_toArray,List.set_cons_zero,List.set_cons_succ]
   have HB:=Aside0.mk Q_HB
   clear Q_HB
   have HO389:=Aside0.mk (Q_HO389 hb0_)
   clear Q_HO389
   have HA_HO389:=Aside0.mk (Q_HA_HO389 hb0_)
   clear Q_HA_HO389
   have HO394:=Aside0.mk (Q_HO394 hb8_)
   clear Q_HO394
   have HA_HO394:=Aside0.mk (Q_HA_HO394 hb8_)
   clear Q_HA_HO394
   clear hall hb0_ hb2_ hb3_ hb5_ hb6_ hb7_ hb8_ hb10_ hb11_ hb12_ hb13_
   obtain ⟨co44,eo44⟩:=HA_HO389.out
   clear HA_HO389
   subst eo44
   obtain ⟨co45,eo45⟩:=HA_HO394.out
   clear HA_HO394
   subst eo45
   try go_wp2
   go_ret
   exact ⟨by first | rfl | (simp [errW_none,errW_some] <;> rfl) | (simp only [← hji25,← hji32];first | rfl | (simp [errW_none,errW_some] <;> rfl)) | (simp [*,errW_none,errW_some] <;> rfl) | (exfalso;simp_all;done),q72_⟩
  replace c24:=Bool.eq_false_iff.mpr c24
  subst c24
  rewrite [if_neg (show ¬ (false = true) by decide)] at H
  by_cases c46:(wrap64 (Int.tdiv a0 64)) = 0
  ·rw [if_pos c46] at H
   have c46b0:((wrap64 (Int.tdiv a0 64)) == 0) = true:=beq_iff_eq.mpr c46
   have c46b1:((wrap64 (Int.tdiv a0 64)) != 0) = false:=bne_eq_false_iff_eq.mpr c46
   clear c46
   replace H:=Option.bind_eq_some_iff.mp H
   obtain ⟨t396,A470,H⟩:=H
   have A47:=Aside0.mk A470
   clear A470
   obtain rfl:=Option.some.inj H
   go_wp2_with (first | ((with_reducible refine gate_callee (f:=101) rfl ?_);refine goesL_ (some 51) rfl rfl Tryz.func101 (by kernel_rfl) rfl #[.int .i64 (Int.tmod (wrap64 (Int.tdiv a0 8)) 8),.int .i64 (Int.tmod a0 8)] rfl q12_ ?_;(with_reducible refine (spec_l3Low.calls (Int.tmod (wrap64 (Int.tdiv a0 8)) 8) (Int.tmod a0 8) t396 _ A47.out).mono ?_);rintro e w48 ⟨rfl,hb⟩;refine ⟨_,rfl,?_⟩;replace HB:=Aside0.mk (below_step q72_ hb);(try clear hb)))
   go_ret
   exact ⟨q74_,q72_⟩
  rw [if_neg c46] at H
  have c46b0:((wrap64 (Int.tdiv a0 64)) == 0) = false:=beq_eq_false_iff_ne.mpr c46
  have c46b1:((wrap64 (Int.tdiv a0 64)) != 0) = true:=bne_iff_ne.mpr c46
  by_cases c49:a0 = 118
  ·rw [if_pos c49] at H
   have c49b0:(a0 == 118) = true:=beq_iff_eq.mpr c49
   have c49b1:(a0 != 118) = false:=bne_eq_false_iff_eq.mpr c49
   clear c49
   obtain rfl:=Option.some.inj H
   go_wp2
   go_ret
   exact ⟨q74_,q72_⟩
  rw [if_neg c49] at H
  have c49b0:(a0 == 118) = false:=beq_eq_false_iff_ne.mpr c49
  have c49b1:(a0 != 118) = true:=bne_iff_ne.mpr c49
  by_cases c50:(wrap64 (Int.tdiv a0 64)) = 1
  ·rw [if_pos c50] at H
   have c50b0:((wrap64 (Int.tdiv a0 64)) == 1) = true:=beq_iff_eq.mpr c50
   have c50b1:((wrap64 (Int.tdiv a0 64)) != 1) = false:=bne_eq_false_iff_eq.mpr c50
   clear c50
   replace H:=Option.bind_eq_some_iff.mp H
   obtain ⟨t397,A510,H⟩:=H
   have A51:=Aside0.mk A510
   clear A510
   obtain ⟨ji52,hji52⟩:∃ j_:Int,(Int.tmod (wrap64 (Int.tdiv a0 8)) 8) = j_:=⟨_,rfl⟩
   (first | rewrite [hji52] at H | simp only [hji52] at H)
   (try rw [hji52] at A51)
   by_cases c53:0 ≤ (ji52)
   rotate_left
   ·rw [if_neg c53] at H
    exact absurd H (by simp)
   rw [if_pos c53] at H
   have c53b0:=decide_eq_true c53
   clear c53
   by_cases c54:(ji52) < (t397.length:Int)
   rotate_left
   ·rw [if_neg c54] at H
    exact absurd H (by simp)
   rw [if_pos c54] at H
   have c54b0:=decide_eq_true c54
   clear c54
   by_cases c55:3 + (rdOf ByteArray.empty t397 (ji52)).size ≤ 9223372036854775807
   rotate_left
   ·rw [if_neg c55] at H
    exact absurd H (by simp)
   rw [if_pos c55] at H
   have c55b0:=eq_true c55
   have c55b1:=decide_eq_true c55
   try have c55b2:(9223372036854775807 < 3 + (rdOf ByteArray.empty t397 (ji52)).size) = False:=eq_false (Nat.not_lt.2 c55)
   by_cases c56:((⟨#[108,100,32]⟩:ByteArray) ++ (rdOf ByteArray.empty t397 (ji52))).size + 1 ≤ 9223372036854775807
   rotate_left
   ·rw [if_neg c56] at H
    exact absurd H (by simp)
   rw [if_pos c56] at H
   have c56b0:=eq_true c56
   (try (have c56b0e:=c56b0;simp only [ByteArray.size_append,ByteArray.size_extract,Nat.min_self,Nat.sub_zero,show (⟨#[108,100,32]⟩:ByteArray).size = 3 from rfl] at c56b0e))
   have c56b1:=decide_eq_true c56
   (try (have c56b1e:=c56b1;simp only [ByteArray.size_append,ByteArray.size_extract,Nat.min_self,Nat.sub_zero,show (⟨#[108,100,32]⟩:ByteArray).size = 3 from rfl] at c56b1e))
   try have c56b2:(9223372036854775807 < ((⟨#[108,100,32]⟩:ByteArray) ++ (rdOf ByteArray.empty t397 (ji52))).size + 1) = False:=eq_false (Nat.not_lt.2 c56)
   (try (have c56b2e:=c56b2;simp only [ByteArray.size_append,ByteArray.size_extract,Nat.min_self,Nat.sub_zero,show (⟨#[108,100,32]⟩:ByteArray).size = 3 from rfl] at c56b2e))
   replace H:=Option.bind_eq_some_iff.mp H
   obtain ⟨t401,A570,H⟩:=H
   have A57:=Aside0.mk A570
   clear A570
   obtain ⟨ji58,hji58⟩:∃ j_:Int,(Int.tmod a0 8) = j_:=⟨_,rfl⟩
   (first | rewrite [hji58] at H | simp only [hji58] at H)
   (try rw [hji58] at A51)
   (try rw [hji58] at A57)
   by_cases c59:0 ≤ (ji58)
   rotate_left
   ·rw [if_neg c59] at H
    exact absurd H (by simp)
   rw [if_pos c59] at H
   have c59b0:=decide_eq_true c59
   clear c59
   by_cases c60:(ji58) < (t401.length:Int)
   rotate_left
   ·rw [if_neg c60] at H
    exact absurd H (by simp)
   rw [if_pos c60] at H
   have c60b0:=decide_eq_true c60
   clear c60
   by_cases c61:(((⟨#[108,100,32]⟩:ByteArray) ++ (rdOf ByteArray.empty t397 (ji52))) ++ (⟨#[44]⟩:ByteArray)).size + (rdOf ByteArray.empty t401 (ji58)).size ≤ 9223372036854775807
   rotate_left
   ·rw [if_neg c61] at H
    exact absurd H (by simp)
   rw [if_pos c61] at H
   have c61b0:=eq_true c61
   (try (have c61b0e:=c61b0;simp only [ByteArray.size_append,ByteArray.size_extract,Nat.min_self,Nat.sub_zero,show (⟨#[108,100,32]⟩:ByteArray).size = 3 from rfl,show (⟨#[44]⟩:ByteArray).size = 1 from rfl] at c61b0e))
   have c61b1:=decide_eq_true c61
   (try (have c61b1e:=c61b1;simp only [ByteArray.size_append,ByteArray.size_extract,Nat.min_self,Nat.sub_zero,show (⟨#[108,100,32]⟩:ByteArray).size = 3 from rfl,show (⟨#[44]⟩:ByteArray).size = 1 from rfl] at c61b1e))
   try have c61b2:(9223372036854775807 < (((⟨#[108,100,32]⟩:ByteArray) ++ (rdOf ByteArray.empty t397 (ji52))) ++ (⟨#[44]⟩:ByteArray)).size + (rdOf ByteArray.empty t401 (ji58)).size) = False:=eq_false (Nat.not_lt.2 c61)
   (try (have c61b2e:=c61b2;simp only [ByteArray.size_append,ByteArray.size_extract,Nat.min_self,Nat.sub_zero,show (⟨#[108,100,32]⟩:ByteArray).size = 3 from rfl,show (⟨#[44]⟩:ByteArray).size = 1 from rfl] at c61b2e))
   obtain rfl:=Option.some.inj H
   try go_wp2
   have pi400:(0 ≤ ((ji52):Int)) = True:=eq_true (of_decide_eq_true q109_)
   have qi400:((ji52) < (t397.length:Int)) = True:=eq_true (of_decide_eq_true q109_)
   have pi404:(0 ≤ ((ji58):Int)) = True:=eq_true (of_decide_eq_true q109_)
   have qi404:((ji58) < (t401.length:Int)) = True:=eq_true (of_decide_eq_true q109_)
   have n0_:=Aside0.mk (below_drew1 HB.out)
   clear HB
   have HB:=n0_
   clear n0_
   refine start_ (n:=12) (S:=fun w' => True) (ds:=[]) #[false,false,false,false,false,false,false,false,false,false,false,false] (by kernel_rfl) rfl rfl trivial (fun hHeld => ?_);refine with_tabW spec_l3Template.tab13 spec_l3Template.bits13 (fun HT_ HW_ => ?_)
   generalize wc.drew = w62 at HB hHeld ⊢
   refine pure_ (i:=1) (N:=some 59) (v:=?_) (a':=?_) #[false,true,false,false,false,false,false,false,false,false,false,false] rfl rfl (any_of HT_.out (by kernel_rfl)) (fun _ _ _ h => h) (Or.inl ⟨by rfl,?_⟩) ?_ ?_
   rotate_left
   ·intro w'
    go_simp
    with_reducible rfl
   rotate_left
   ·simp only [Act.put,List.setIfInBounds_toArray,List.set_cons_zero,List.set_cons_succ,i64_w,i32_w]
    rfl
   refine pure_ (i:=7) (N:=some 65) (v:=?_) (a':=?_) #[false,true,false,false,false,false,false,true,false,false,false,false] rfl rfl (any_of HT_.out (by kernel_rfl)) (fun _ _ _ h => h) (Or.inl ⟨by rfl,?_⟩) ?_ ?_
   rotate_left
   ·intro w'
    go_simp
    with_reducible rfl
   rotate_left
   ·simp only [Act.put,List.setIfInBounds_toArray,List.set_cons_zero,List.set_cons_succ,i64_w,i32_w]
    rfl
   refine inv_at [0,2,3,4,5,6,8,9,10,11] (fun a0_ b a w' => ∃ (v398:Value) (adz_v398:Addr) (v402:Value) (adz_v402:Addr) (m2_:Value) (m8_:Value),a = putSel a0_ b [(0,58,v398),(2,60,m2_),(3,61,.string (rdOf ByteArray.empty t397 (ji52))),(4,62,.string ((⟨#[108,100,32]⟩:ByteArray) ++ (rdOf ByteArray.empty t397 (ji52)))),(5,63,.string (((⟨#[108,100,32]⟩:ByteArray) ++ (rdOf ByteArray.empty t397 (ji52))) ++ (⟨#[44]⟩:ByteArray))),(6,64,v402),(8,66,m8_),(9,67,.string (rdOf ByteArray.empty t401 (ji58))),(10,68,.string ((((⟨#[108,100,32]⟩:ByteArray) ++ (rdOf ByteArray.empty t397 (ji52))) ++ (⟨#[44]⟩:ByteArray)) ++ (rdOf ByteArray.empty t401 (ji58)))),(11,4,.string ((((⟨#[108,100,32]⟩:ByteArray) ++ (rdOf ByteArray.empty t397 (ji52))) ++ (⟨#[44]⟩:ByteArray)) ++ (rdOf ByteArray.empty t401 (ji58))))] ∧ (Below w.heap.size w w') ∧ (b 0 = true → Kd.R Kd.string 9 w' w.heap.size (fun _ => True) v398 t397) ∧ (b 0 = true → ∃ c_,(v398:Value) = .slice (some adz_v398) t397.length c_) ∧ (b 6 = true → Kd.R Kd.string 9 w' w.heap.size (fun _ => True) v402 t401) ∧ (b 6 = true → ∃ c_,(v402:Value) = .slice (some adz_v402) t401.length c_) ∧ (b 2 = true → (m2_:Value) = .pointer (some (adz_v398.add ((ji52)).toNat))) ∧ (b 8 = true → (m8_:Value) = .pointer (some (adz_v402.add ((ji58)).toNat)))) HT_.out HW_.out (by kernel_rfl) (by kernel_rfl) ?_ ?_ ?_
   ·exact ⟨.bool false,⟨0,0,none⟩,.bool false,⟨0,0,none⟩,.bool false,.bool false,q110_,HB.out,fun h_ => absurd h_ (by decide),fun h_ => absurd h_ (by decide),fun h_ => absurd h_ (by decide),fun h_ => absurd h_ (by decide),fun h_ => absurd h_ (by decide),fun h_ => absurd h_ (by decide)⟩
   ·skip
    clear HB
    refine steps_cons ?_ ?_
    ·rintro b a w' ⟨v398,adz_v398,v402,adz_v402,m2_,m8_,ha,Q_HB,Q_HO399,Q_HA_HO399,Q_HO403,Q_HA_HO403,Q_X2_,Q_X8_⟩ hb_ hon hoff
     refine ⟨_,rfl,fun K hK => ?_⟩
     replace ha:=Aside0.mk ha
     have HB:=Aside0.mk Q_HB
     refine goes_ Tryz.func100 (by kernel_rfl) rfl #[] (by rfl) rfl rfl (by first | (simp only [List.map_toArray,List.map_cons,List.map_nil,Act.eval,Array.getD_eq_getD_getElem?,Option.getD_some];done) | (simp only [List.map_toArray,List.map_cons,List.map_nil,Act.eval,Array.getD_eq_getD_getElem?,Option.getD_some];rfl)) ?_
     with_reducible refine (spec_l3Regs.calls  t397 _ A51.out).mono ?_
     rintro e w63 ⟨v398,rfl,ho0,hb⟩
     refine ⟨_,rfl,?_⟩
     have n0_:=Aside0.mk (Kd.R_lower ho0 (below_size q72_))
     have n1_:=Aside0.mk (below_step q72_ hb)
     clear HB
     have HO399:=n0_
     have HB:=n1_
     clear n0_ n1_
     (try clear hb)
     (try clear hb2)
     (try clear hk)
     (try clear hi)
     (try clear ho0)
     obtain ⟨Ao64,co64,eo64⟩:=Kd.R_slice HO399.out
     subst eo64
     obtain ⟨ado64,fo64,_⟩:=Kd.at_string (Kd.R_reads' HO399.out).2.2 0 (by decide) (by have h1_:=of_eq_true pi400;have h2_:=of_eq_true qi400;omega)
     cases fo64
     refine hK.out _ _ ⟨.slice (some ado64) t397.length co64,ado64,v402,adz_v402,m2_,m8_,q111_,q72_,fun _ => q102_,fun _ => ⟨_,rfl⟩,fun h0_ => absurd ((hoff 6 (by kernel_rfl)).symm.trans h0_) (by decide),fun h0_ => absurd ((hoff 6 (by kernel_rfl)).symm.trans h0_) (by decide),fun h0_ => absurd ((hoff 2 (by kernel_rfl)).symm.trans h0_) (by decide),fun h0_ => absurd ((hoff 8 (by kernel_rfl)).symm.trans h0_) (by decide)⟩
    refine steps_cons ?_ ?_
    ·rintro b a w' ⟨v398,adz_v398,v402,adz_v402,m2_,m8_,ha,Q_HB,Q_HO399,Q_HA_HO399,Q_HO403,Q_HA_HO403,Q_X2_,Q_X8_⟩ hb_ hon hoff
     refine ⟨_,rfl,fun K hK => ?_⟩
     have e58:a.tmps[58]? = some (v398):=by rw [ha];exact putSel_on (e:=(0,58,v398)) 0 rfl rfl (hon 0 (by kernel_rfl)) rfl
     have e59:a.tmps[59]? = some (.int .i64 (ji52)):=by rw [ha];exact (putSel_off rfl).trans rfl
     replace ha:=Aside0.mk ha
     have HB:=Aside0.mk Q_HB
     have HO399:=Aside0.mk (Q_HO399 (hon 0 (by kernel_rfl)))
     have HA_HO399:=Aside0.mk (Q_HA_HO399 (hon 0 (by kernel_rfl)))
     obtain ⟨c_,hv_⟩:=HA_HO399.out
     rw [hv_] at e58
     refine value_ (w1:=w') (v:=.pointer (some (adz_v398.add ((ji52)).toNat))) (by rfl) rfl ?_ ?_
     ·go_simp
      (try simp only [i64_w])
      try rfl
     refine hK.out _ _ ⟨v398,adz_v398,v402,adz_v402,(.pointer (some (adz_v398.add ((ji52)).toNat))),m8_,q112_,Q_HB,Q_HO399,Q_HA_HO399,Q_HO403,Q_HA_HO403,fun _ => rfl,Q_X8_⟩
    refine steps_cons ?_ ?_
    ·rintro b a w' ⟨v398,adz_v398,v402,adz_v402,m2_,m8_,ha,Q_HB,Q_HO399,Q_HA_HO399,Q_HO403,Q_HA_HO403,Q_X2_,Q_X8_⟩ hb_ hon hoff
     refine ⟨_,rfl,fun K hK => ?_⟩
     have e60:a.tmps[60]? = some (m2_):=by rw [ha];exact putSel_on (e:=(2,60,m2_)) 1 rfl rfl (hon 2 (by kernel_rfl)) rfl
     rw [Q_X2_ (hon 2 (by kernel_rfl))] at e60
     replace ha:=Aside0.mk ha
     have HB:=Aside0.mk Q_HB
     have HO399:=Aside0.mk (Q_HO399 (hon 0 (by kernel_rfl)))
     have HA_HO399:=Aside0.mk (Q_HA_HO399 (hon 0 (by kernel_rfl)))
     obtain ⟨c_,hv_⟩:=HA_HO399.out
     have hF_:=HO399.out
     rw [hv_] at hF_
     obtain ⟨ad_,ea_,hx_⟩:=Kd.at_string (Kd.R_reads' hF_).2.2 (ji52) (of_eq_true pi400) (of_eq_true qi400)
     cases ea_
     refine value_ (w1:=w') (v:=.string (rdOf ByteArray.empty t397 (ji52))) (by rfl) rfl ?_ ?_
     ·go_simp
      (try simp only [i64_w])
      try rfl
     refine hK.out _ _ ⟨v398,adz_v398,v402,adz_v402,m2_,m8_,q113_,Q_HB,Q_HO399,Q_HA_HO399,Q_HO403,Q_HA_HO403,Q_X2_,Q_X8_⟩
    refine steps_cons ?_ ?_
    ·rintro b a w' ⟨v398,adz_v398,v402,adz_v402,m2_,m8_,ha,Q_HB,Q_HO399,Q_HA_HO399,Q_HO403,Q_HA_HO403,Q_X2_,Q_X8_⟩ hb_ hon hoff
     refine ⟨_,rfl,fun K hK => ?_⟩
     have e61:a.tmps[61]? = some (.string (rdOf ByteArray.empty t397 (ji52))):=by rw [ha];exact putSel_on (e:=(3,61,.string (rdOf ByteArray.empty t397 (ji52)))) 2 rfl rfl (hon 3 (by kernel_rfl)) rfl
     replace ha:=Aside0.mk ha
     have HB:=Aside0.mk Q_HB
     have HO399:=Aside0.mk (Q_HO399 (hon 0 (by kernel_rfl)))
     have HA_HO399:=Aside0.mk (Q_HA_HO399 (hon 0 (by kernel_rfl)))
     refine value_ (w1:=w') (v:=.string ((⟨#[108,100,32]⟩:ByteArray) ++ (rdOf ByteArray.empty t397 (ji52)))) (by rfl) rfl ?_ ?_
     ·go_simp
      (try simp only [i64_w])
      try rfl
     refine hK.out _ _ ⟨v398,adz_v398,v402,adz_v402,m2_,m8_,q114_,Q_HB,Q_HO399,Q_HA_HO399,Q_HO403,Q_HA_HO403,Q_X2_,Q_X8_⟩
    refine steps_cons ?_ ?_
    ·rintro b a w' ⟨v398,adz_v398,v402,adz_v402,m2_,m8_,ha,Q_HB,Q_HO399,Q_HA_HO399,Q_HO403,Q_HA_HO403,Q_X2_,Q_X8_⟩ hb_ hon hoff
     refine ⟨_,rfl,fun K hK => ?_⟩
     have e62:a.tmps[62]? = some (.string ((⟨#[108,100,32]⟩:ByteArray) ++ (rdOf ByteArray.empty t397 (ji52)))):=by rw [ha];exact putSel_on (e:=(4,62,.string ((⟨#[108,100,32]⟩:ByteArray) ++ (rdOf ByteArray.empty t397 (ji52))))) 3 rfl rfl (hon 4 (by kernel_rfl)) rfl
     replace ha:=Aside0.mk ha
     have HB:=Aside0.mk Q_HB
     have HO399:=Aside0.mk (Q_HO399 (hon 0 (by kernel_rfl)))
     have HA_HO399:=Aside0.mk (Q_HA_HO399 (hon 0 (by kernel_rfl)))
     refine value_ (w1:=w') (v:=.string (((⟨#[108,100,32]⟩:ByteArray) ++ (rdOf ByteArray.empty t397 (ji52))) ++ (⟨#[44]⟩:ByteArray))) (by rfl) rfl ?_ ?_
     ·go_simp
      (try simp only [i64_w])
      try rfl
     refine hK.out _ _ ⟨v398,adz_v398,v402,adz_v402,m2_,m8_,q115_,Q_HB,Q_HO399,Q_HA_HO399,Q_HO403,Q_HA_HO403,Q_X2_,Q_X8_⟩
    refine steps_cons ?_ ?_
    ·rintro b a w' ⟨v398,adz_v398,v402,adz_v402,m2_,m8_,ha,Q_HB,Q_HO399,Q_HA_HO399,Q_HO403,Q_HA_HO403,Q_X2_,Q_X8_⟩ hb_ hon hoff
     refine ⟨_,rfl,fun K hK => ?_⟩
     replace ha:=Aside0.mk ha
     have HB:=Aside0.mk Q_HB
     have HO399:=Aside0.mk (Q_HO399 (hon 0 (by kernel_rfl)))
     have HA_HO399:=Aside0.mk (Q_HA_HO399 (hon 0 (by kernel_rfl)))
     obtain ⟨co66,eo66⟩:=HA_HO399.out
     clear HA_HO399
     subst eo66
     refine goes_ Tryz.func100 (by kernel_rfl) rfl #[] (by rfl) rfl rfl (by first | (simp only [List.map_toArray,List.map_cons,List.map_nil,Act.eval,Array.getD_eq_getD_getElem?,Option.getD_some];done) | (simp only [List.map_toArray,List.map_cons,List.map_nil,Act.eval,Array.getD_eq_getD_getElem?,Option.getD_some];rfl)) ?_
     with_reducible refine (spec_l3Regs.calls  t401 _ A57.out).mono ?_
     rintro e w67 ⟨v402,rfl,ho0,hb⟩
     refine ⟨_,rfl,?_⟩
     have n0_:=Aside0.mk (Kd.R_elder' q102_ (Kd.R_base ho0) hb)
     have n1_:=Aside0.mk (Kd.R_lower (Kd.R_new' ho0 (Kd.R_lt q102_)) (below_size q72_))
     have n2_:=Aside0.mk (below_step q72_ hb)
     clear HO399
     clear HB
     have HO399:=n0_
     have HO403:=n1_
     have HB:=n2_
     clear n0_ n1_ n2_
     (try clear hb)
     (try clear hb2)
     (try clear hk)
     (try clear hi)
     (try clear ho0)
     obtain ⟨Ao68,co68,eo68⟩:=Kd.R_slice HO403.out
     subst eo68
     obtain ⟨ado68,fo68,_⟩:=Kd.at_string (Kd.R_reads' HO403.out).2.2 0 (by decide) (by have h1_:=of_eq_true pi404;have h2_:=of_eq_true qi404;omega)
     cases fo68
     refine hK.out _ _ ⟨.slice (some adz_v398) t397.length co66,adz_v398,.slice (some ado68) t401.length co68,ado68,m2_,m8_,q116_,q72_,fun _ => (by (with_reducible repeat (first | apply Kd.R_alloc | apply Kd.R_drewN | apply Kd.R_drew));exact Kd.R_mono HO399.out (fun _ hk => by first | exact hk.2 | trivial)),fun _ => ⟨_,rfl⟩,fun _ => (by (with_reducible repeat (first | apply Kd.R_alloc | apply Kd.R_drewN | apply Kd.R_drew));exact Kd.R_mono HO403.out (fun _ hk => by first | exact hk.2 | trivial)),fun _ => ⟨_,rfl⟩,Q_X2_,fun h0_ => absurd ((hoff 8 (by kernel_rfl)).symm.trans h0_) (by decide)⟩
    refine steps_cons ?_ ?_
    ·rintro b a w' ⟨v398,adz_v398,v402,adz_v402,m2_,m8_,ha,Q_HB,Q_HO399,Q_HA_HO399,Q_HO403,Q_HA_HO403,Q_X2_,Q_X8_⟩ hb_ hon hoff
     refine ⟨_,rfl,fun K hK => ?_⟩
     have e64:a.tmps[64]? = some (v402):=by rw [ha];exact putSel_on (e:=(6,64,v402)) 5 rfl rfl (hon 6 (by kernel_rfl)) rfl
     have e65:a.tmps[65]? = some (.int .i64 (ji58)):=by rw [ha];exact (putSel_off rfl).trans rfl
     replace ha:=Aside0.mk ha
     have HB:=Aside0.mk Q_HB
     have HO399:=Aside0.mk (Q_HO399 (hon 0 (by kernel_rfl)))
     have HA_HO399:=Aside0.mk (Q_HA_HO399 (hon 0 (by kernel_rfl)))
     have HO403:=Aside0.mk (Q_HO403 (hon 6 (by kernel_rfl)))
     have HA_HO403:=Aside0.mk (Q_HA_HO403 (hon 6 (by kernel_rfl)))
     obtain ⟨c_,hv_⟩:=HA_HO403.out
     rw [hv_] at e64
     refine value_ (w1:=w') (v:=.pointer (some (adz_v402.add ((ji58)).toNat))) (by rfl) rfl ?_ ?_
     ·go_simp
      (try simp only [i64_w])
      try rfl
     refine hK.out _ _ ⟨v398,adz_v398,v402,adz_v402,m2_,(.pointer (some (adz_v402.add ((ji58)).toNat))),q117_,Q_HB,Q_HO399,Q_HA_HO399,Q_HO403,Q_HA_HO403,Q_X2_,fun _ => rfl⟩
    refine steps_cons ?_ ?_
    ·rintro b a w' ⟨v398,adz_v398,v402,adz_v402,m2_,m8_,ha,Q_HB,Q_HO399,Q_HA_HO399,Q_HO403,Q_HA_HO403,Q_X2_,Q_X8_⟩ hb_ hon hoff
     refine ⟨_,rfl,fun K hK => ?_⟩
     have e66:a.tmps[66]? = some (m8_):=by rw [ha];exact putSel_on (e:=(8,66,m8_)) 6 rfl rfl (hon 8 (by kernel_rfl)) rfl
     rw [Q_X8_ (hon 8 (by kernel_rfl))] at e66
     replace ha:=Aside0.mk ha
     have HB:=Aside0.mk Q_HB
     have HO399:=Aside0.mk (Q_HO399 (hon 0 (by kernel_rfl)))
     have HA_HO399:=Aside0.mk (Q_HA_HO399 (hon 0 (by kernel_rfl)))
     have HO403:=Aside0.mk (Q_HO403 (hon 6 (by kernel_rfl)))
     have HA_HO403:=Aside0.mk (Q_HA_HO403 (hon 6 (by kernel_rfl)))
     obtain ⟨c_,hv_⟩:=HA_HO403.out
     have hF_:=HO403.out
     rw [hv_] at hF_
     obtain ⟨ad_,ea_,hx_⟩:=Kd.at_string (Kd.R_reads' hF_).2.2 (ji58) (of_eq_true pi404) (of_eq_true qi404)
     cases ea_
     refine value_ (w1:=w') (v:=.string (rdOf ByteArray.empty t401 (ji58))) (by rfl) rfl ?_ ?_
     ·go_simp
      (try simp only [i64_w])
      try rfl
     refine hK.out _ _ ⟨v398,adz_v398,v402,adz_v402,m2_,m8_,q118_,Q_HB,Q_HO399,Q_HA_HO399,Q_HO403,Q_HA_HO403,Q_X2_,Q_X8_⟩
    refine steps_cons ?_ ?_
    ·rintro b a w' ⟨v398,adz_v398,v402,adz_v402,m2_,m8_,ha,Q_HB,Q_HO399,Q_HA_HO399,Q_HO403,Q_HA_HO403,Q_X2_,Q_X8_⟩ hb_ hon hoff
     refine ⟨_,rfl,fun K hK => ?_⟩
     have e63:a.tmps[63]? = some (.string (((⟨#[108,100,32]⟩:ByteArray) ++ (rdOf ByteArray.empty t397 (ji52))) ++ (⟨#[44]⟩:ByteArray))):=by rw [ha];exact putSel_on (e:=(5,63,.string (((⟨#[108,100,32]⟩:ByteArray) ++ (rdOf ByteArray.empty t397 (ji52))) ++ (⟨#[44]⟩:ByteArray)))) 4 rfl rfl (hon 5 (by kernel_rfl)) rfl
     have e67:a.tmps[67]? = some (.string (rdOf ByteArray.empty t401 (ji58))):=by rw [ha];exact putSel_on (e:=(9,67,.string (rdOf ByteArray.empty t401 (ji58)))) 7 rfl rfl (hon 9 (by kernel_rfl)) rfl
     replace ha:=Aside0.mk ha
     have HB:=Aside0.mk Q_HB
     have HO399:=Aside0.mk (Q_HO399 (hon 0 (by kernel_rfl)))
     have HA_HO399:=Aside0.mk (Q_HA_HO399 (hon 0 (by kernel_rfl)))
     have HO403:=Aside0.mk (Q_HO403 (hon 6 (by kernel_rfl)))
     have HA_HO403:=Aside0.mk (Q_HA_HO403 (hon 6 (by kernel_rfl)))
     refine value_ (w1:=w') (v:=.string ((((⟨#[108,100,32]⟩:ByteArray) ++ (rdOf ByteArray.empty t397 (ji52))) ++ (⟨#[44]⟩:ByteArray)) ++ (rdOf ByteArray.empty t401 (ji58)))) (by rfl) rfl ?_ ?_
     ·go_simp
      (try simp only [i64_w])
      try rfl
     refine hK.out _ _ ⟨v398,adz_v398,v402,adz_v402,m2_,m8_,q119_,Q_HB,Q_HO399,Q_HA_HO399,Q_HO403,Q_HA_HO403,Q_X2_,Q_X8_⟩
    refine steps_cons ?_ ?_
    ·rintro b a w' ⟨v398,adz_v398,v402,adz_v402,m2_,m8_,ha,Q_HB,Q_HO399,Q_HA_HO399,Q_HO403,Q_HA_HO403,Q_X2_,Q_X8_⟩ hb_ hon hoff
     refine ⟨_,rfl,fun K hK => ?_⟩
     have e68:a.tmps[68]? = some (.string ((((⟨#[108,100,32]⟩:ByteArray) ++ (rdOf ByteArray.empty t397 (ji52))) ++ (⟨#[44]⟩:ByteArray)) ++ (rdOf ByteArray.empty t401 (ji58)))):=by rw [ha];exact putSel_on (e:=(10,68,.string ((((⟨#[108,100,32]⟩:ByteArray) ++ (rdOf ByteArray.empty t397 (ji52))) ++ (⟨#[44]⟩:ByteArray)) ++ (rdOf ByteArray.empty t401 (ji58))))) 8 rfl rfl (hon 10 (by kernel_rfl)) rfl
     replace ha:=Aside0.mk ha
     have HB:=Aside0.mk Q_HB
     have HO399:=Aside0.mk (Q_HO399 (hon 0 (by kernel_rfl)))
     have HA_HO399:=Aside0.mk (Q_HA_HO399 (hon 0 (by kernel_rfl)))
     have HO403:=Aside0.mk (Q_HO403 (hon 6 (by kernel_rfl)))
     have HA_HO403:=Aside0.mk (Q_HA_HO403 (hon 6 (by kernel_rfl)))
     refine value_ (w1:=w') (v:=.string ((((⟨#[108,100,32]⟩:ByteArray) ++ (rdOf ByteArray.empty t397 (ji52))) ++ (⟨#[44]⟩:ByteArray)) ++ (rdOf ByteArray.empty t401 (ji58)))) (by rfl) rfl ?_ ?_
     ·go_simp
      (try simp only [i64_w])
      try rfl
     refine hK.out _ _ ⟨v398,adz_v398,v402,adz_v402,m2_,m8_,q120_,Q_HB,Q_HO399,Q_HA_HO399,Q_HO403,Q_HA_HO403,Q_X2_,Q_X8_⟩
    exact steps_nil
   rintro b a w67 hall ⟨v398,adz_v398,v402,adz_v402,m2_,m8_,ha,Q_HB,Q_HO399,Q_HA_HO399,Q_HO403,Q_HA_HO403,Q_X2_,Q_X8_⟩
   clear HB
   have hb0_:=hall 0 (by kernel_rfl)
   have hb2_:=hall 2 (by kernel_rfl)
   have hb3_:=hall 3 (by kernel_rfl)
   have hb4_:=hall 4 (by kernel_rfl)
   have hb5_:=hall 5 (by kernel_rfl)
   have hb6_:=hall 6 (by kernel_rfl)
   have hb8_:=hall 8 (by kernel_rfl)
   have hb9_:=hall 9 (by kernel_rfl)
   have hb10_:=hall 10 (by kernel_rfl)
   have hb11_:=hall 11 (by kernel_rfl)
   subst ha
   obtain rfl:=Q_X2_ hb2_
   obtain rfl:=Q_X8_ hb8_
   simp only [putSel,hb0_,hb2_,hb3_,hb4_,hb5_,hb6_,hb8_,hb9_,hb10_,hb11_,if_true,Act.put,List.setIfInBounds_toArray,List.set_cons_zero,List.set_cons_succ]
   have HB:=Aside0.mk Q_HB
   clear Q_HB
   have HO399:=Aside0.mk (Q_HO399 hb0_)
   clear Q_HO399
   have HA_HO399:=Aside0.mk (Q_HA_HO399 hb0_)
   clear Q_HA_HO399
   have HO403:=Aside0.mk (Q_HO403 hb6_)
   clear Q_HO403
   have HA_HO403:=Aside0.mk (Q_HA_HO403 hb6_)
   clear Q_HA_HO403
   clear hall hb0_ hb2_ hb3_ hb4_ hb5_ hb6_ hb8_ hb9_ hb10_ hb11_
   obtain ⟨co68,eo68⟩:=HA_HO399.out
   clear HA_HO399
   subst eo68
   obtain ⟨co69,eo69⟩:=HA_HO403.out
   clear HA_HO403
   subst eo69
   try go_wp2
   go_ret
   exact ⟨by first | rfl | (simp [errW_none,errW_some] <;> rfl) | (simp only [← hji52,← hji58];first | rfl | (simp [errW_none,errW_some] <;> rfl)) | (simp [*,errW_none,errW_some] <;> rfl) | (exfalso;simp_all;done),q72_⟩
  rw [if_neg c50] at H
  have c50b0:((wrap64 (Int.tdiv a0 64)) == 1) = false:=beq_eq_false_iff_ne.mpr c50
  have c50b1:((wrap64 (Int.tdiv a0 64)) != 1) = true:=bne_iff_ne.mpr c50
  by_cases c70:(wrap64 (Int.tdiv a0 64)) = 2
  ·rw [if_pos c70] at H
   have c70b0:((wrap64 (Int.tdiv a0 64)) == 2) = true:=beq_iff_eq.mpr c70
   have c70b1:((wrap64 (Int.tdiv a0 64)) != 2) = false:=bne_eq_false_iff_eq.mpr c70
   clear c70
   replace H:=Option.bind_eq_some_iff.mp H
   obtain ⟨t405,A710,H⟩:=H
   have A71:=Aside0.mk A710
   clear A710
   obtain ⟨ji72,hji72⟩:∃ j_:Int,(Int.tmod (wrap64 (Int.tdiv a0 8)) 8) = j_:=⟨_,rfl⟩
   (first | rewrite [hji72] at H | simp only [hji72] at H)
   (try rw [hji72] at A71)
   by_cases c73:0 ≤ (ji72)
   rotate_left
   ·rw [if_neg c73] at H
    exact absurd H (by simp)
   rw [if_pos c73] at H
   have c73b0:=decide_eq_true c73
   clear c73
   by_cases c74:(ji72) < (t405.length:Int)
   rotate_left
   ·rw [if_neg c74] at H
    exact absurd H (by simp)
   rw [if_pos c74] at H
   have c74b0:=decide_eq_true c74
   clear c74
   by_cases c75:(rdOf ByteArray.empty t405 (ji72)).size + 3 ≤ 9223372036854775807
   rotate_left
   ·rw [if_neg c75] at H
    exact absurd H (by simp)
   rw [if_pos c75] at H
   have c75b0:=eq_true c75
   have c75b1:=decide_eq_true c75
   try have c75b2:(9223372036854775807 < (rdOf ByteArray.empty t405 (ji72)).size + 3) = False:=eq_false (Nat.not_lt.2 c75)
   replace H:=Option.bind_eq_some_iff.mp H
   obtain ⟨t409,A760,H⟩:=H
   have A76:=Aside0.mk A760
   clear A760
   obtain ⟨ji77,hji77⟩:∃ j_:Int,(Int.tmod a0 8) = j_:=⟨_,rfl⟩
   (first | rewrite [hji77] at H | simp only [hji77] at H)
   (try rw [hji77] at A71)
   (try rw [hji77] at A76)
   by_cases c78:0 ≤ (ji77)
   rotate_left
   ·rw [if_neg c78] at H
    exact absurd H (by simp)
   rw [if_pos c78] at H
   have c78b0:=decide_eq_true c78
   clear c78
   by_cases c79:(ji77) < (t409.length:Int)
   rotate_left
   ·rw [if_neg c79] at H
    exact absurd H (by simp)
   rw [if_pos c79] at H
   have c79b0:=decide_eq_true c79
   clear c79
   by_cases c80:((rdOf ByteArray.empty t405 (ji72)) ++ (⟨#[32,97,44]⟩:ByteArray)).size + (rdOf ByteArray.empty t409 (ji77)).size ≤ 9223372036854775807
   rotate_left
   ·rw [if_neg c80] at H
    exact absurd H (by simp)
   rw [if_pos c80] at H
   have c80b0:=eq_true c80
   (try (have c80b0e:=c80b0;simp only [ByteArray.size_append,ByteArray.size_extract,Nat.min_self,Nat.sub_zero,show (⟨#[32,97,44]⟩:ByteArray).size = 3 from rfl] at c80b0e))
   have c80b1:=decide_eq_true c80
   (try (have c80b1e:=c80b1;simp only [ByteArray.size_append,ByteArray.size_extract,Nat.min_self,Nat.sub_zero,show (⟨#[32,97,44]⟩:ByteArray).size = 3 from rfl] at c80b1e))
   try have c80b2:(9223372036854775807 < ((rdOf ByteArray.empty t405 (ji72)) ++ (⟨#[32,97,44]⟩:ByteArray)).size + (rdOf ByteArray.empty t409 (ji77)).size) = False:=eq_false (Nat.not_lt.2 c80)
   (try (have c80b2e:=c80b2;simp only [ByteArray.size_append,ByteArray.size_extract,Nat.min_self,Nat.sub_zero,show (⟨#[32,97,44]⟩:ByteArray).size = 3 from rfl] at c80b2e))
   obtain rfl:=Option.some.inj H
   try go_wp2
   have pi408:(0 ≤ ((ji72):Int)) = True:=eq_true (of_decide_eq_true q109_)
   have qi408:((ji72) < (t405.length:Int)) = True:=eq_true (of_decide_eq_true q109_)
   have pi412:(0 ≤ ((ji77):Int)) = True:=eq_true (of_decide_eq_true q109_)
   have qi412:((ji77) < (t409.length:Int)) = True:=eq_true (of_decide_eq_true q109_)
   have n0_:=Aside0.mk (below_drew1 HB.out)
   clear HB
   have HB:=n0_
   clear n0_
   refine start_ (n:=11) (S:=fun w' => True) (ds:=[]) #[false,false,false,false,false,false,false,false,false,false,false] (by kernel_rfl) rfl rfl trivial (fun hHeld => ?_);refine with_tabW spec_l3Template.tab15 spec_l3Template.bits15 (fun HT_ HW_ => ?_)
   generalize wc.drew = w81 at HB hHeld ⊢
   refine pure_ (i:=1) (N:=some 73) (v:=?_) (a':=?_) #[false,true,false,false,false,false,false,false,false,false,false] rfl rfl (any_of HT_.out (by kernel_rfl)) (fun _ _ _ h => h) (Or.inl ⟨by rfl,?_⟩) ?_ ?_
   rotate_left
   ·intro w'
    go_simp
    with_reducible rfl
   rotate_left
   ·simp only [Act.put,List.setIfInBounds_toArray,List.set_cons_zero,List.set_cons_succ,i64_w,i32_w]
    rfl
   refine pure_ (i:=6) (N:=some 78) (v:=?_) (a':=?_) #[false,true,false,false,false,false,true,false,false,false,false] rfl rfl (any_of HT_.out (by kernel_rfl)) (fun _ _ _ h => h) (Or.inl ⟨by rfl,?_⟩) ?_ ?_
   rotate_left
   ·intro w'
    go_simp
    with_reducible rfl
   rotate_left
   ·simp only [Act.put,List.setIfInBounds_toArray,List.set_cons_zero,List.set_cons_succ,i64_w,i32_w]
    rfl
   refine inv_at [0,2,3,4,5,7,8,9,10] (fun a0_ b a w' => ∃ (v406:Value) (adz_v406:Addr) (v410:Value) (adz_v410:Addr) (m2_:Value) (m7_:Value),a = putSel a0_ b [(0,72,v406),(2,74,m2_),(3,75,.string (rdOf ByteArray.empty t405 (ji72))),(4,76,.string ((rdOf ByteArray.empty t405 (ji72)) ++ (⟨#[32,97,44]⟩:ByteArray))),(5,77,v410),(7,79,m7_),(8,80,.string (rdOf ByteArray.empty t409 (ji77))),(9,81,.string (((rdOf ByteArray.empty t405 (ji72)) ++ (⟨#[32,97,44]⟩:ByteArray)) ++ (rdOf ByteArray.empty t409 (ji77)))),(10,4,.string (((rdOf ByteArray.empty t405 (ji72)) ++ (⟨#[32,97,44]⟩:ByteArray)) ++ (rdOf ByteArray.empty t409 (ji77))))] ∧ (Below w.heap.size w w') ∧ (b 0 = true → Kd.R Kd.string 9 w' w.heap.size (fun _ => True) v406 t405) ∧ (b 0 = true → ∃ c_,(v406:Value) = .slice (some adz_v406) t405.length c_) ∧ (b 5 = true → Kd.R Kd.string 9 w' w.heap.size (fun _ => True) v410 t409) ∧ (b 5 = true → ∃ c_,(v410:Value) = .slice (some adz_v410) t409.length c_) ∧ (b 2 = true → (m2_:Value) = .pointer (some (adz_v406.add ((ji72)).toNat))) ∧ (b 7 = true → (m7_:Value) = .pointer (some (adz_v410.add ((ji77)).toNat)))) HT_.out HW_.out (by kernel_rfl) (by kernel_rfl) ?_ ?_ ?_
   ·exact ⟨.bool false,⟨0,0,none⟩,.bool false,⟨0,0,none⟩,.bool false,.bool false,q110_,HB.out,fun h_ => absurd h_ (by decide),fun h_ => absurd h_ (by decide),fun h_ => absurd h_ (by decide),fun h_ => absurd h_ (by decide),fun h_ => absurd h_ (by decide),fun h_ => absurd h_ (by decide)⟩
   ·skip
    clear HB
    refine steps_cons ?_ ?_
    ·rintro b a w' ⟨v406,adz_v406,v410,adz_v410,m2_,m7_,ha,Q_HB,Q_HO407,Q_HA_HO407,Q_HO411,Q_HA_HO411,Q_X2_,Q_X7_⟩ hb_ hon hoff
     refine ⟨_,rfl,fun K hK => ?_⟩
     replace ha:=Aside0.mk ha
     have HB:=Aside0.mk Q_HB
     refine goes_ Tryz.func102 (by kernel_rfl) rfl #[] (by rfl) rfl rfl (by first | (simp only [List.map_toArray,List.map_cons,List.map_nil,Act.eval,Array.getD_eq_getD_getElem?,Option.getD_some];done) | (simp only [List.map_toArray,List.map_cons,List.map_nil,Act.eval,Array.getD_eq_getD_getElem?,Option.getD_some];rfl)) ?_
     with_reducible refine (spec_l3Alus.calls  t405 _ A71.out).mono ?_
     rintro e w82 ⟨v406,rfl,ho0,hb⟩
     refine ⟨_,rfl,?_⟩
     have n0_:=Aside0.mk (Kd.R_lower ho0 (below_size q72_))
     have n1_:=Aside0.mk (below_step q72_ hb)
     clear HB
     have HO407:=n0_
     have HB:=n1_
     clear n0_ n1_
     (try clear hb)
     (try clear hb2)
     (try clear hk)
     (try clear hi)
     (try clear ho0)
     obtain ⟨Ao83,co83,eo83⟩:=Kd.R_slice HO407.out
     subst eo83
     obtain ⟨ado83,fo83,_⟩:=Kd.at_string (Kd.R_reads' HO407.out).2.2 0 (by decide) (by have h1_:=of_eq_true pi408;have h2_:=of_eq_true qi408;omega)
     cases fo83
     refine hK.out _ _ ⟨.slice (some ado83) t405.length co83,ado83,v410,adz_v410,m2_,m7_,q111_,q72_,fun _ => q103_,fun _ => ⟨_,rfl⟩,fun h0_ => absurd ((hoff 5 (by kernel_rfl)).symm.trans h0_) (by decide),fun h0_ => absurd ((hoff 5 (by kernel_rfl)).symm.trans h0_) (by decide),fun h0_ => absurd ((hoff 2 (by kernel_rfl)).symm.trans h0_) (by decide),fun h0_ => absurd ((hoff 7 (by kernel_rfl)).symm.trans h0_) (by decide)⟩
    refine steps_cons ?_ ?_
    ·rintro b a w' ⟨v406,adz_v406,v410,adz_v410,m2_,m7_,ha,Q_HB,Q_HO407,Q_HA_HO407,Q_HO411,Q_HA_HO411,Q_X2_,Q_X7_⟩ hb_ hon hoff
     refine ⟨_,rfl,fun K hK => ?_⟩
     have e72:a.tmps[72]? = some (v406):=by rw [ha];exact putSel_on (e:=(0,72,v406)) 0 rfl rfl (hon 0 (by kernel_rfl)) rfl
     have e73:a.tmps[73]? = some (.int .i64 (ji72)):=by rw [ha];exact (putSel_off rfl).trans rfl
     replace ha:=Aside0.mk ha
     have HB:=Aside0.mk Q_HB
     have HO407:=Aside0.mk (Q_HO407 (hon 0 (by kernel_rfl)))
     have HA_HO407:=Aside0.mk (Q_HA_HO407 (hon 0 (by kernel_rfl)))
     obtain ⟨c_,hv_⟩:=HA_HO407.out
     rw [hv_] at e72
     refine value_ (w1:=w') (v:=.pointer (some (adz_v406.add ((ji72)).toNat))) (by rfl) rfl ?_ ?_
     ·go_simp
      (try simp only [i64_w])
      try rfl
     refine hK.out _ _ ⟨v406,adz_v406,v410,adz_v410,(.pointer (some (adz_v406.add ((ji72)).toNat))),m7_,q112_,Q_HB,Q_HO407,Q_HA_HO407,Q_HO411,Q_HA_HO411,fun _ => rfl,Q_X7_⟩
    refine steps_cons ?_ ?_
    ·rintro b a w' ⟨v406,adz_v406,v410,adz_v410,m2_,m7_,ha,Q_HB,Q_HO407,Q_HA_HO407,Q_HO411,Q_HA_HO411,Q_X2_,Q_X7_⟩ hb_ hon hoff
     refine ⟨_,rfl,fun K hK => ?_⟩
     have e74:a.tmps[74]? = some (m2_):=by rw [ha];exact putSel_on (e:=(2,74,m2_)) 1 rfl rfl (hon 2 (by kernel_rfl)) rfl
     rw [Q_X2_ (hon 2 (by kernel_rfl))] at e74
     replace ha:=Aside0.mk ha
     have HB:=Aside0.mk Q_HB
     have HO407:=Aside0.mk (Q_HO407 (hon 0 (by kernel_rfl)))
     have HA_HO407:=Aside0.mk (Q_HA_HO407 (hon 0 (by kernel_rfl)))
     obtain ⟨c_,hv_⟩:=HA_HO407.out
     have hF_:=HO407.out
     rw [hv_] at hF_
     obtain ⟨ad_,ea_,hx_⟩:=Kd.at_string (Kd.R_reads' hF_).2.2 (ji72) (of_eq_true pi408) (of_eq_true qi408)
     cases ea_
     refine value_ (w1:=w') (v:=.string (rdOf ByteArray.empty t405 (ji72))) (by rfl) rfl ?_ ?_
     ·go_simp
      (try simp only [i64_w])
      try rfl
     refine hK.out _ _ ⟨v406,adz_v406,v410,adz_v410,m2_,m7_,q113_,Q_HB,Q_HO407,Q_HA_HO407,Q_HO411,Q_HA_HO411,Q_X2_,Q_X7_⟩
    refine steps_cons ?_ ?_
    ·rintro b a w' ⟨v406,adz_v406,v410,adz_v410,m2_,m7_,ha,Q_HB,Q_HO407,Q_HA_HO407,Q_HO411,Q_HA_HO411,Q_X2_,Q_X7_⟩ hb_ hon hoff
     refine ⟨_,rfl,fun K hK => ?_⟩
     have e75:a.tmps[75]? = some (.string (rdOf ByteArray.empty t405 (ji72))):=by rw [ha];exact putSel_on (e:=(3,75,.string (rdOf ByteArray.empty t405 (ji72)))) 2 rfl rfl (hon 3 (by kernel_rfl)) rfl
     replace ha:=Aside0.mk ha
     have HB:=Aside0.mk Q_HB
     have HO407:=Aside0.mk (Q_HO407 (hon 0 (by kernel_rfl)))
     have HA_HO407:=Aside0.mk (Q_HA_HO407 (hon 0 (by kernel_rfl)))
     refine value_ (w1:=w') (v:=.string ((rdOf ByteArray.empty t405 (ji72)) ++ (⟨#[32,97,44]⟩:ByteArray))) (by rfl) rfl ?_ ?_
     ·go_simp
      (try simp only [i64_w])
      try rfl
     refine hK.out _ _ ⟨v406,adz_v406,v410,adz_v410,m2_,m7_,q114_,Q_HB,Q_HO407,Q_HA_HO407,Q_HO411,Q_HA_HO411,Q_X2_,Q_X7_⟩
    refine steps_cons ?_ ?_
    ·rintro b a w' ⟨v406,adz_v406,v410,adz_v410,m2_,m7_,ha,Q_HB,Q_HO407,Q_HA_HO407,Q_HO411,Q_HA_HO411,Q_X2_,Q_X7_⟩ hb_ hon hoff
     refine ⟨_,rfl,fun K hK => ?_⟩
     replace ha:=Aside0.mk ha
     have HB:=Aside0.mk Q_HB
     have HO407:=Aside0.mk (Q_HO407 (hon 0 (by kernel_rfl)))
     have HA_HO407:=Aside0.mk (Q_HA_HO407 (hon 0 (by kernel_rfl)))
     obtain ⟨co85,eo85⟩:=HA_HO407.out
     clear HA_HO407
     subst eo85
     refine goes_ Tryz.func100 (by kernel_rfl) rfl #[] (by rfl) rfl rfl (by first | (simp only [List.map_toArray,List.map_cons,List.map_nil,Act.eval,Array.getD_eq_getD_getElem?,Option.getD_some];done) | (simp only [List.map_toArray,List.map_cons,List.map_nil,Act.eval,Array.getD_eq_getD_getElem?,Option.getD_some];rfl)) ?_
     with_reducible refine (spec_l3Regs.calls  t409 _ A76.out).mono ?_
     rintro e w86 ⟨v410,rfl,ho0,hb⟩
     refine ⟨_,rfl,?_⟩
     have n0_:=Aside0.mk (Kd.R_elder' q103_ (Kd.R_base ho0) hb)
     have n1_:=Aside0.mk (Kd.R_lower (Kd.R_new' ho0 (Kd.R_lt q103_)) (below_size q72_))
     have n2_:=Aside0.mk (below_step q72_ hb)
     clear HO407
     clear HB
     have HO407:=n0_
     have HO411:=n1_
     have HB:=n2_
     clear n0_ n1_ n2_
     (try clear hb)
     (try clear hb2)
     (try clear hk)
     (try clear hi)
     (try clear ho0)
     obtain ⟨Ao87,co87,eo87⟩:=Kd.R_slice HO411.out
     subst eo87
     obtain ⟨ado87,fo87,_⟩:=Kd.at_string (Kd.R_reads' HO411.out).2.2 0 (by decide) (by have h1_:=of_eq_true pi412;have h2_:=of_eq_true qi412;omega)
     cases fo87
     refine hK.out _ _ ⟨.slice (some adz_v406) t405.length co85,adz_v406,.slice (some ado87) t409.length co87,ado87,m2_,m7_,q115_,q72_,fun _ => (by (with_reducible repeat (first | apply Kd.R_alloc | apply Kd.R_drewN | apply Kd.R_drew));exact Kd.R_mono HO407.out (fun _ hk => by first | exact hk.2 | trivial)),fun _ => ⟨_,rfl⟩,fun _ => (by (with_reducible repeat (first | apply Kd.R_alloc | apply Kd.R_drewN | apply Kd.R_drew));exact Kd.R_mono HO411.out (fun _ hk => by first | exact hk.2 | trivial)),fun _ => ⟨_,rfl⟩,Q_X2_,fun h0_ => absurd ((hoff 7 (by kernel_rfl)).symm.trans h0_) (by decide)⟩
    refine steps_cons ?_ ?_
    ·rintro b a w' ⟨v406,adz_v406,v410,adz_v410,m2_,m7_,ha,Q_HB,Q_HO407,Q_HA_HO407,Q_HO411,Q_HA_HO411,Q_X2_,Q_X7_⟩ hb_ hon hoff
     refine ⟨_,rfl,fun K hK => ?_⟩
     have e77:a.tmps[77]? = some (v410):=by rw [ha];exact putSel_on (e:=(5,77,v410)) 4 rfl rfl (hon 5 (by kernel_rfl)) rfl
     have e78:a.tmps[78]? = some (.int .i64 (ji77)):=by rw [ha];exact (putSel_off rfl).trans rfl
     replace ha:=Aside0.mk ha
     have HB:=Aside0.mk Q_HB
     have HO407:=Aside0.mk (Q_HO407 (hon 0 (by kernel_rfl)))
     have HA_HO407:=Aside0.mk (Q_HA_HO407 (hon 0 (by kernel_rfl)))
     have HO411:=Aside0.mk (Q_HO411 (hon 5 (by kernel_rfl)))
     have HA_HO411:=Aside0.mk (Q_HA_HO411 (hon 5 (by kernel_rfl)))
     obtain ⟨c_,hv_⟩:=HA_HO411.out
     rw [hv_] at e77
     refine value_ (w1:=w') (v:=.pointer (some (adz_v410.add ((ji77)).toNat))) (by rfl) rfl ?_ ?_
     ·go_simp
      (try simp only [i64_w])
      try rfl
     refine hK.out _ _ ⟨v406,adz_v406,v410,adz_v410,m2_,(.pointer (some (adz_v410.add ((ji77)).toNat))),q116_,Q_HB,Q_HO407,Q_HA_HO407,Q_HO411,Q_HA_HO411,Q_X2_,fun _ => rfl⟩
    refine steps_cons ?_ ?_
    ·rintro b a w' ⟨v406,adz_v406,v410,adz_v410,m2_,m7_,ha,Q_HB,Q_HO407,Q_HA_HO407,Q_HO411,Q_HA_HO411,Q_X2_,Q_X7_⟩ hb_ hon hoff
     refine ⟨_,rfl,fun K hK => ?_⟩
     have e79:a.tmps[79]? = some (m7_):=by rw [ha];exact putSel_on (e:=(7,79,m7_)) 5 rfl rfl (hon 7 (by kernel_rfl)) rfl
     rw [Q_X7_ (hon 7 (by kernel_rfl))] at e79
     replace ha:=Aside0.mk ha
     have HB:=Aside0.mk Q_HB
     have HO407:=Aside0.mk (Q_HO407 (hon 0 (by kernel_rfl)))
     have HA_HO407:=Aside0.mk (Q_HA_HO407 (hon 0 (by kernel_rfl)))
     have HO411:=Aside0.mk (Q_HO411 (hon 5 (by kernel_rfl)))
     have HA_HO411:=Aside0.mk (Q_HA_HO411 (hon 5 (by kernel_rfl)))
     obtain ⟨c_,hv_⟩:=HA_HO411.out
     have hF_:=HO411.out
     rw [hv_] at hF_
     obtain ⟨ad_,ea_,hx_⟩:=Kd.at_string (Kd.R_reads' hF_).2.2 (ji77) (of_eq_true pi412) (of_eq_true qi412)
     cases ea_
     refine value_ (w1:=w') (v:=.string (rdOf ByteArray.empty t409 (ji77))) (by rfl) rfl ?_ ?_
     ·go_simp
      (try simp only [i64_w])
      try rfl
     refine hK.out _ _ ⟨v406,adz_v406,v410,adz_v410,m2_,m7_,q117_,Q_HB,Q_HO407,Q_HA_HO407,Q_HO411,Q_HA_HO411,Q_X2_,Q_X7_⟩
    refine steps_cons ?_ ?_
    ·rintro b a w' ⟨v406,adz_v406,v410,adz_v410,m2_,m7_,ha,Q_HB,Q_HO407,Q_HA_HO407,Q_HO411,Q_HA_HO411,Q_X2_,Q_X7_⟩ hb_ hon hoff
     refine ⟨_,rfl,fun K hK => ?_⟩
     have e76:a.tmps[76]? = some (.string ((rdOf ByteArray.empty t405 (ji72)) ++ (⟨#[32,97,44]⟩:ByteArray))):=by rw [ha];exact putSel_on (e:=(4,76,.string ((rdOf ByteArray.empty t405 (ji72)) ++ (⟨#[32,97,44]⟩:ByteArray)))) 3 rfl rfl (hon 4 (by kernel_rfl)) rfl
     have e80:a.tmps[80]? = some (.string (rdOf ByteArray.empty t409 (ji77))):=by rw [ha];exact putSel_on (e:=(8,80,.string (rdOf ByteArray.empty t409 (ji77)))) 6 rfl rfl (hon 8 (by kernel_rfl)) rfl
     replace ha:=Aside0.mk ha
     have HB:=Aside0.mk Q_HB
     have HO407:=Aside0.mk (Q_HO407 (hon 0 (by kernel_rfl)))
     have HA_HO407:=Aside0.mk (Q_HA_HO407 (hon 0 (by kernel_rfl)))
     have HO411:=Aside0.mk (Q_HO411 (hon 5 (by kernel_rfl)))
     have HA_HO411:=Aside0.mk (Q_HA_HO411 (hon 5 (by kernel_rfl)))
     refine value_ (w1:=w') (v:=.string (((rdOf ByteArray.empty t405 (ji72)) ++ (⟨#[32,97,44]⟩:ByteArray)) ++ (rdOf ByteArray.empty t409 (ji77)))) (by rfl) rfl ?_ ?_
     ·go_simp
      (try simp only [i64_w])
      try rfl
     refine hK.out _ _ ⟨v406,adz_v406,v410,adz_v410,m2_,m7_,q118_,Q_HB,Q_HO407,Q_HA_HO407,Q_HO411,Q_HA_HO411,Q_X2_,Q_X7_⟩
    refine steps_cons ?_ ?_
    ·rintro b a w' ⟨v406,adz_v406,v410,adz_v410,m2_,m7_,ha,Q_HB,Q_HO407,Q_HA_HO407,Q_HO411,Q_HA_HO411,Q_X2_,Q_X7_⟩ hb_ hon hoff
     refine ⟨_,rfl,fun K hK => ?_⟩
     have e81:a.tmps[81]? = some (.string (((rdOf ByteArray.empty t405 (ji72)) ++ (⟨#[32,97,44]⟩:ByteArray)) ++ (rdOf ByteArray.empty t409 (ji77)))):=by rw [ha];exact putSel_on (e:=(9,81,.string (((rdOf ByteArray.empty t405 (ji72)) ++ (⟨#[32,97,44]⟩:ByteArray)) ++ (rdOf ByteArray.empty t409 (ji77))))) 7 rfl rfl (hon 9 (by kernel_rfl)) rfl
     replace ha:=Aside0.mk ha
     have HB:=Aside0.mk Q_HB
     have HO407:=Aside0.mk (Q_HO407 (hon 0 (by kernel_rfl)))
     have HA_HO407:=Aside0.mk (Q_HA_HO407 (hon 0 (by kernel_rfl)))
     have HO411:=Aside0.mk (Q_HO411 (hon 5 (by kernel_rfl)))
     have HA_HO411:=Aside0.mk (Q_HA_HO411 (hon 5 (by kernel_rfl)))
     refine value_ (w1:=w') (v:=.string (((rdOf ByteArray.empty t405 (ji72)) ++ (⟨#[32,97,44]⟩:ByteArray)) ++ (rdOf ByteArray.empty t409 (ji77)))) (by rfl) rfl ?_ ?_
     ·go_simp
      (try simp only [i64_w])
      try rfl
     refine hK.out _ _ ⟨v406,adz_v406,v410,adz_v410,m2_,m7_,q119_,Q_HB,Q_HO407,Q_HA_HO407,Q_HO411,Q_HA_HO411,Q_X2_,Q_X7_⟩
    exact steps_nil
   rintro b a w86 hall ⟨v406,adz_v406,v410,adz_v410,m2_,m7_,ha,Q_HB,Q_HO407,Q_HA_HO407,Q_HO411,Q_HA_HO411,Q_X2_,Q_X7_⟩
   clear HB
   have hb0_:=hall 0 (by kernel_rfl)
   have hb2_:=hall 2 (by kernel_rfl)
   have hb3_:=hall 3 (by kernel_rfl)
   have hb4_:=hall 4 (by kernel_rfl)
   have hb5_:=hall 5 (by kernel_rfl)
   have hb7_:=hall 7 (by kernel_rfl)
   have hb8_:=hall 8 (by kernel_rfl)
   have hb9_:=hall 9 (by kernel_rfl)
   have hb10_:=hall 10 (by kernel_rfl)
   subst ha
   obtain rfl:=Q_X2_ hb2_
   obtain rfl:=Q_X7_ hb7_
   simp only [putSel,hb0_,hb2_,hb3_,hb4_,hb5_,hb7_,hb8_,hb9_,hb10_,if_true,Act.put,List.setIfInBounds_toArray,List.set_cons_zero,List.set_cons_succ]
   have HB:=Aside0.mk Q_HB
   clear Q_HB
   have HO407:=Aside0.mk (Q_HO407 hb0_)
   clear Q_HO407
   have HA_HO407:=Aside0.mk (Q_HA_HO407 hb0_)
   clear Q_HA_HO407
   have HO411:=Aside0.mk (Q_HO411 hb5_)
   clear Q_HO411
   have HA_HO411:=Aside0.mk (Q_HA_HO411 hb5_)
   clear Q_HA_HO411
   clear hall hb0_ hb2_ hb3_ hb4_ hb5_ hb7_ hb8_ hb9_ hb10_
   obtain ⟨co87,eo87⟩:=HA_HO407.out
   clear HA_HO407
   subst eo87
   obtain ⟨co88,eo88⟩:=HA_HO411.out
   clear HA_HO411
   subst eo88
   try go_wp2
   go_ret
   exact ⟨by first | rfl | (simp [errW_none,errW_some] <;> rfl) | (simp only [← hji72,← hji77];first | rfl | (simp [errW_none,errW_some] <;> rfl)) | (simp [*,errW_none,errW_some] <;> rfl) | (exfalso;simp_all;done),q72_⟩
  rw [if_neg c70] at H
  have c70b0:((wrap64 (Int.tdiv a0 64)) == 2) = false:=beq_eq_false_iff_ne.mpr c70
  have c70b1:((wrap64 (Int.tdiv a0 64)) != 2) = true:=bne_iff_ne.mpr c70
  replace H:=Option.bind_eq_some_iff.mp H
  obtain ⟨t413,A890,H⟩:=H
  have A89:=Aside0.mk A890
  clear A890
  obtain rfl:=Option.some.inj H
  go_wp2_with (first | ((with_reducible refine gate_callee (f:=103) rfl ?_);refine goesL_ (some 84) rfl rfl Tryz.func103 (by kernel_rfl) rfl #[.int .i64 (Int.tmod (wrap64 (Int.tdiv a0 8)) 8),.int .i64 (Int.tmod a0 8)] rfl q12_ ?_;(with_reducible refine (spec_l3Top.calls kj2 (Int.tmod (wrap64 (Int.tdiv a0 8)) 8) (Int.tmod a0 8) t413 _ A89.out).mono ?_);rintro e w90 ⟨rfl,hb⟩;refine ⟨_,rfl,?_⟩;replace HB:=Aside0.mk (below_step q72_ hb);(try clear hb)))
  go_ret
  exact ⟨q74_,q72_⟩
end Go.Proofs.YtodlnnoekccmmaaGreatDoor.QFnInsTexts
