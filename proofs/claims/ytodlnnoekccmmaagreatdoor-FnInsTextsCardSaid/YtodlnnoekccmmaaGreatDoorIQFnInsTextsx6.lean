/- The machine's side of a law,written by a program of this session for this claim. -/
import Derived.Test.YtodlnnoekccmmaaGreatDoorIQq
import Derived.Test.YtodlnnoekccmmaaGreatDoorIQFnInsTextsx0
import Derived.Test.YtodlnnoekccmmaaGreatDoorIQFnInsTextsx2
import Derived.Test.YtodlnnoekccmmaaGreatDoorIQFnInsTextsx3
import Derived.Test.YtodlnnoekccmmaaGreatDoorIQFnInsTextsx4
import Derived.Test.YtodlnnoekccmmaaGreatDoorIQFnInsTextsx5
namespace Go.Proofs.YtodlnnoekccmmaaGreatDoor.QFnInsTexts
open Go.Proofs.YtodlnnoekccmmaaGreatDoor.Qq
open Go.RowKit Go.Proofs.YtodlnnoekccmmaaGreatDoor.LibX Go.Proofs.YtodlnnoekccmmaaGreatDoor.LibE Go.Proofs.YtodlnnoekccmmaaGreatDoor.LibCB Go.Proofs.YtodlnnoekccmmaaGreatDoorW.PrintWords Go.Proofs.YtodlnnoekccmmaaGreatDoorW.PrintLast Go.Proofs.YtodlnnoekccmmaaGreatDoorW.PrintMore
attribute [local go_sem] max2_int min2_int max_two min_two max_three min_three max_four min_four   -- for this text's walks alone
set_option maxHeartbeats 8000000
set_option maxRecDepth 100000
set_option linter.unusedVariables false
set_option linter.unusedSimpArgs false
def impl_TemplateOf.f (k:Nat) (a0:Int) (a1:Bool):Option (ByteArray):=(impl_isByte.f a0).bind fun t222 => (if t222 = true then (if a1 = true then ((impl_prefixed.f (wrap64 (Int.tdiv a0 64)) (Int.tmod (wrap64 (Int.tdiv a0 8)) 8) (Int.tmod a0 8)).bind fun t223 => (some t223)) else (if (wrap64 (Int.tdiv a0 64)) = 0 then ((impl_low.f k (Int.tmod (wrap64 (Int.tdiv a0 8)) 8) (Int.tmod a0 8)).bind fun t224 => (some t224)) else (if (wrap64 (Int.tdiv a0 64)) = 3 then ((impl_high.f k (Int.tmod (wrap64 (Int.tdiv a0 8)) 8) (Int.tmod a0 8)).bind fun t225 => (some t225)) else (if (wrap64 (Int.tdiv a0 64)) = 2 then ((impl_alus.f).bind fun t226 => (if 0 ≤ (Int.tmod (wrap64 (Int.tdiv a0 8)) 8) then (if (Int.tmod (wrap64 (Int.tdiv a0 8)) 8) < (t226.length:Int) then (if (rdOf ByteArray.empty t226 (Int.tmod (wrap64 (Int.tdiv a0 8)) 8)).size + 3 ≤ 9223372036854775807 then ((impl_regs.f).bind fun t230 => (if 0 ≤ (Int.tmod a0 8) then (if (Int.tmod a0 8) < (t230.length:Int) then (if ((rdOf ByteArray.empty t226 (Int.tmod (wrap64 (Int.tdiv a0 8)) 8)) ++ (⟨#[32,97,44]⟩:ByteArray)).size + (rdOf ByteArray.empty t230 (Int.tmod a0 8)).size ≤ 9223372036854775807 then (some (((rdOf ByteArray.empty t226 (Int.tmod (wrap64 (Int.tdiv a0 8)) 8)) ++ (⟨#[32,97,44]⟩:ByteArray)) ++ (rdOf ByteArray.empty t230 (Int.tmod a0 8)))) else (none)) else (none)) else (none))) else (none)) else (none)) else (none))) else (if a0 = 118 then (some (⟨#[104,97,108,116]⟩:ByteArray)) else ((impl_regs.f).bind fun t234 => (if 0 ≤ (Int.tmod (wrap64 (Int.tdiv a0 8)) 8) then (if (Int.tmod (wrap64 (Int.tdiv a0 8)) 8) < (t234.length:Int) then (if 3 + (rdOf ByteArray.empty t234 (Int.tmod (wrap64 (Int.tdiv a0 8)) 8)).size ≤ 9223372036854775807 then (if ((⟨#[108,100,32]⟩:ByteArray) ++ (rdOf ByteArray.empty t234 (Int.tmod (wrap64 (Int.tdiv a0 8)) 8))).size + 1 ≤ 9223372036854775807 then ((impl_regs.f).bind fun t238 => (if 0 ≤ (Int.tmod a0 8) then (if (Int.tmod a0 8) < (t238.length:Int) then (if (((⟨#[108,100,32]⟩:ByteArray) ++ (rdOf ByteArray.empty t234 (Int.tmod (wrap64 (Int.tdiv a0 8)) 8))) ++ (⟨#[44]⟩:ByteArray)).size + (rdOf ByteArray.empty t238 (Int.tmod a0 8)).size ≤ 9223372036854775807 then (some ((((⟨#[108,100,32]⟩:ByteArray) ++ (rdOf ByteArray.empty t234 (Int.tmod (wrap64 (Int.tdiv a0 8)) 8))) ++ (⟨#[44]⟩:ByteArray)) ++ (rdOf ByteArray.empty t238 (Int.tmod a0 8)))) else (none)) else (none)) else (none))) else (none)) else (none)) else (none)) else (none)))))))) else (some (⟨#[]⟩:ByteArray)))
theorem impl_TemplateOf.mono:∀ a0 a1 k,LeO (impl_TemplateOf.f k a0 a1) (impl_TemplateOf.f (k + 1) a0 a1):=by
 intro a0 a1 k
 unfold impl_TemplateOf.f
 repeat' first
   | (with_reducible first | exact impl_high.mono _ _ _ | exact impl_low.mono _ _ _ | exact LeO.refl _ | exact LeO.none _ | refine LeO.ite ?_ ?_ | refine LeO.bind ?_ (fun _ => ?_))
   | exact impl_high.mono _ _ _
   | exact impl_low.mono _ _ _
   | exact LeO.none _
   | refine LeO.ite ?_ ?_
   | refine LeO.bind ?_ (fun _ => ?_)
def impl_TemplateOf.T11:Bool × List (List Nat × List Nat):=(true,[([],[]),([],[]),([0,1],[0,1]),([2],[2]),([3],[3]),([0],[]),([],[]),([5,6],[5,6]),([7],[7]),([4,8],[4,8]),([9,5,0,1,2,3,4,5,6,7,8,9],[9])])
def impl_TemplateOf.B11:List Nat:=[0,0,3,7,15,1,0,97,225,511,1023]
theorem impl_TemplateOf.tab11:rtab .any (opsOf Tryz.f46 11) = impl_TemplateOf.T11:=by kernel_rfl
theorem impl_TemplateOf.bits11:waitsOk impl_TemplateOf.T11.2 impl_TemplateOf.B11 = true:=by kernel_rfl
def impl_TemplateOf.T14:Bool × List (List Nat × List Nat):=(true,[([],[]),([],[]),([0,1],[0,1]),([2],[2]),([3],[3]),([4],[4]),([0],[]),([],[]),([6,7],[6,7]),([8],[8]),([5,9],[5,9]),([10,6,0,1,2,3,4,5,6,7,8,9,10],[10])])
def impl_TemplateOf.B14:List Nat:=[0,0,3,7,15,31,1,0,193,449,1023,2047]
theorem impl_TemplateOf.tab14:rtab .any (opsOf Tryz.f46 14) = impl_TemplateOf.T14:=by kernel_rfl
theorem impl_TemplateOf.bits14:waitsOk impl_TemplateOf.T14.2 impl_TemplateOf.B14 = true:=by kernel_rfl
theorem impl_TemplateOf.calls (k:Nat) (a0:Int) (a1:Bool) (r:ByteArray) (w:World) (h:impl_TemplateOf.f k a0 a1 = some r) (hG:Go.Proofs.YtodlnnoekccmmaaGreatDoor.LibW.GL w:=by first | exact hG | exact hG.below q10_ | exact hG.drewN _) :
  Calls Tryz.prog 46 #[.int .i64 a0,.bool a1] w fun e w' => e = .returned (.string r) ∧ Below w.heap.size w w':=by
 have HB:=Aside0.mk (Below.refl w.heap.size w)
 have H:=h;unfold impl_TemplateOf.f at H
 clear h
 replace H:=Option.bind_eq_some_iff.mp H
 obtain ⟨t222,A30,H⟩:=H
 have A3:=Aside0.mk A30
 clear A30
 by_cases c4:t222 = true
 ·subst c4
  rewrite [if_pos rfl] at H
  by_cases c5:a1 = true
  ·subst c5
   rewrite [if_pos rfl] at H
   replace H:=Option.bind_eq_some_iff.mp H
   obtain ⟨t223,A60,H⟩:=H
   have A6:=Aside0.mk A60
   clear A60
   obtain rfl:=Option.some.inj H
   go_enter Tryz.func46,Tryz.ntmps46
   go_wp2_with (first | ((with_reducible refine gate_callee (f:=58) rfl ?_);refine goesL_ (some 9) rfl rfl Tryz.func58 (by kernel_rfl) rfl #[.int .i64 a0] rfl q71_ ?_;(with_reducible refine (impl_isByte.calls a0 true _ A3.out).mono ?_);rintro e w' ⟨rfl,⟨nd,rfl⟩⟩;refine ⟨_,rfl,?_⟩) | ((with_reducible refine gate_callee (f:=92) rfl ?_);refine goesL_ (some 23) rfl rfl Tryz.func92 (by kernel_rfl) rfl #[.int .i64 (wrap64 (Int.tdiv a0 64)),.int .i64 (Int.tmod (wrap64 (Int.tdiv a0 8)) 8),.int .i64 (Int.tmod a0 8)] rfl (by (try simp only [List.map_toArray,List.map_cons,List.map_nil]);first | done | rfl | (simp only [List.length_drop,List.length_take];rfl) | (refine Eq.trans (b:=#[.int .i64 ((Int.tdiv a0 64)),.int .i64 (Int.tmod ((Int.tdiv a0 8)) 8),.int .i64 (Int.tmod a0 8)]) rfl ?_;simp [wrap64] <;> omega)) ?_;(with_reducible refine (impl_prefixed.calls (wrap64 (Int.tdiv a0 64)) (Int.tmod (wrap64 (Int.tdiv a0 8)) 8) (Int.tmod a0 8) t223 _ A6.out).mono ?_);rintro e w7 ⟨rfl,hb⟩;refine ⟨_,rfl,?_⟩;replace HB:=Aside0.mk (below_step q72_ hb);(try clear hb)))
   go_ret
   exact ⟨q74_,q72_⟩
  replace c5:=Bool.eq_false_iff.mpr c5
  subst c5
  rewrite [if_neg (show ¬ (false = true) by decide)] at H
  by_cases c8:(wrap64 (Int.tdiv a0 64)) = 0
  ·rw [if_pos c8] at H
   have c8b0:((wrap64 (Int.tdiv a0 64)) == 0) = true:=beq_iff_eq.mpr c8
   have c8b1:((wrap64 (Int.tdiv a0 64)) != 0) = false:=bne_eq_false_iff_eq.mpr c8
   clear c8
   replace H:=Option.bind_eq_some_iff.mp H
   obtain ⟨t224,A90,H⟩:=H
   have A9:=Aside0.mk A90
   clear A90
   obtain rfl:=Option.some.inj H
   go_enter Tryz.func46,Tryz.ntmps46
   go_wp2_with (first | ((with_reducible refine gate_callee (f:=58) rfl ?_);refine goesL_ (some 9) rfl rfl Tryz.func58 (by kernel_rfl) rfl #[.int .i64 a0] rfl q71_ ?_;(with_reducible refine (impl_isByte.calls a0 true _ A3.out).mono ?_);rintro e w' ⟨rfl,⟨nd,rfl⟩⟩;refine ⟨_,rfl,?_⟩) | ((with_reducible refine gate_callee (f:=93) rfl ?_);refine goesL_ (some 29) rfl rfl Tryz.func93 (by kernel_rfl) rfl #[.int .i64 (Int.tmod (wrap64 (Int.tdiv a0 8)) 8),.int .i64 (Int.tmod a0 8)] rfl q12_ ?_;(with_reducible refine (impl_low.calls k (Int.tmod (wrap64 (Int.tdiv a0 8)) 8) (Int.tmod a0 8) t224 _ A9.out).mono ?_);rintro e w10 ⟨rfl,hb⟩;refine ⟨_,rfl,?_⟩;replace HB:=Aside0.mk (below_step q72_ hb);(try clear hb)))
   go_ret
   exact ⟨q74_,q72_⟩
  rw [if_neg c8] at H
  have c8b0:((wrap64 (Int.tdiv a0 64)) == 0) = false:=beq_eq_false_iff_ne.mpr c8
  have c8b1:((wrap64 (Int.tdiv a0 64)) != 0) = true:=bne_iff_ne.mpr c8
  by_cases c11:(wrap64 (Int.tdiv a0 64)) = 3
  ·rw [if_pos c11] at H
   have c11b0:((wrap64 (Int.tdiv a0 64)) == 3) = true:=beq_iff_eq.mpr c11
   have c11b1:((wrap64 (Int.tdiv a0 64)) != 3) = false:=bne_eq_false_iff_eq.mpr c11
   clear c11
   replace H:=Option.bind_eq_some_iff.mp H
   obtain ⟨t225,A120,H⟩:=H
   have A12:=Aside0.mk A120
   clear A120
   obtain rfl:=Option.some.inj H
   go_enter Tryz.func46,Tryz.ntmps46
   go_wp2_with (first | ((with_reducible refine gate_callee (f:=58) rfl ?_);refine goesL_ (some 9) rfl rfl Tryz.func58 (by kernel_rfl) rfl #[.int .i64 a0] rfl q71_ ?_;(with_reducible refine (impl_isByte.calls a0 true _ A3.out).mono ?_);rintro e w' ⟨rfl,⟨nd,rfl⟩⟩;refine ⟨_,rfl,?_⟩) | ((with_reducible refine gate_callee (f:=94) rfl ?_);refine goesL_ (some 35) rfl rfl Tryz.func94 (by kernel_rfl) rfl #[.int .i64 (Int.tmod (wrap64 (Int.tdiv a0 8)) 8),.int .i64 (Int.tmod a0 8)] rfl q12_ ?_;(with_reducible refine (impl_high.calls k (Int.tmod (wrap64 (Int.tdiv a0 8)) 8) (Int.tmod a0 8) t225 _ A12.out).mono ?_);rintro e w13 ⟨rfl,hb⟩;refine ⟨_,rfl,?_⟩;replace HB:=Aside0.mk (below_step q72_ hb);(try clear hb)))
   go_ret
   exact ⟨q74_,q72_⟩
  rw [if_neg c11] at H
  have c11b0:((wrap64 (Int.tdiv a0 64)) == 3) = false:=beq_eq_false_iff_ne.mpr c11
  have c11b1:((wrap64 (Int.tdiv a0 64)) != 3) = true:=bne_iff_ne.mpr c11
  by_cases c14:(wrap64 (Int.tdiv a0 64)) = 2
  ·rw [if_pos c14] at H
   have c14b0:((wrap64 (Int.tdiv a0 64)) == 2) = true:=beq_iff_eq.mpr c14
   have c14b1:((wrap64 (Int.tdiv a0 64)) != 2) = false:=bne_eq_false_iff_eq.mpr c14
   clear c14
   replace H:=Option.bind_eq_some_iff.mp H
   obtain ⟨t226,A150,H⟩:=H
   have A15:=Aside0.mk A150
   clear A150
   obtain ⟨ji16,hji16⟩:∃ j_:Int,(Int.tmod (wrap64 (Int.tdiv a0 8)) 8) = j_:=⟨_,rfl⟩
   (first | rewrite [hji16] at H | simp only [hji16] at H)
   (try rw [hji16] at A3)
   (try rw [hji16] at A15)
   by_cases c17:0 ≤ (ji16)
   rotate_left
   ·rw [if_neg c17] at H
    exact absurd H (by simp)
   rw [if_pos c17] at H
   have c17b0:=decide_eq_true c17
   clear c17
   by_cases c18:(ji16) < (t226.length:Int)
   rotate_left
   ·rw [if_neg c18] at H
    exact absurd H (by simp)
   rw [if_pos c18] at H
   have c18b0:=decide_eq_true c18
   clear c18
   by_cases c19:(rdOf ByteArray.empty t226 (ji16)).size + 3 ≤ 9223372036854775807
   rotate_left
   ·rw [if_neg c19] at H
    exact absurd H (by simp)
   rw [if_pos c19] at H
   have c19b0:=eq_true c19
   have c19b1:=decide_eq_true c19
   try have c19b2:(9223372036854775807 < (rdOf ByteArray.empty t226 (ji16)).size + 3) = False:=eq_false (Nat.not_lt.2 c19)
   replace H:=Option.bind_eq_some_iff.mp H
   obtain ⟨t230,A200,H⟩:=H
   have A20:=Aside0.mk A200
   clear A200
   obtain ⟨ji21,hji21⟩:∃ j_:Int,(Int.tmod a0 8) = j_:=⟨_,rfl⟩
   (first | rewrite [hji21] at H | simp only [hji21] at H)
   (try rw [hji21] at A3)
   (try rw [hji21] at A15)
   (try rw [hji21] at A20)
   by_cases c22:0 ≤ (ji21)
   rotate_left
   ·rw [if_neg c22] at H
    exact absurd H (by simp)
   rw [if_pos c22] at H
   have c22b0:=decide_eq_true c22
   clear c22
   by_cases c23:(ji21) < (t230.length:Int)
   rotate_left
   ·rw [if_neg c23] at H
    exact absurd H (by simp)
   rw [if_pos c23] at H
   have c23b0:=decide_eq_true c23
   clear c23
   by_cases c24:((rdOf ByteArray.empty t226 (ji16)) ++ (⟨#[32,97,44]⟩:ByteArray)).size + (rdOf ByteArray.empty t230 (ji21)).size ≤ 9223372036854775807
   rotate_left
   ·rw [if_neg c24] at H
    exact absurd H (by simp)
   rw [if_pos c24] at H
   have c24b0:=eq_true c24
   (try (have c24b0e:=c24b0;simp only [ByteArray.size_append,ByteArray.size_extract,Nat.min_self,Nat.sub_zero,show (⟨#[32,97,44]⟩:ByteArray).size = 3 from rfl] at c24b0e))
   have c24b1:=decide_eq_true c24
   (try (have c24b1e:=c24b1;simp only [ByteArray.size_append,ByteArray.size_extract,Nat.min_self,Nat.sub_zero,show (⟨#[32,97,44]⟩:ByteArray).size = 3 from rfl] at c24b1e))
   try have c24b2:(9223372036854775807 < ((rdOf ByteArray.empty t226 (ji16)) ++ (⟨#[32,97,44]⟩:ByteArray)).size + (rdOf ByteArray.empty t230 (ji21)).size) = False:=eq_false (Nat.not_lt.2 c24)
   (try (have c24b2e:=c24b2;simp only [ByteArray.size_append,ByteArray.size_extract,Nat.min_self,Nat.sub_zero,show (⟨#[32,97,44]⟩:ByteArray).size = 3 from rfl] at c24b2e))
   obtain rfl:=Option.some.inj H
   go_enter Tryz.func46,Tryz.ntmps46
   try go_wp2_with (first | ((with_reducible refine gate_callee (f:=58) rfl ?_);refine goesL_ (some 9) rfl rfl Tryz.func58 (by kernel_rfl) rfl #[.int .i64 a0] rfl q71_ ?_;(with_reducible refine (impl_isByte.calls a0 true _ A3.out).mono ?_);rintro e w' ⟨rfl,⟨nd,rfl⟩⟩;refine ⟨_,rfl,?_⟩))
   have pi229:(0 ≤ ((ji16):Int)) = True:=eq_true (of_decide_eq_true q109_)
   have qi229:((ji16) < (t226.length:Int)) = True:=eq_true (of_decide_eq_true q109_)
   have pi233:(0 ≤ ((ji21):Int)) = True:=eq_true (of_decide_eq_true q109_)
   have qi233:((ji21) < (t230.length:Int)) = True:=eq_true (of_decide_eq_true q109_)
   generalize hq_:World.drewN w _ = w25
   have n0_:Aside0 (Below w.heap.size w w25):=⟨by rw [← hq_];exact pw_below_drewN HB.out _⟩
   clear HB hq_
   have HB:=n0_
   clear n0_
   have n0_:=Aside0.mk (below_drew1 HB.out)
   clear HB
   have HB:=n0_
   clear n0_
   refine start_ (n:=11) (S:=fun w' => True) (ds:=[]) #[false,false,false,false,false,false,false,false,false,false,false] (by kernel_rfl) rfl rfl trivial (fun hHeld => ?_);refine with_tabW impl_TemplateOf.tab11 impl_TemplateOf.bits11 (fun HT_ HW_ => ?_)
   generalize w25.drew = w26 at HB hHeld ⊢
   refine pure_ (i:=1) (N:=some 40) (v:=?_) (a':=?_) #[false,true,false,false,false,false,false,false,false,false,false] rfl rfl (any_of HT_.out (by kernel_rfl)) (fun _ _ _ h => h) (Or.inl ⟨by rfl,?_⟩) ?_ ?_
   rotate_left
   ·intro w'
    go_simp
    with_reducible rfl
   rotate_left
   ·simp only [Act.put,List.setIfInBounds_toArray,List.set_cons_zero,List.set_cons_succ,i64_w,i32_w]
    rfl
   refine pure_ (i:=6) (N:=some 45) (v:=?_) (a':=?_) #[false,true,false,false,false,false,true,false,false,false,false] rfl rfl (any_of HT_.out (by kernel_rfl)) (fun _ _ _ h => h) (Or.inl ⟨by rfl,?_⟩) ?_ ?_
   rotate_left
   ·intro w'
    go_simp
    with_reducible rfl
   rotate_left
   ·simp only [Act.put,List.setIfInBounds_toArray,List.set_cons_zero,List.set_cons_succ,i64_w,i32_w]
    rfl
   refine inv_at [0,2,3,4,5,7,8,9,10] (fun a0_ b a w' => ∃ (v227:Value) (adz_v227:Addr) (v231:Value) (adz_v231:Addr) (m2_:Value) (m7_:Value),a = putSel a0_ b [(0,39,v227),(2,41,m2_),(3,42,.string (rdOf ByteArray.empty t226 (ji16))),(4,43,.string ((rdOf ByteArray.empty t226 (ji16)) ++ (⟨#[32,97,44]⟩:ByteArray))),(5,44,v231),(7,46,m7_),(8,47,.string (rdOf ByteArray.empty t230 (ji21))),(9,48,.string (((rdOf ByteArray.empty t226 (ji16)) ++ (⟨#[32,97,44]⟩:ByteArray)) ++ (rdOf ByteArray.empty t230 (ji21)))),(10,4,.string (((rdOf ByteArray.empty t226 (ji16)) ++ (⟨#[32,97,44]⟩:ByteArray)) ++ (rdOf ByteArray.empty t230 (ji21))))] ∧ (Below w.heap.size w w') ∧ (b 0 = true → Kd.R Kd.string 9 w' w.heap.size (fun _ => True) v227 t226) ∧ (b 0 = true → ∃ c_,(v227:Value) = .slice (some adz_v227) t226.length c_) ∧ (b 5 = true → Kd.R Kd.string 9 w' w.heap.size (fun _ => True) v231 t230) ∧ (b 5 = true → ∃ c_,(v231:Value) = .slice (some adz_v231) t230.length c_) ∧ (b 2 = true → (m2_:Value) = .pointer (some (adz_v227.add ((ji16)).toNat))) ∧ (b 7 = true → (m7_:Value) = .pointer (some (adz_v231.add ((ji21)).toNat)))) HT_.out HW_.out (by kernel_rfl) (by kernel_rfl) ?_ ?_ ?_
   ·exact ⟨.bool false,⟨0,0,none⟩,.bool false,⟨0,0,none⟩,.bool false,.bool false,q110_,HB.out,fun h_ => absurd h_ (by decide),fun h_ => absurd h_ (by decide),fun h_ => absurd h_ (by decide),fun h_ => absurd h_ (by decide),fun h_ => absurd h_ (by decide),fun h_ => absurd h_ (by decide)⟩
   ·skip
    clear HB
    refine steps_cons ?_ ?_
    ·rintro b a w' ⟨v227,adz_v227,v231,adz_v231,m2_,m7_,ha,Q_HB,Q_HO228,Q_HA_HO228,Q_HO232,Q_HA_HO232,Q_X2_,Q_X7_⟩ hb_ hon hoff
     refine ⟨_,rfl,fun K hK => ?_⟩
     replace ha:=Aside0.mk ha
     have HB:=Aside0.mk Q_HB
     refine goes_ Tryz.func95 (by kernel_rfl) rfl #[] (by rfl) rfl rfl (by first | (simp only [List.map_toArray,List.map_cons,List.map_nil,Act.eval,Array.getD_eq_getD_getElem?,Option.getD_some];done) | (simp only [List.map_toArray,List.map_cons,List.map_nil,Act.eval,Array.getD_eq_getD_getElem?,Option.getD_some];rfl)) ?_
     with_reducible refine (impl_alus.calls  t226 _ A15.out).mono ?_
     rintro e w27 ⟨v227,rfl,ho0,hb⟩
     refine ⟨_,rfl,?_⟩
     have n0_:=Aside0.mk (Kd.R_lower ho0 (below_size q72_))
     have n1_:=Aside0.mk (below_step q72_ hb)
     clear HB
     have HO228:=n0_
     have HB:=n1_
     clear n0_ n1_
     (try clear hb)
     (try clear hb2)
     (try clear hk)
     (try clear hi)
     (try clear ho0)
     obtain ⟨Ao28,co28,eo28⟩:=Kd.R_slice HO228.out
     subst eo28
     obtain ⟨ado28,fo28,_⟩:=Kd.at_string (Kd.R_reads' HO228.out).2.2 0 (by decide) (by have h1_:=of_eq_true pi229;have h2_:=of_eq_true qi229;omega)
     cases fo28
     refine hK.out _ _ ⟨.slice (some ado28) t226.length co28,ado28,v231,adz_v231,m2_,m7_,q111_,q72_,fun _ => q98_,fun _ => ⟨_,rfl⟩,fun h0_ => absurd ((hoff 5 (by kernel_rfl)).symm.trans h0_) (by decide),fun h0_ => absurd ((hoff 5 (by kernel_rfl)).symm.trans h0_) (by decide),fun h0_ => absurd ((hoff 2 (by kernel_rfl)).symm.trans h0_) (by decide),fun h0_ => absurd ((hoff 7 (by kernel_rfl)).symm.trans h0_) (by decide)⟩
    refine steps_cons ?_ ?_
    ·rintro b a w' ⟨v227,adz_v227,v231,adz_v231,m2_,m7_,ha,Q_HB,Q_HO228,Q_HA_HO228,Q_HO232,Q_HA_HO232,Q_X2_,Q_X7_⟩ hb_ hon hoff
     refine ⟨_,rfl,fun K hK => ?_⟩
     have e39:a.tmps[39]? = some (v227):=by rw [ha];exact putSel_on (e:=(0,39,v227)) 0 rfl rfl (hon 0 (by kernel_rfl)) rfl
     have e40:a.tmps[40]? = some (.int .i64 ji16):=by rw [ha];exact (putSel_off rfl).trans rfl
     replace ha:=Aside0.mk ha
     have HB:=Aside0.mk Q_HB
     have HO228:=Aside0.mk (Q_HO228 (hon 0 (by kernel_rfl)))
     have HA_HO228:=Aside0.mk (Q_HA_HO228 (hon 0 (by kernel_rfl)))
     obtain ⟨c_,hv_⟩:=HA_HO228.out
     rw [hv_] at e39
     refine value_ (w1:=w') (v:=.pointer (some (adz_v227.add ((ji16)).toNat))) (by rfl) rfl ?_ ?_
     ·go_simp
      (try simp only [i64_w])
      try rfl
     refine hK.out _ _ ⟨v227,adz_v227,v231,adz_v231,(.pointer (some (adz_v227.add ((ji16)).toNat))),m7_,q112_,Q_HB,Q_HO228,Q_HA_HO228,Q_HO232,Q_HA_HO232,fun _ => rfl,Q_X7_⟩
    refine steps_cons ?_ ?_
    ·rintro b a w' ⟨v227,adz_v227,v231,adz_v231,m2_,m7_,ha,Q_HB,Q_HO228,Q_HA_HO228,Q_HO232,Q_HA_HO232,Q_X2_,Q_X7_⟩ hb_ hon hoff
     refine ⟨_,rfl,fun K hK => ?_⟩
     have e41:a.tmps[41]? = some (m2_):=by rw [ha];exact putSel_on (e:=(2,41,m2_)) 1 rfl rfl (hon 2 (by kernel_rfl)) rfl
     rw [Q_X2_ (hon 2 (by kernel_rfl))] at e41
     replace ha:=Aside0.mk ha
     have HB:=Aside0.mk Q_HB
     have HO228:=Aside0.mk (Q_HO228 (hon 0 (by kernel_rfl)))
     have HA_HO228:=Aside0.mk (Q_HA_HO228 (hon 0 (by kernel_rfl)))
     obtain ⟨c_,hv_⟩:=HA_HO228.out
     have hF_:=HO228.out
     rw [hv_] at hF_
     obtain ⟨ad_,ea_,hx_⟩:=Kd.at_string (Kd.R_reads' hF_).2.2 (ji16) (of_eq_true pi229) (of_eq_true qi229)
     cases ea_
     refine value_ (w1:=w') (v:=.string (rdOf ByteArray.empty t226 (ji16))) (by rfl) rfl ?_ ?_
     ·go_simp
      (try simp only [i64_w])
      try rfl
     refine hK.out _ _ ⟨v227,adz_v227,v231,adz_v231,m2_,m7_,q113_,Q_HB,Q_HO228,Q_HA_HO228,Q_HO232,Q_HA_HO232,Q_X2_,Q_X7_⟩
    refine steps_cons ?_ ?_
    ·rintro b a w' ⟨v227,adz_v227,v231,adz_v231,m2_,m7_,ha,Q_HB,Q_HO228,Q_HA_HO228,Q_HO232,Q_HA_HO232,Q_X2_,Q_X7_⟩ hb_ hon hoff
     refine ⟨_,rfl,fun K hK => ?_⟩
     have e42:a.tmps[42]? = some (.string (rdOf ByteArray.empty t226 (ji16))):=by rw [ha];exact putSel_on (e:=(3,42,.string (rdOf ByteArray.empty t226 (ji16)))) 2 rfl rfl (hon 3 (by kernel_rfl)) rfl
     replace ha:=Aside0.mk ha
     have HB:=Aside0.mk Q_HB
     have HO228:=Aside0.mk (Q_HO228 (hon 0 (by kernel_rfl)))
     have HA_HO228:=Aside0.mk (Q_HA_HO228 (hon 0 (by kernel_rfl)))
     refine value_ (w1:=w') (v:=.string ((rdOf ByteArray.empty t226 (ji16)) ++ (⟨#[32,97,44]⟩:ByteArray))) (by rfl) rfl ?_ ?_
     ·go_simp
      (try simp only [i64_w])
      try rfl
     refine hK.out _ _ ⟨v227,adz_v227,v231,adz_v231,m2_,m7_,q114_,Q_HB,Q_HO228,Q_HA_HO228,Q_HO232,Q_HA_HO232,Q_X2_,Q_X7_⟩
    refine steps_cons ?_ ?_
    ·rintro b a w' ⟨v227,adz_v227,v231,adz_v231,m2_,m7_,ha,Q_HB,Q_HO228,Q_HA_HO228,Q_HO232,Q_HA_HO232,Q_X2_,Q_X7_⟩ hb_ hon hoff
     refine ⟨_,rfl,fun K hK => ?_⟩
     replace ha:=Aside0.mk ha
     have HB:=Aside0.mk Q_HB
     have HO228:=Aside0.mk (Q_HO228 (hon 0 (by kernel_rfl)))
     have HA_HO228:=Aside0.mk (Q_HA_HO228 (hon 0 (by kernel_rfl)))
     obtain ⟨co30,eo30⟩:=HA_HO228.out
     clear HA_HO228
     subst eo30
     refine goes_ Tryz.func96 (by kernel_rfl) rfl #[] (by rfl) rfl rfl (by first | (simp only [List.map_toArray,List.map_cons,List.map_nil,Act.eval,Array.getD_eq_getD_getElem?,Option.getD_some];done) | (simp only [List.map_toArray,List.map_cons,List.map_nil,Act.eval,Array.getD_eq_getD_getElem?,Option.getD_some];rfl)) ?_
     with_reducible refine (impl_regs.calls  t230 _ A20.out).mono ?_
     rintro e w31 ⟨v231,rfl,ho0,hb⟩
     refine ⟨_,rfl,?_⟩
     have n0_:=Aside0.mk (Kd.R_elder' q98_ (Kd.R_base ho0) hb)
     have n1_:=Aside0.mk (Kd.R_lower (Kd.R_new' ho0 (Kd.R_lt q98_)) (below_size q72_))
     have n2_:=Aside0.mk (below_step q72_ hb)
     clear HO228
     clear HB
     have HO228:=n0_
     have HO232:=n1_
     have HB:=n2_
     clear n0_ n1_ n2_
     (try clear hb)
     (try clear hb2)
     (try clear hk)
     (try clear hi)
     (try clear ho0)
     obtain ⟨Ao32,co32,eo32⟩:=Kd.R_slice HO232.out
     subst eo32
     obtain ⟨ado32,fo32,_⟩:=Kd.at_string (Kd.R_reads' HO232.out).2.2 0 (by decide) (by have h1_:=of_eq_true pi233;have h2_:=of_eq_true qi233;omega)
     cases fo32
     refine hK.out _ _ ⟨.slice (some adz_v227) t226.length co30,adz_v227,.slice (some ado32) t230.length co32,ado32,m2_,m7_,q115_,q72_,fun _ => (by (with_reducible repeat (first | apply Kd.R_alloc | apply Kd.R_drewN | apply Kd.R_drew));exact Kd.R_mono HO228.out (fun _ hk => by first | exact hk.2 | trivial)),fun _ => ⟨_,rfl⟩,fun _ => (by (with_reducible repeat (first | apply Kd.R_alloc | apply Kd.R_drewN | apply Kd.R_drew));exact Kd.R_mono HO232.out (fun _ hk => by first | exact hk.2 | trivial)),fun _ => ⟨_,rfl⟩,Q_X2_,fun h0_ => absurd ((hoff 7 (by kernel_rfl)).symm.trans h0_) (by decide)⟩
    refine steps_cons ?_ ?_
    ·rintro b a w' ⟨v227,adz_v227,v231,adz_v231,m2_,m7_,ha,Q_HB,Q_HO228,Q_HA_HO228,Q_HO232,Q_HA_HO232,Q_X2_,Q_X7_⟩ hb_ hon hoff
     refine ⟨_,rfl,fun K hK => ?_⟩
     have e44:a.tmps[44]? = some (v231):=by rw [ha];exact putSel_on (e:=(5,44,v231)) 4 rfl rfl (hon 5 (by kernel_rfl)) rfl
     have e45:a.tmps[45]? = some (.int .i64 ji21):=by rw [ha];exact (putSel_off rfl).trans rfl
     replace ha:=Aside0.mk ha
     have HB:=Aside0.mk Q_HB
     have HO228:=Aside0.mk (Q_HO228 (hon 0 (by kernel_rfl)))
     have HA_HO228:=Aside0.mk (Q_HA_HO228 (hon 0 (by kernel_rfl)))
     have HO232:=Aside0.mk (Q_HO232 (hon 5 (by kernel_rfl)))
     have HA_HO232:=Aside0.mk (Q_HA_HO232 (hon 5 (by kernel_rfl)))
     obtain ⟨c_,hv_⟩:=HA_HO232.out
     rw [hv_] at e44
     refine value_ (w1:=w') (v:=.pointer (some (adz_v231.add ((ji21)).toNat))) (by rfl) rfl ?_ ?_
     ·go_simp
      (try simp only [i64_w])
      try rfl
     refine hK.out _ _ ⟨v227,adz_v227,v231,adz_v231,m2_,(.pointer (some (adz_v231.add ((ji21)).toNat))),q116_,Q_HB,Q_HO228,Q_HA_HO228,Q_HO232,Q_HA_HO232,Q_X2_,fun _ => rfl⟩
    refine steps_cons ?_ ?_
    ·rintro b a w' ⟨v227,adz_v227,v231,adz_v231,m2_,m7_,ha,Q_HB,Q_HO228,Q_HA_HO228,Q_HO232,Q_HA_HO232,Q_X2_,Q_X7_⟩ hb_ hon hoff
     refine ⟨_,rfl,fun K hK => ?_⟩
     have e46:a.tmps[46]? = some (m7_):=by rw [ha];exact putSel_on (e:=(7,46,m7_)) 5 rfl rfl (hon 7 (by kernel_rfl)) rfl
     rw [Q_X7_ (hon 7 (by kernel_rfl))] at e46
     replace ha:=Aside0.mk ha
     have HB:=Aside0.mk Q_HB
     have HO228:=Aside0.mk (Q_HO228 (hon 0 (by kernel_rfl)))
     have HA_HO228:=Aside0.mk (Q_HA_HO228 (hon 0 (by kernel_rfl)))
     have HO232:=Aside0.mk (Q_HO232 (hon 5 (by kernel_rfl)))
     have HA_HO232:=Aside0.mk (Q_HA_HO232 (hon 5 (by kernel_rfl)))
     obtain ⟨c_,hv_⟩:=HA_HO232.out
     have hF_:=HO232.out
     rw [hv_] at hF_
     obtain ⟨ad_,ea_,hx_⟩:=Kd.at_string (Kd.R_reads' hF_).2.2 (ji21) (of_eq_true pi233) (of_eq_true qi233)
     cases ea_
     refine value_ (w1:=w') (v:=.string (rdOf ByteArray.empty t230 (ji21))) (by rfl) rfl ?_ ?_
     ·go_simp
      (try simp only [i64_w])
      try rfl
     refine hK.out _ _ ⟨v227,adz_v227,v231,adz_v231,m2_,m7_,q117_,Q_HB,Q_HO228,Q_HA_HO228,Q_HO232,Q_HA_HO232,Q_X2_,Q_X7_⟩
    refine steps_cons ?_ ?_
    ·rintro b a w' ⟨v227,adz_v227,v231,adz_v231,m2_,m7_,ha,Q_HB,Q_HO228,Q_HA_HO228,Q_HO232,Q_HA_HO232,Q_X2_,Q_X7_⟩ hb_ hon hoff
     refine ⟨_,rfl,fun K hK => ?_⟩
     have e43:a.tmps[43]? = some (.string ((rdOf ByteArray.empty t226 (ji16)) ++ (⟨#[32,97,44]⟩:ByteArray))):=by rw [ha];exact putSel_on (e:=(4,43,.string ((rdOf ByteArray.empty t226 (ji16)) ++ (⟨#[32,97,44]⟩:ByteArray)))) 3 rfl rfl (hon 4 (by kernel_rfl)) rfl
     have e47:a.tmps[47]? = some (.string (rdOf ByteArray.empty t230 (ji21))):=by rw [ha];exact putSel_on (e:=(8,47,.string (rdOf ByteArray.empty t230 (ji21)))) 6 rfl rfl (hon 8 (by kernel_rfl)) rfl
     replace ha:=Aside0.mk ha
     have HB:=Aside0.mk Q_HB
     have HO228:=Aside0.mk (Q_HO228 (hon 0 (by kernel_rfl)))
     have HA_HO228:=Aside0.mk (Q_HA_HO228 (hon 0 (by kernel_rfl)))
     have HO232:=Aside0.mk (Q_HO232 (hon 5 (by kernel_rfl)))
     have HA_HO232:=Aside0.mk (Q_HA_HO232 (hon 5 (by kernel_rfl)))
     refine value_ (w1:=w') (v:=.string (((rdOf ByteArray.empty t226 (ji16)) ++ (⟨#[32,97,44]⟩:ByteArray)) ++ (rdOf ByteArray.empty t230 (ji21)))) (by rfl) rfl ?_ ?_
     ·go_simp
      (try simp only [i64_w])
      try rfl
     refine hK.out _ _ ⟨v227,adz_v227,v231,adz_v231,m2_,m7_,q118_,Q_HB,Q_HO228,Q_HA_HO228,Q_HO232,Q_HA_HO232,Q_X2_,Q_X7_⟩
    refine steps_cons ?_ ?_
    ·rintro b a w' ⟨v227,adz_v227,v231,adz_v231,m2_,m7_,ha,Q_HB,Q_HO228,Q_HA_HO228,Q_HO232,Q_HA_HO232,Q_X2_,Q_X7_⟩ hb_ hon hoff
     refine ⟨_,rfl,fun K hK => ?_⟩
     have e48:a.tmps[48]? = some (.string (((rdOf ByteArray.empty t226 (ji16)) ++ (⟨#[32,97,44]⟩:ByteArray)) ++ (rdOf ByteArray.empty t230 (ji21)))):=by rw [ha];exact putSel_on (e:=(9,48,.string (((rdOf ByteArray.empty t226 (ji16)) ++ (⟨#[32,97,44]⟩:ByteArray)) ++ (rdOf ByteArray.empty t230 (ji21))))) 7 rfl rfl (hon 9 (by kernel_rfl)) rfl
     replace ha:=Aside0.mk ha
     have HB:=Aside0.mk Q_HB
     have HO228:=Aside0.mk (Q_HO228 (hon 0 (by kernel_rfl)))
     have HA_HO228:=Aside0.mk (Q_HA_HO228 (hon 0 (by kernel_rfl)))
     have HO232:=Aside0.mk (Q_HO232 (hon 5 (by kernel_rfl)))
     have HA_HO232:=Aside0.mk (Q_HA_HO232 (hon 5 (by kernel_rfl)))
     refine value_ (w1:=w') (v:=.string (((rdOf ByteArray.empty t226 (ji16)) ++ (⟨#[32,97,44]⟩:ByteArray)) ++ (rdOf ByteArray.empty t230 (ji21)))) (by rfl) rfl ?_ ?_
     ·go_simp
      (try simp only [i64_w])
      try rfl
     refine hK.out _ _ ⟨v227,adz_v227,v231,adz_v231,m2_,m7_,q119_,Q_HB,Q_HO228,Q_HA_HO228,Q_HO232,Q_HA_HO232,Q_X2_,Q_X7_⟩
    exact steps_nil
   rintro b a w31 hall ⟨v227,adz_v227,v231,adz_v231,m2_,m7_,ha,Q_HB,Q_HO228,Q_HA_HO228,Q_HO232,Q_HA_HO232,Q_X2_,Q_X7_⟩
   clear HB
   have hb0_:=hall 0 (by kernel_rfl)
   have hb2_:=hall 2 (by kernel_rfl)
   have hb3_:=hall 3 (by kernel_rfl)
   have hb4_:=hall 4 (by kernel_rfl)
   have hb5_:=hall 5 (by kernel_rfl)
   have hb7_:=hall 7 (by kernel_rfl)
   have hb8_:=hall 8 (by kernel_rfl)
   have hb9_:=hall 9 (by kernel_rfl)
   have hb10_:=hall 10 (by kernel_rfl)
   subst ha
   obtain rfl:=Q_X2_ hb2_
   obtain rfl:=Q_X7_ hb7_
   simp only [putSel,hb0_,hb2_,hb3_,hb4_,hb5_,hb7_,hb8_,hb9_,hb10_,if_true,Act.put,List.setIfInBounds_toArray,List.set_cons_zero,List.set_cons_succ]
   have HB:=Aside0.mk Q_HB
   clear Q_HB
   have HO228:=Aside0.mk (Q_HO228 hb0_)
   clear Q_HO228
   have HA_HO228:=Aside0.mk (Q_HA_HO228 hb0_)
   clear Q_HA_HO228
   have HO232:=Aside0.mk (Q_HO232 hb5_)
   clear Q_HO232
   have HA_HO232:=Aside0.mk (Q_HA_HO232 hb5_)
   clear Q_HA_HO232
   clear hall hb0_ hb2_ hb3_ hb4_ hb5_ hb7_ hb8_ hb9_ hb10_
   obtain ⟨co32,eo32⟩:=HA_HO228.out
   clear HA_HO228
   subst eo32
   obtain ⟨co33,eo33⟩:=HA_HO232.out
   clear HA_HO232
   subst eo33
   try go_wp2
   go_ret
   exact ⟨by first | rfl | (simp [errW_none,errW_some] <;> rfl) | (simp only [← hji16,← hji21];first | rfl | (simp [errW_none,errW_some] <;> rfl)) | (simp [*,errW_none,errW_some] <;> rfl) | (exfalso;simp_all;done),q72_⟩
  rw [if_neg c14] at H
  have c14b0:((wrap64 (Int.tdiv a0 64)) == 2) = false:=beq_eq_false_iff_ne.mpr c14
  have c14b1:((wrap64 (Int.tdiv a0 64)) != 2) = true:=bne_iff_ne.mpr c14
  by_cases c34:a0 = 118
  ·rw [if_pos c34] at H
   have c34b0:(a0 == 118) = true:=beq_iff_eq.mpr c34
   have c34b1:(a0 != 118) = false:=bne_eq_false_iff_eq.mpr c34
   clear c34
   obtain rfl:=Option.some.inj H
   go_enter Tryz.func46,Tryz.ntmps46
   go_wp2_with (first | ((with_reducible refine gate_callee (f:=58) rfl ?_);refine goesL_ (some 9) rfl rfl Tryz.func58 (by kernel_rfl) rfl #[.int .i64 a0] rfl q71_ ?_;(with_reducible refine (impl_isByte.calls a0 true _ A3.out).mono ?_);rintro e w' ⟨rfl,⟨nd,rfl⟩⟩;refine ⟨_,rfl,?_⟩))
   go_ret
   exact ⟨q74_,q72_⟩
  rw [if_neg c34] at H
  have c34b0:(a0 == 118) = false:=beq_eq_false_iff_ne.mpr c34
  have c34b1:(a0 != 118) = true:=bne_iff_ne.mpr c34
  replace H:=Option.bind_eq_some_iff.mp H
  obtain ⟨t234,A350,H⟩:=H
  have A35:=Aside0.mk A350
  clear A350
  obtain ⟨ji36,hji36⟩:∃ j_:Int,(Int.tmod (wrap64 (Int.tdiv a0 8)) 8) = j_:=⟨_,rfl⟩
  (first | rewrite [hji36] at H | simp only [hji36] at H)
  (try rw [hji36] at A3)
  (try rw [hji36] at A35)
  by_cases c37:0 ≤ (ji36)
  rotate_left
  ·rw [if_neg c37] at H
   exact absurd H (by simp)
  rw [if_pos c37] at H
  have c37b0:=decide_eq_true c37
  clear c37
  by_cases c38:(ji36) < (t234.length:Int)
  rotate_left
  ·rw [if_neg c38] at H
   exact absurd H (by simp)
  rw [if_pos c38] at H
  have c38b0:=decide_eq_true c38
  clear c38
  by_cases c39:3 + (rdOf ByteArray.empty t234 (ji36)).size ≤ 9223372036854775807
  rotate_left
  ·rw [if_neg c39] at H
   exact absurd H (by simp)
  rw [if_pos c39] at H
  have c39b0:=eq_true c39
  have c39b1:=decide_eq_true c39
  try have c39b2:(9223372036854775807 < 3 + (rdOf ByteArray.empty t234 (ji36)).size) = False:=eq_false (Nat.not_lt.2 c39)
  by_cases c40:((⟨#[108,100,32]⟩:ByteArray) ++ (rdOf ByteArray.empty t234 (ji36))).size + 1 ≤ 9223372036854775807
  rotate_left
  ·rw [if_neg c40] at H
   exact absurd H (by simp)
  rw [if_pos c40] at H
  have c40b0:=eq_true c40
  (try (have c40b0e:=c40b0;simp only [ByteArray.size_append,ByteArray.size_extract,Nat.min_self,Nat.sub_zero,show (⟨#[108,100,32]⟩:ByteArray).size = 3 from rfl] at c40b0e))
  have c40b1:=decide_eq_true c40
  (try (have c40b1e:=c40b1;simp only [ByteArray.size_append,ByteArray.size_extract,Nat.min_self,Nat.sub_zero,show (⟨#[108,100,32]⟩:ByteArray).size = 3 from rfl] at c40b1e))
  try have c40b2:(9223372036854775807 < ((⟨#[108,100,32]⟩:ByteArray) ++ (rdOf ByteArray.empty t234 (ji36))).size + 1) = False:=eq_false (Nat.not_lt.2 c40)
  (try (have c40b2e:=c40b2;simp only [ByteArray.size_append,ByteArray.size_extract,Nat.min_self,Nat.sub_zero,show (⟨#[108,100,32]⟩:ByteArray).size = 3 from rfl] at c40b2e))
  replace H:=Option.bind_eq_some_iff.mp H
  obtain ⟨t238,A410,H⟩:=H
  have A41:=Aside0.mk A410
  clear A410
  obtain ⟨ji42,hji42⟩:∃ j_:Int,(Int.tmod a0 8) = j_:=⟨_,rfl⟩
  (first | rewrite [hji42] at H | simp only [hji42] at H)
  (try rw [hji42] at A3)
  (try rw [hji42] at A35)
  (try rw [hji42] at A41)
  by_cases c43:0 ≤ (ji42)
  rotate_left
  ·rw [if_neg c43] at H
   exact absurd H (by simp)
  rw [if_pos c43] at H
  have c43b0:=decide_eq_true c43
  clear c43
  by_cases c44:(ji42) < (t238.length:Int)
  rotate_left
  ·rw [if_neg c44] at H
   exact absurd H (by simp)
  rw [if_pos c44] at H
  have c44b0:=decide_eq_true c44
  clear c44
  by_cases c45:(((⟨#[108,100,32]⟩:ByteArray) ++ (rdOf ByteArray.empty t234 (ji36))) ++ (⟨#[44]⟩:ByteArray)).size + (rdOf ByteArray.empty t238 (ji42)).size ≤ 9223372036854775807
  rotate_left
  ·rw [if_neg c45] at H
   exact absurd H (by simp)
  rw [if_pos c45] at H
  have c45b0:=eq_true c45
  (try (have c45b0e:=c45b0;simp only [ByteArray.size_append,ByteArray.size_extract,Nat.min_self,Nat.sub_zero,show (⟨#[108,100,32]⟩:ByteArray).size = 3 from rfl,show (⟨#[44]⟩:ByteArray).size = 1 from rfl] at c45b0e))
  have c45b1:=decide_eq_true c45
  (try (have c45b1e:=c45b1;simp only [ByteArray.size_append,ByteArray.size_extract,Nat.min_self,Nat.sub_zero,show (⟨#[108,100,32]⟩:ByteArray).size = 3 from rfl,show (⟨#[44]⟩:ByteArray).size = 1 from rfl] at c45b1e))
  try have c45b2:(9223372036854775807 < (((⟨#[108,100,32]⟩:ByteArray) ++ (rdOf ByteArray.empty t234 (ji36))) ++ (⟨#[44]⟩:ByteArray)).size + (rdOf ByteArray.empty t238 (ji42)).size) = False:=eq_false (Nat.not_lt.2 c45)
  (try (have c45b2e:=c45b2;simp only [ByteArray.size_append,ByteArray.size_extract,Nat.min_self,Nat.sub_zero,show (⟨#[108,100,32]⟩:ByteArray).size = 3 from rfl,show (⟨#[44]⟩:ByteArray).size = 1 from rfl] at c45b2e))
  obtain rfl:=Option.some.inj H
  go_enter Tryz.func46,Tryz.ntmps46
  try go_wp2_with (first | ((with_reducible refine gate_callee (f:=58) rfl ?_);refine goesL_ (some 9) rfl rfl Tryz.func58 (by kernel_rfl) rfl #[.int .i64 a0] rfl q71_ ?_;(with_reducible refine (impl_isByte.calls a0 true _ A3.out).mono ?_);rintro e w' ⟨rfl,⟨nd,rfl⟩⟩;refine ⟨_,rfl,?_⟩))
  have pi237:(0 ≤ ((ji36):Int)) = True:=eq_true (of_decide_eq_true q109_)
  have qi237:((ji36) < (t234.length:Int)) = True:=eq_true (of_decide_eq_true q109_)
  have pi241:(0 ≤ ((ji42):Int)) = True:=eq_true (of_decide_eq_true q109_)
  have qi241:((ji42) < (t238.length:Int)) = True:=eq_true (of_decide_eq_true q109_)
  generalize hq_:World.drewN w _ = w46
  have n0_:Aside0 (Below w.heap.size w w46):=⟨by rw [← hq_];exact pw_below_drewN HB.out _⟩
  clear HB hq_
  have HB:=n0_
  clear n0_
  have n0_:=Aside0.mk (below_drew1 HB.out)
  clear HB
  have HB:=n0_
  clear n0_
  refine start_ (n:=12) (S:=fun w' => True) (ds:=[]) #[false,false,false,false,false,false,false,false,false,false,false,false] (by kernel_rfl) rfl rfl trivial (fun hHeld => ?_);refine with_tabW impl_TemplateOf.tab14 impl_TemplateOf.bits14 (fun HT_ HW_ => ?_)
  generalize w46.drew = w47 at HB hHeld ⊢
  refine pure_ (i:=1) (N:=some 53) (v:=?_) (a':=?_) #[false,true,false,false,false,false,false,false,false,false,false,false] rfl rfl (any_of HT_.out (by kernel_rfl)) (fun _ _ _ h => h) (Or.inl ⟨by rfl,?_⟩) ?_ ?_
  rotate_left
  ·intro w'
   go_simp
   with_reducible rfl
  rotate_left
  ·simp only [Act.put,List.setIfInBounds_toArray,List.set_cons_zero,List.set_cons_succ,i64_w,i32_w]
   rfl
  refine pure_ (i:=7) (N:=some 59) (v:=?_) (a':=?_) #[false,true,false,false,false,false,false,true,false,false,false,false] rfl rfl (any_of HT_.out (by kernel_rfl)) (fun _ _ _ h => h) (Or.inl ⟨by rfl,?_⟩) ?_ ?_
  rotate_left
  ·intro w'
   go_simp
   with_reducible rfl
  rotate_left
  ·simp only [Act.put,List.setIfInBounds_toArray,List.set_cons_zero,List.set_cons_succ,i64_w,i32_w]
   rfl
  refine inv_at [0,2,3,4,5,6,8,9,10,11] (fun a0_ b a w' => ∃ (v235:Value) (adz_v235:Addr) (v239:Value) (adz_v239:Addr) (m2_:Value) (m8_:Value),a = putSel a0_ b [(0,52,v235),(2,54,m2_),(3,55,.string (rdOf ByteArray.empty t234 (ji36))),(4,56,.string ((⟨#[108,100,32]⟩:ByteArray) ++ (rdOf ByteArray.empty t234 (ji36)))),(5,57,.string (((⟨#[108,100,32]⟩:ByteArray) ++ (rdOf ByteArray.empty t234 (ji36))) ++ (⟨#[44]⟩:ByteArray))),(6,58,v239),(8,60,m8_),(9,61,.string (rdOf ByteArray.empty t238 (ji42))),(10,62,.string ((((⟨#[108,100,32]⟩:ByteArray) ++ (rdOf ByteArray.empty t234 (ji36))) ++ (⟨#[44]⟩:ByteArray)) ++ (rdOf ByteArray.empty t238 (ji42)))),(11,4,.string ((((⟨#[108,100,32]⟩:ByteArray) ++ (rdOf ByteArray.empty t234 (ji36))) ++ (⟨#[44]⟩:ByteArray)) ++ (rdOf ByteArray.empty t238 (ji42))))] ∧ (Below w.heap.size w w') ∧ (b 0 = true → Kd.R Kd.string 9 w' w.heap.size (fun _ => True) v235 t234) ∧ (b 0 = true → ∃ c_,(v235:Value) = .slice (some adz_v235) t234.length c_) ∧ (b 6 = true → Kd.R Kd.string 9 w' w.heap.size (fun _ => True) v239 t238) ∧ (b 6 = true → ∃ c_,(v239:Value) = .slice (some adz_v239) t238.length c_) ∧ (b 2 = true → (m2_:Value) = .pointer (some (adz_v235.add ((ji36)).toNat))) ∧ (b 8 = true → (m8_:Value) = .pointer (some (adz_v239.add ((ji42)).toNat)))) HT_.out HW_.out (by kernel_rfl) (by kernel_rfl) ?_ ?_ ?_
  ·exact ⟨.bool false,⟨0,0,none⟩,.bool false,⟨0,0,none⟩,.bool false,.bool false,q110_,HB.out,fun h_ => absurd h_ (by decide),fun h_ => absurd h_ (by decide),fun h_ => absurd h_ (by decide),fun h_ => absurd h_ (by decide),fun h_ => absurd h_ (by decide),fun h_ => absurd h_ (by decide)⟩
  ·skip
   clear HB
   refine steps_cons ?_ ?_
   ·rintro b a w' ⟨v235,adz_v235,v239,adz_v239,m2_,m8_,ha,Q_HB,Q_HO236,Q_HA_HO236,Q_HO240,Q_HA_HO240,Q_X2_,Q_X8_⟩ hb_ hon hoff
    refine ⟨_,rfl,fun K hK => ?_⟩
    replace ha:=Aside0.mk ha
    have HB:=Aside0.mk Q_HB
    refine goes_ Tryz.func96 (by kernel_rfl) rfl #[] (by rfl) rfl rfl (by first | (simp only [List.map_toArray,List.map_cons,List.map_nil,Act.eval,Array.getD_eq_getD_getElem?,Option.getD_some];done) | (simp only [List.map_toArray,List.map_cons,List.map_nil,Act.eval,Array.getD_eq_getD_getElem?,Option.getD_some];rfl)) ?_
    with_reducible refine (impl_regs.calls  t234 _ A35.out).mono ?_
    rintro e w48 ⟨v235,rfl,ho0,hb⟩
    refine ⟨_,rfl,?_⟩
    have n0_:=Aside0.mk (Kd.R_lower ho0 (below_size q72_))
    have n1_:=Aside0.mk (below_step q72_ hb)
    clear HB
    have HO236:=n0_
    have HB:=n1_
    clear n0_ n1_
    (try clear hb)
    (try clear hb2)
    (try clear hk)
    (try clear hi)
    (try clear ho0)
    obtain ⟨Ao49,co49,eo49⟩:=Kd.R_slice HO236.out
    subst eo49
    obtain ⟨ado49,fo49,_⟩:=Kd.at_string (Kd.R_reads' HO236.out).2.2 0 (by decide) (by have h1_:=of_eq_true pi237;have h2_:=of_eq_true qi237;omega)
    cases fo49
    refine hK.out _ _ ⟨.slice (some ado49) t234.length co49,ado49,v239,adz_v239,m2_,m8_,q111_,q72_,fun _ => q99_,fun _ => ⟨_,rfl⟩,fun h0_ => absurd ((hoff 6 (by kernel_rfl)).symm.trans h0_) (by decide),fun h0_ => absurd ((hoff 6 (by kernel_rfl)).symm.trans h0_) (by decide),fun h0_ => absurd ((hoff 2 (by kernel_rfl)).symm.trans h0_) (by decide),fun h0_ => absurd ((hoff 8 (by kernel_rfl)).symm.trans h0_) (by decide)⟩
   refine steps_cons ?_ ?_
   ·rintro b a w' ⟨v235,adz_v235,v239,adz_v239,m2_,m8_,ha,Q_HB,Q_HO236,Q_HA_HO236,Q_HO240,Q_HA_HO240,Q_X2_,Q_X8_⟩ hb_ hon hoff
    refine ⟨_,rfl,fun K hK => ?_⟩
    have e52:a.tmps[52]? = some (v235):=by rw [ha];exact putSel_on (e:=(0,52,v235)) 0 rfl rfl (hon 0 (by kernel_rfl)) rfl
    have e53:a.tmps[53]? = some (.int .i64 ji36):=by rw [ha];exact (putSel_off rfl).trans rfl
    replace ha:=Aside0.mk ha
    have HB:=Aside0.mk Q_HB
    have HO236:=Aside0.mk (Q_HO236 (hon 0 (by kernel_rfl)))
    have HA_HO236:=Aside0.mk (Q_HA_HO236 (hon 0 (by kernel_rfl)))
    obtain ⟨c_,hv_⟩:=HA_HO236.out
    rw [hv_] at e52
    refine value_ (w1:=w') (v:=.pointer (some (adz_v235.add ((ji36)).toNat))) (by rfl) rfl ?_ ?_
    ·go_simp
     (try simp only [i64_w])
     try rfl
    refine hK.out _ _ ⟨v235,adz_v235,v239,adz_v239,(.pointer (some (adz_v235.add ((ji36)).toNat))),m8_,q112_,Q_HB,Q_HO236,Q_HA_HO236,Q_HO240,Q_HA_HO240,fun _ => rfl,Q_X8_⟩
   refine steps_cons ?_ ?_
   ·rintro b a w' ⟨v235,adz_v235,v239,adz_v239,m2_,m8_,ha,Q_HB,Q_HO236,Q_HA_HO236,Q_HO240,Q_HA_HO240,Q_X2_,Q_X8_⟩ hb_ hon hoff
    refine ⟨_,rfl,fun K hK => ?_⟩
    have e54:a.tmps[54]? = some (m2_):=by rw [ha];exact putSel_on (e:=(2,54,m2_)) 1 rfl rfl (hon 2 (by kernel_rfl)) rfl
    rw [Q_X2_ (hon 2 (by kernel_rfl))] at e54
    replace ha:=Aside0.mk ha
    have HB:=Aside0.mk Q_HB
    have HO236:=Aside0.mk (Q_HO236 (hon 0 (by kernel_rfl)))
    have HA_HO236:=Aside0.mk (Q_HA_HO236 (hon 0 (by kernel_rfl)))
    obtain ⟨c_,hv_⟩:=HA_HO236.out
    have hF_:=HO236.out
    rw [hv_] at hF_
    obtain ⟨ad_,ea_,hx_⟩:=Kd.at_string (Kd.R_reads' hF_).2.2 (ji36) (of_eq_true pi237) (of_eq_true qi237)
    cases ea_
    refine value_ (w1:=w') (v:=.string (rdOf ByteArray.empty t234 (ji36))) (by rfl) rfl ?_ ?_
    ·go_simp
     (try simp only [i64_w])
     try rfl
    refine hK.out _ _ ⟨v235,adz_v235,v239,adz_v239,m2_,m8_,q113_,Q_HB,Q_HO236,Q_HA_HO236,Q_HO240,Q_HA_HO240,Q_X2_,Q_X8_⟩
   refine steps_cons ?_ ?_
   ·rintro b a w' ⟨v235,adz_v235,v239,adz_v239,m2_,m8_,ha,Q_HB,Q_HO236,Q_HA_HO236,Q_HO240,Q_HA_HO240,Q_X2_,Q_X8_⟩ hb_ hon hoff
    refine ⟨_,rfl,fun K hK => ?_⟩
    have e55:a.tmps[55]? = some (.string (rdOf ByteArray.empty t234 (ji36))):=by rw [ha];exact putSel_on (e:=(3,55,.string (rdOf ByteArray.empty t234 (ji36)))) 2 rfl rfl (hon 3 (by kernel_rfl)) rfl
    replace ha:=Aside0.mk ha
    have HB:=Aside0.mk Q_HB
    have HO236:=Aside0.mk (Q_HO236 (hon 0 (by kernel_rfl)))
    have HA_HO236:=Aside0.mk (Q_HA_HO236 (hon 0 (by kernel_rfl)))
    refine value_ (w1:=w') (v:=.string ((⟨#[108,100,32]⟩:ByteArray) ++ (rdOf ByteArray.empty t234 (ji36)))) (by rfl) rfl ?_ ?_
    ·go_simp
     (try simp only [i64_w])
     try rfl
    refine hK.out _ _ ⟨v235,adz_v235,v239,adz_v239,m2_,m8_,q114_,Q_HB,Q_HO236,Q_HA_HO236,Q_HO240,Q_HA_HO240,Q_X2_,Q_X8_⟩
   refine steps_cons ?_ ?_
   ·rintro b a w' ⟨v235,adz_v235,v239,adz_v239,m2_,m8_,ha,Q_HB,Q_HO236,Q_HA_HO236,Q_HO240,Q_HA_HO240,Q_X2_,Q_X8_⟩ hb_ hon hoff
    refine ⟨_,rfl,fun K hK => ?_⟩
    have e56:a.tmps[56]? = some (.string ((⟨#[108,100,32]⟩:ByteArray) ++ (rdOf ByteArray.empty t234 (ji36)))):=by rw [ha];exact putSel_on (e:=(4,56,.string ((⟨#[108,100,32]⟩:ByteArray) ++ (rdOf ByteArray.empty t234 (ji36))))) 3 rfl rfl (hon 4 (by kernel_rfl)) rfl
    replace ha:=Aside0.mk ha
    have HB:=Aside0.mk Q_HB
    have HO236:=Aside0.mk (Q_HO236 (hon 0 (by kernel_rfl)))
    have HA_HO236:=Aside0.mk (Q_HA_HO236 (hon 0 (by kernel_rfl)))
    refine value_ (w1:=w') (v:=.string (((⟨#[108,100,32]⟩:ByteArray) ++ (rdOf ByteArray.empty t234 (ji36))) ++ (⟨#[44]⟩:ByteArray))) (by rfl) rfl ?_ ?_
    ·go_simp
     (try simp only [i64_w])
     try rfl
    refine hK.out _ _ ⟨v235,adz_v235,v239,adz_v239,m2_,m8_,q115_,Q_HB,Q_HO236,Q_HA_HO236,Q_HO240,Q_HA_HO240,Q_X2_,Q_X8_⟩
   refine steps_cons ?_ ?_
   ·rintro b a w' ⟨v235,adz_v235,v239,adz_v239,m2_,m8_,ha,Q_HB,Q_HO236,Q_HA_HO236,Q_HO240,Q_HA_HO240,Q_X2_,Q_X8_⟩ hb_ hon hoff
    refine ⟨_,rfl,fun K hK => ?_⟩
    replace ha:=Aside0.mk ha
    have HB:=Aside0.mk Q_HB
    have HO236:=Aside0.mk (Q_HO236 (hon 0 (by kernel_rfl)))
    have HA_HO236:=Aside0.mk (Q_HA_HO236 (hon 0 (by kernel_rfl)))
    obtain ⟨co51,eo51⟩:=HA_HO236.out
    clear HA_HO236
    subst eo51
    refine goes_ Tryz.func96 (by kernel_rfl) rfl #[] (by rfl) rfl rfl (by first | (simp only [List.map_toArray,List.map_cons,List.map_nil,Act.eval,Array.getD_eq_getD_getElem?,Option.getD_some];done) | (simp only [List.map_toArray,List.map_cons,List.map_nil,Act.eval,Array.getD_eq_getD_getElem?,Option.getD_some];rfl)) ?_
    with_reducible refine (impl_regs.calls  t238 _ A41.out).mono ?_
    rintro e w52 ⟨v239,rfl,ho0,hb⟩
    refine ⟨_,rfl,?_⟩
    have n0_:=Aside0.mk (Kd.R_elder' q99_ (Kd.R_base ho0) hb)
    have n1_:=Aside0.mk (Kd.R_lower (Kd.R_new' ho0 (Kd.R_lt q99_)) (below_size q72_))
    have n2_:=Aside0.mk (below_step q72_ hb)
    clear HO236
    clear HB
    have HO236:=n0_
    have HO240:=n1_
    have HB:=n2_
    clear n0_ n1_ n2_
    (try clear hb)
    (try clear hb2)
    (try clear hk)
    (try clear hi)
    (try clear ho0)
    obtain ⟨Ao53,co53,eo53⟩:=Kd.R_slice HO240.out
    subst eo53
    obtain ⟨ado53,fo53,_⟩:=Kd.at_string (Kd.R_reads' HO240.out).2.2 0 (by decide) (by have h1_:=of_eq_true pi241;have h2_:=of_eq_true qi241;omega)
    cases fo53
    refine hK.out _ _ ⟨.slice (some adz_v235) t234.length co51,adz_v235,.slice (some ado53) t238.length co53,ado53,m2_,m8_,q116_,q72_,fun _ => (by (with_reducible repeat (first | apply Kd.R_alloc | apply Kd.R_drewN | apply Kd.R_drew));exact Kd.R_mono HO236.out (fun _ hk => by first | exact hk.2 | trivial)),fun _ => ⟨_,rfl⟩,fun _ => (by (with_reducible repeat (first | apply Kd.R_alloc | apply Kd.R_drewN | apply Kd.R_drew));exact Kd.R_mono HO240.out (fun _ hk => by first | exact hk.2 | trivial)),fun _ => ⟨_,rfl⟩,Q_X2_,fun h0_ => absurd ((hoff 8 (by kernel_rfl)).symm.trans h0_) (by decide)⟩
   refine steps_cons ?_ ?_
   ·rintro b a w' ⟨v235,adz_v235,v239,adz_v239,m2_,m8_,ha,Q_HB,Q_HO236,Q_HA_HO236,Q_HO240,Q_HA_HO240,Q_X2_,Q_X8_⟩ hb_ hon hoff
    refine ⟨_,rfl,fun K hK => ?_⟩
    have e58:a.tmps[58]? = some (v239):=by rw [ha];exact putSel_on (e:=(6,58,v239)) 5 rfl rfl (hon 6 (by kernel_rfl)) rfl
    have e59:a.tmps[59]? = some (.int .i64 ji42):=by rw [ha];exact (putSel_off rfl).trans rfl
    replace ha:=Aside0.mk ha
    have HB:=Aside0.mk Q_HB
    have HO236:=Aside0.mk (Q_HO236 (hon 0 (by kernel_rfl)))
    have HA_HO236:=Aside0.mk (Q_HA_HO236 (hon 0 (by kernel_rfl)))
    have HO240:=Aside0.mk (Q_HO240 (hon 6 (by kernel_rfl)))
    have HA_HO240:=Aside0.mk (Q_HA_HO240 (hon 6 (by kernel_rfl)))
    obtain ⟨c_,hv_⟩:=HA_HO240.out
    rw [hv_] at e58
    refine value_ (w1:=w') (v:=.pointer (some (adz_v239.add ((ji42)).toNat))) (by rfl) rfl ?_ ?_
    ·go_simp
     (try simp only [i64_w])
     try rfl
    refine hK.out _ _ ⟨v235,adz_v235,v239,adz_v239,m2_,(.pointer (some (adz_v239.add ((ji42)).toNat))),q117_,Q_HB,Q_HO236,Q_HA_HO236,Q_HO240,Q_HA_HO240,Q_X2_,fun _ => rfl⟩
   refine steps_cons ?_ ?_
   ·rintro b a w' ⟨v235,adz_v235,v239,adz_v239,m2_,m8_,ha,Q_HB,Q_HO236,Q_HA_HO236,Q_HO240,Q_HA_HO240,Q_X2_,Q_X8_⟩ hb_ hon hoff
    refine ⟨_,rfl,fun K hK => ?_⟩
    have e60:a.tmps[60]? = some (m8_):=by rw [ha];exact putSel_on (e:=(8,60,m8_)) 6 rfl rfl (hon 8 (by kernel_rfl)) rfl
    rw [Q_X8_ (hon 8 (by kernel_rfl))] at e60
    replace ha:=Aside0.mk ha
    have HB:=Aside0.mk Q_HB
    have HO236:=Aside0.mk (Q_HO236 (hon 0 (by kernel_rfl)))
    have HA_HO236:=Aside0.mk (Q_HA_HO236 (hon 0 (by kernel_rfl)))
    have HO240:=Aside0.mk (Q_HO240 (hon 6 (by kernel_rfl)))
    have HA_HO240:=Aside0.mk (Q_HA_HO240 (hon 6 (by kernel_rfl)))
    obtain ⟨c_,hv_⟩:=HA_HO240.out
    have hF_:=HO240.out
    rw [hv_] at hF_
    obtain ⟨ad_,ea_,hx_⟩:=Kd.at_string (Kd.R_reads' hF_).2.2 (ji42) (of_eq_true pi241) (of_eq_true qi241)
    cases ea_
    refine value_ (w1:=w') (v:=.string (rdOf ByteArray.empty t238 (ji42))) (by rfl) rfl ?_ ?_
    ·go_simp
     (try simp only [i64_w])
     try rfl
    refine hK.out _ _ ⟨v235,adz_v235,v239,adz_v239,m2_,m8_,q118_,Q_HB,Q_HO236,Q_HA_HO236,Q_HO240,Q_HA_HO240,Q_X2_,Q_X8_⟩
   refine steps_cons ?_ ?_
   ·rintro b a w' ⟨v235,adz_v235,v239,adz_v239,m2_,m8_,ha,Q_HB,Q_HO236,Q_HA_HO236,Q_HO240,Q_HA_HO240,Q_X2_,Q_X8_⟩ hb_ hon hoff
    refine ⟨_,rfl,fun K hK => ?_⟩
    have e57:a.tmps[57]? = some (.string (((⟨#[108,100,32]⟩:ByteArray) ++ (rdOf ByteArray.empty t234 (ji36))) ++ (⟨#[44]⟩:ByteArray))):=by rw [ha];exact putSel_on (e:=(5,57,.string (((⟨#[108,100,32]⟩:ByteArray) ++ (rdOf ByteArray.empty t234 (ji36))) ++ (⟨#[44]⟩:ByteArray)))) 4 rfl rfl (hon 5 (by kernel_rfl)) rfl
    have e61:a.tmps[61]? = some (.string (rdOf ByteArray.empty t238 (ji42))):=by rw [ha];exact putSel_on (e:=(9,61,.string (rdOf ByteArray.empty t238 (ji42)))) 7 rfl rfl (hon 9 (by kernel_rfl)) rfl
    replace ha:=Aside0.mk ha
    have HB:=Aside0.mk Q_HB
    have HO236:=Aside0.mk (Q_HO236 (hon 0 (by kernel_rfl)))
    have HA_HO236:=Aside0.mk (Q_HA_HO236 (hon 0 (by kernel_rfl)))
    have HO240:=Aside0.mk (Q_HO240 (hon 6 (by kernel_rfl)))
    have HA_HO240:=Aside0.mk (Q_HA_HO240 (hon 6 (by kernel_rfl)))
    refine value_ (w1:=w') (v:=.string ((((⟨#[108,100,32]⟩:ByteArray) ++ (rdOf ByteArray.empty t234 (ji36))) ++ (⟨#[44]⟩:ByteArray)) ++ (rdOf ByteArray.empty t238 (ji42)))) (by rfl) rfl ?_ ?_
    ·go_simp
     (try simp only [i64_w])
     try rfl
    refine hK.out _ _ ⟨v235,adz_v235,v239,adz_v239,m2_,m8_,q119_,Q_HB,Q_HO236,Q_HA_HO236,Q_HO240,Q_HA_HO240,Q_X2_,Q_X8_⟩
   refine steps_cons ?_ ?_
   ·rintro b a w' ⟨v235,adz_v235,v239,adz_v239,m2_,m8_,ha,Q_HB,Q_HO236,Q_HA_HO236,Q_HO240,Q_HA_HO240,Q_X2_,Q_X8_⟩ hb_ hon hoff
    refine ⟨_,rfl,fun K hK => ?_⟩
    have e62:a.tmps[62]? = some (.string ((((⟨#[108,100,32]⟩:ByteArray) ++ (rdOf ByteArray.empty t234 (ji36))) ++ (⟨#[44]⟩:ByteArray)) ++ (rdOf ByteArray.empty t238 (ji42)))):=by rw [ha];exact putSel_on (e:=(10,62,.string ((((⟨#[108,100,32]⟩:ByteArray) ++ (rdOf ByteArray.empty t234 (ji36))) ++ (⟨#[44]⟩:ByteArray)) ++ (rdOf ByteArray.empty t238 (ji42))))) 8 rfl rfl (hon 10 (by kernel_rfl)) rfl
    replace ha:=Aside0.mk ha
    have HB:=Aside0.mk Q_HB
    have HO236:=Aside0.mk (Q_HO236 (hon 0 (by kernel_rfl)))
    have HA_HO236:=Aside0.mk (Q_HA_HO236 (hon 0 (by kernel_rfl)))
    have HO240:=Aside0.mk (Q_HO240 (hon 6 (by kernel_rfl)))
    have HA_HO240:=Aside0.mk (Q_HA_HO240 (hon 6 (by kernel_rfl)))
    refine value_ (w1:=w') (v:=.string ((((⟨#[108,100,32]⟩:ByteArray) ++ (rdOf ByteArray.empty t234 (ji36))) ++ (⟨#[44]⟩:ByteArray)) ++ (rdOf ByteArray.empty t238 (ji42)))) (by rfl) rfl ?_ ?_
    ·go_simp
     (try simp only [i64_w])
     try rfl
    refine hK.out _ _ ⟨v235,adz_v235,v239,adz_v239,m2_,m8_,q120_,Q_HB,Q_HO236,Q_HA_HO236,Q_HO240,Q_HA_HO240,Q_X2_,Q_X8_⟩
   exact steps_nil
  rintro b a w52 hall ⟨v235,adz_v235,v239,adz_v239,m2_,m8_,ha,Q_HB,Q_HO236,Q_HA_HO236,Q_HO240,Q_HA_HO240,Q_X2_,Q_X8_⟩
  clear HB
  have hb0_:=hall 0 (by kernel_rfl)
  have hb2_:=hall 2 (by kernel_rfl)
  have hb3_:=hall 3 (by kernel_rfl)
  have hb4_:=hall 4 (by kernel_rfl)
  have hb5_:=hall 5 (by kernel_rfl)
  have hb6_:=hall 6 (by kernel_rfl)
  have hb8_:=hall 8 (by kernel_rfl)
  have hb9_:=hall 9 (by kernel_rfl)
  have hb10_:=hall 10 (by kernel_rfl)
  have hb11_:=hall 11 (by kernel_rfl)
  subst ha
  obtain rfl:=Q_X2_ hb2_
  obtain rfl:=Q_X8_ hb8_
  simp only [putSel,hb0_,hb2_,hb3_,hb4_,hb5_,hb6_,hb8_,hb9_,hb10_,hb11_,if_true,Act.put,List.setIfInBounds_toArray,List.set_cons_zero,List.set_cons_succ]
  have HB:=Aside0.mk Q_HB
  clear Q_HB
  have HO236:=Aside0.mk (Q_HO236 hb0_)
  clear Q_HO236
  have HA_HO236:=Aside0.mk (Q_HA_HO236 hb0_)
  clear Q_HA_HO236
  have HO240:=Aside0.mk (Q_HO240 hb6_)
  clear Q_HO240
  have HA_HO240:=Aside0.mk (Q_HA_HO240 hb6_)
  clear Q_HA_HO240
  clear hall hb0_ hb2_ hb3_ hb4_ hb5_ hb6_ hb8_ hb9_ hb10_ hb11_
  obtain ⟨co53,eo53⟩:=HA_HO236.out
  clear HA_HO236
  subst eo53
  obtain ⟨co54,eo54⟩:=HA_HO240.out
  clear HA_HO240
  subst eo54
  try go_wp2
  go_ret
  exact ⟨by first | rfl | (simp [errW_none,errW_some] <;> rfl) | (simp only [← hji36,← hji42];first | rfl | (simp [errW_none,errW_some] <;> rfl)) | (simp [*,errW_none,errW_some] <;> rfl) | (exfalso;simp_all;done),q72_⟩
 replace c4:=Bool.eq_false_iff.mpr c4
 subst c4
 rewrite [if_neg (show ¬ (false = true) by decide)] at H
 obtain rfl:=Option.some.inj H
 go_enter Tryz.func46,Tryz.ntmps46
 go_wp2_with (first | ((with_reducible refine gate_callee (f:=58) rfl ?_);refine goesL_ (some 9) rfl rfl Tryz.func58 (by kernel_rfl) rfl #[.int .i64 a0] rfl q71_ ?_;(with_reducible refine (impl_isByte.calls a0 false _ A3.out).mono ?_);rintro e w' ⟨rfl,⟨nd,rfl⟩⟩;refine ⟨_,rfl,?_⟩))
 go_ret
 exact ⟨q74_,q72_⟩
end Go.Proofs.YtodlnnoekccmmaaGreatDoor.QFnInsTexts
