/- The machine's side of a law,written by a program of this session for this claim. -/
import Derived.Test.YtodlnnoekccmmaaGreatDoorIQq
import Derived.Test.YtodlnnoekccmmaaGreatDoorIQFnInsTextsx0
import Derived.Test.YtodlnnoekccmmaaGreatDoorIQFnInsTextsx2
namespace Go.Proofs.YtodlnnoekccmmaaGreatDoor.QFnInsTexts
open Go.Proofs.YtodlnnoekccmmaaGreatDoor.Qq
open Go.RowKit Go.Proofs.YtodlnnoekccmmaaGreatDoor.LibX Go.Proofs.YtodlnnoekccmmaaGreatDoor.LibE Go.Proofs.YtodlnnoekccmmaaGreatDoor.LibCB Go.Proofs.YtodlnnoekccmmaaGreatDoorW.PrintWords Go.Proofs.YtodlnnoekccmmaaGreatDoorW.PrintLast Go.Proofs.YtodlnnoekccmmaaGreatDoorW.PrintMore
attribute [local go_sem] max2_int min2_int max_two min_two max_three min_three max_four min_four   -- for this text's walks alone
set_option maxHeartbeats 8000000
set_option maxRecDepth 100000
set_option linter.unusedVariables false
set_option linter.unusedSimpArgs false
def impl_alus.f :Option (List ByteArray):=(impl_names.f (⟨#[97,100,100,32,97,100,99,32,115,117,98,32,115,98,99,32,97,110,100,32,120,111,114,32,111,114,32,99,112]⟩:ByteArray)).bind fun t179 => (some t179)
theorem impl_alus.calls  (r:List ByteArray) (w:World) (h:impl_alus.f  = some r) (hG:Go.Proofs.YtodlnnoekccmmaaGreatDoor.LibW.GL w:=by first | exact hG | exact hG.below q10_ | exact hG.drewN _) :
  Calls Tryz.prog 95 #[] w fun e w' => ∃ v0_:Value,e = .returned (v0_) ∧ Kd.R Kd.string 9 w' w.heap.size (fun _ => True) v0_ r ∧ Below w.heap.size w w':=by
 have HB:=Aside0.mk (Below.refl w.heap.size w)
 have H:=h;unfold impl_alus.f at H
 clear h
 replace H:=Option.bind_eq_some_iff.mp H
 obtain ⟨t179,A10,H⟩:=H
 have A1:=Aside0.mk A10
 clear A10
 obtain rfl:=Option.some.inj H
 go_enter Tryz.func95,Tryz.ntmps95
 go_wp2_with (first | ((with_reducible refine gate_callee (f:=97) rfl ?_);refine goesL_ (some 1) rfl rfl Tryz.func97 (by kernel_rfl) rfl #[.string (⟨#[97,100,100,32,97,100,99,32,115,117,98,32,115,98,99,32,97,110,100,32,120,111,114,32,111,114,32,99,112]⟩:ByteArray)] rfl q71_ ?_;(with_reducible refine (impl_names.calls (⟨#[97,100,100,32,97,100,99,32,115,117,98,32,115,98,99,32,97,110,100,32,120,111,114,32,111,114,32,99,112]⟩:ByteArray) t179 _ A1.out).mono ?_);rintro e w2 ⟨v180,rfl,ho0,hb⟩;refine ⟨_,rfl,?_⟩;have n0_:=Aside0.mk (Kd.R_lower ho0 (below_size q72_));have n1_:=Aside0.mk (below_step q72_ hb);clear HB;have HO181:=n0_;have HB:=n1_;clear n0_ n1_;(try clear hb);(try clear ho0)))
 go_ret
 exact ⟨_,q74_,by (with_reducible repeat (first | apply Kd.R_alloc | apply Kd.R_drewN | apply Kd.R_drew));exact HO181.out,q72_⟩
def impl_isWord.f (a0:Int):Option (Bool):=(impl_within.f a0 0 65535).bind fun t182 => (some t182)
theorem impl_isWord.calls (a0:Int) (r:Bool) (w:World) (h:impl_isWord.f a0 = some r) :
  Calls Tryz.prog 57 #[.int .i64 a0] w fun e w' => e = .returned (.bool r) ∧ Drawn0 w w':=by
 have H:=h;unfold impl_isWord.f at H
 clear h
 replace H:=Option.bind_eq_some_iff.mp H
 obtain ⟨t182,A20,H⟩:=H
 have A2:=Aside0.mk A20
 clear A20
 obtain rfl:=Option.some.inj H
 go_enter Tryz.func57,Tryz.ntmps57
 go_wp2_with (first | ((with_reducible refine gate_callee (f:=61) rfl ?_);refine goesL_ (some 4) rfl rfl Tryz.func61 (by kernel_rfl) rfl #[.int .i64 a0,.int .i64 0,.int .i64 65535] rfl q71_ ?_;(with_reducible refine (impl_within.calls a0 0 65535 t182 _ A2.out).mono ?_);rintro e w' ⟨rfl,⟨nd,rfl⟩⟩;refine ⟨_,rfl,?_⟩))
 go_ret
 exact ⟨q92_,q108_⟩
def impl_hexDigits.f (a0:Int) (a1:Int):Option (ByteArray):=(strconv_FormatInt.f a0 16).bind fun t183 => ((strings_ToUpper.f t183).bind fun t184 => ((strings_Repeat.f (⟨#[48]⟩:ByteArray) (mx 0 (wrap64 (a1 - (t184.size:Int))))).bind fun t185 => (if t185.size + t184.size ≤ 9223372036854775807 then (some (t185 ++ t184)) else (none))))
theorem impl_hexDigits.calls (a0:Int) (a1:Int) (r:ByteArray) (w:World) (h:impl_hexDigits.f a0 a1 = some r) (hG:Go.Proofs.YtodlnnoekccmmaaGreatDoor.LibW.GL w:=by first | exact hG | exact hG.below q10_ | exact hG.drewN _) :
  Calls Tryz.prog 141 #[.int .i64 a0,.int .i64 a1] w fun e w' => e = .returned (.string r) ∧ Below w.heap.size w w':=by
 have HB:=Aside0.mk (Below.refl w.heap.size w)
 have H:=h;unfold impl_hexDigits.f at H
 clear h
 replace H:=Option.bind_eq_some_iff.mp H
 obtain ⟨t183,A30,H⟩:=H
 have A3:=Aside0.mk A30
 clear A30
 replace H:=Option.bind_eq_some_iff.mp H
 obtain ⟨t184,A40,H⟩:=H
 have A4:=Aside0.mk A40
 clear A40
 obtain ⟨ji5,hji5⟩:∃ j_:Int,(mx 0 (wrap64 (a1 - (t184.size:Int)))) = j_:=⟨_,rfl⟩
 (first | rewrite [hji5] at H | simp only [hji5] at H)
 (try rw [hji5] at A3)
 (try rw [hji5] at A4)
 (try (have hji5l:0 ≤ ji5:=by (rw [← hji5];unfold mx;(repeat' split) <;> omega)))
 (try (have hji5m:0 ≤ ji5:=by omega))
 have hji5_:(if 0 < (wrap64 (a1 - (t184.size:Int))) then (wrap64 (a1 - (t184.size:Int))) else 0) = ji5:=hji5
 replace H:=Option.bind_eq_some_iff.mp H
 obtain ⟨t185,A60,H⟩:=H
 have A6:=Aside0.mk A60
 clear A60
 by_cases c7:t185.size + t184.size ≤ 9223372036854775807
 rotate_left
 ·rw [if_neg c7] at H
  exact absurd H (by simp)
 rw [if_pos c7] at H
 have c7b0:=eq_true c7
 have c7b1:=decide_eq_true c7
 try have c7b2:(9223372036854775807 < t185.size + t184.size) = False:=eq_false (Nat.not_lt.2 c7)
 obtain rfl:=Option.some.inj H
 go_enter Tryz.func141,Tryz.ntmps141
 go_wp2_with (first | ((with_reducible refine gate_callee (f:=127) rfl ?_);refine goesL_ (some 7) rfl rfl Tryz.func127 (by kernel_rfl) rfl #[.int .i64 a0,.int .i64 16] rfl q71_ ?_;(with_reducible refine (strconv_FormatInt.calls a0 16 t183 _ A3.out).mono ?_);rintro e w8 ⟨rfl,hb⟩;refine ⟨_,rfl,?_⟩;replace HB:=Aside0.mk (below_step q72_ hb);(try clear hb)) | ((with_reducible refine gate_callee (f:=165) rfl ?_);refine goesL_ (some 8) rfl rfl Tryz.func165 (by kernel_rfl) rfl #[.string t183] rfl q71_ ?_;(with_reducible refine (strings_ToUpper.calls t183 t184 _ A4.out).mono ?_);rintro e w9 ⟨rfl,hb⟩;refine ⟨_,rfl,?_⟩;replace HB:=Aside0.mk (below_step q72_ hb);(try clear hb)) | ((with_reducible refine gate_callee (f:=79) rfl ?_);refine goesL_ (some 14) rfl rfl Tryz.func79 (by kernel_rfl) rfl #[.string (⟨#[48]⟩:ByteArray),.int .i64 ji5] rfl (by (try simp only [List.map_toArray,List.map_cons,List.map_nil]);first | done | (simp only [hji5];rfl) | rfl | (simp only [List.length_drop,List.length_take];rfl)) ?_;(with_reducible refine (strings_Repeat.calls (⟨#[48]⟩:ByteArray) ji5 t185 _ A6.out).mono ?_);rintro e w10 ⟨rfl,hb⟩;refine ⟨_,rfl,?_⟩;replace HB:=Aside0.mk (below_step q72_ hb);(try clear hb)))
 go_ret
 exact ⟨by first | rfl | (simp [errW_none,errW_some] <;> rfl) | (simp only [← hji5];first | rfl | (simp [errW_none,errW_some] <;> rfl)) | (simp [*,errW_none,errW_some] <;> rfl) | (exfalso;simp_all;done),q72_⟩
def impl_HexOf.j0:Nat → Int → Int → Bool → Option (ByteArray)
 | 0,_,_,_ => none
 | k + 1,x0,x1,x19 => if x19 = true then (some (⟨#[]⟩:ByteArray)) else ((impl_hexDigits.f x0 x1).bind fun t188 => (if 1 + t188.size ≤ 9223372036854775807 then (some ((⟨#[36]⟩:ByteArray) ++ t188)) else (none)))
def impl_HexOf.f (k:Nat) (a0:Int) (a1:Int):Option (ByteArray):=(impl_within.f a1 1 4).bind fun t186 => (if t186 = true then ((impl_isWord.f a0).bind fun t187 => (if t187 = true then (if 0 ≤ (wrap64 (4 * a1)) then (impl_HexOf.j0 k a0 a1 (decide ((shr .i64 a0 (wrap64 (4 * a1))) > 0))) else (none)) else (impl_HexOf.j0 k a0 a1 true))) else (impl_HexOf.j0 k a0 a1 true))
theorem impl_HexOf.mono_l:∀ k,(∀ y0 y1 y2,LeO (impl_HexOf.j0 k y0 y1 y2) (impl_HexOf.j0 (k + 1) y0 y1 y2))
 | 0 => fun _ _ _ r h => by simp [impl_HexOf.j0] at h
 | k + 1 => by
  have ih0:=impl_HexOf.mono_l k
  intro y0 y1 y2
  unfold impl_HexOf.j0
  repeat' first
  | (with_reducible first | exact ih0 _ _ _ | exact LeO.refl _ | exact LeO.none _ | refine LeO.ite ?_ ?_ | refine LeO.bind ?_ (fun _ => ?_))
  | exact ih0 _ _ _
  | exact LeO.none _
  | refine LeO.ite ?_ ?_
  | refine LeO.bind ?_ (fun _ => ?_)
theorem impl_HexOf.mono:∀ a0 a1 k,LeO (impl_HexOf.f k a0 a1) (impl_HexOf.f (k + 1) a0 a1):=by
 intro a0 a1 k
 have ih0:=impl_HexOf.mono_l k
 unfold impl_HexOf.f
 repeat' first
   | (with_reducible first | exact ih0 _ _ _ | exact LeO.refl _ | exact LeO.none _ | refine LeO.ite ?_ ?_ | refine LeO.bind ?_ (fun _ => ?_))
   | exact ih0 _ _ _
   | exact LeO.none _
   | refine LeO.ite ?_ ?_
   | refine LeO.bind ?_ (fun _ => ?_)
theorem impl_HexOf.calls (k:Nat) (a0:Int) (a1:Int) (r:ByteArray) (w:World) (h:impl_HexOf.f k a0 a1 = some r) (hG:Go.Proofs.YtodlnnoekccmmaaGreatDoor.LibW.GL w:=by first | exact hG | exact hG.below q10_ | exact hG.drewN _) :
  Calls Tryz.prog 112 #[.int .i64 a0,.int .i64 a1] w fun e w' => e = .returned (.string r) ∧ Below w.heap.size w w':=by
 have HB:=Aside0.mk (Below.refl w.heap.size w)
 have H:=h;unfold impl_HexOf.f at H
 clear h
 have HC3:=Aside0.mk H
 clear H
 go_enter Tryz.func112,Tryz.ntmps112
 go_upto_region 1 with (fail)
 go_cut [19] (fun v19 wc => ∃ (kq:Nat) (x19_2:Bool),v19 = .bool x19_2 ∧ Aside0 (impl_HexOf.j0 kq a0 a1 x19_2 = some r) ∧ Aside0 (kq ≤ k) ∧ Aside0 (Below w.heap.size w wc))
 case first =>
  have H:=HC3.out
  clear HC3
  replace H:=Option.bind_eq_some_iff.mp H
  obtain ⟨t186,A40,H⟩:=H
  have A4:=Aside0.mk A40
  clear A40
  by_cases c5:t186 = true
  ·subst c5
   rewrite [if_pos rfl] at H
   replace H:=Option.bind_eq_some_iff.mp H
   obtain ⟨t187,A60,H⟩:=H
   have A6:=Aside0.mk A60
   clear A60
   by_cases c7:t187 = true
   ·subst c7
    rewrite [if_pos rfl] at H
    obtain ⟨ji8,hji8⟩:∃ j_:Int,(wrap64 (4 * a1)) = j_:=⟨_,rfl⟩
    (first | rewrite [hji8] at H | simp only [hji8] at H)
    (try rw [hji8] at A4)
    (try rw [hji8] at A6)
    have hji8w:(IntKind.i64.wrap (4 * a1)) = ji8:=(i64_w _).trans hji8
    by_cases c9:0 ≤ (ji8)
    rotate_left
    ·rw [if_neg c9] at H
     exact absurd H (by simp)
    rw [if_pos c9] at H
    have c9b0:=eq_true c9
    have c9b1:=decide_eq_true c9
    clear c9
    obtain ⟨ji10,hji10⟩:∃ j_:Int,(shr .i64 a0 (ji8)) = j_:=⟨_,rfl⟩
    (first | rewrite [hji10] at H | simp only [hji10] at H)
    (try rw [hji10] at A4)
    (try rw [hji10] at A6)
    have hji10_:(a0 / 2 ^ min (ji8).toNat 64) = ji10:=hji10
    have hji10z:(ji8) ≤ 64 → (a0 / 2 ^ (ji8).toNat) = ji10:=shr_small hji10
    have H':=Aside0.mk H
    clear H
    go_wp2_with (first | ((with_reducible refine gate_callee (f:=61) rfl ?_);refine goesL_ (some 6) rfl rfl Tryz.func61 (by kernel_rfl) rfl #[.int .i64 a1,.int .i64 1,.int .i64 4] rfl q71_ ?_;(with_reducible refine (impl_within.calls a1 1 4 true _ A4.out).mono ?_);rintro e w' ⟨rfl,⟨nd,rfl⟩⟩;refine ⟨_,rfl,?_⟩) | (go_at_call 57;(with_reducible refine (impl_isWord.calls a0 true _ A6.out).mono ?_);rintro e w' ⟨rfl,⟨nd,rfl⟩⟩))
    go_meet
    case rel => exact ⟨_,(decide ((ji10) > 0)),(by first | rfl | (simp;done) | (simp only [← hji10] <;> (first | rfl | (simp;done))) | (simp [*];done) | (simp;decide +kernel) | (simp [wrap64];done) | (simp [bne];done)),(by first | with_reducible exact H' | (have H2_:=H';simp only [← hji8,← hji10] at H2_ ⊢;with_reducible exact H2_) | exact H'),⟨q121_⟩,⟨q72_⟩⟩
   replace c7:=Bool.eq_false_iff.mpr c7
   subst c7
   rewrite [if_neg (show ¬ (false = true) by decide)] at H
   have H':=Aside0.mk H
   clear H
   go_wp2_with (first | ((with_reducible refine gate_callee (f:=61) rfl ?_);refine goesL_ (some 6) rfl rfl Tryz.func61 (by kernel_rfl) rfl #[.int .i64 a1,.int .i64 1,.int .i64 4] rfl q71_ ?_;(with_reducible refine (impl_within.calls a1 1 4 true _ A4.out).mono ?_);rintro e w' ⟨rfl,⟨nd,rfl⟩⟩;refine ⟨_,rfl,?_⟩) | (go_at_call 57;(with_reducible refine (impl_isWord.calls a0 false _ A6.out).mono ?_);rintro e w' ⟨rfl,⟨nd,rfl⟩⟩))
   go_meet
   case rel => exact ⟨_,(true),q92_,H',⟨q121_⟩,⟨q72_⟩⟩
  replace c5:=Bool.eq_false_iff.mpr c5
  subst c5
  rewrite [if_neg (show ¬ (false = true) by decide)] at H
  have H':=Aside0.mk H
  clear H
  go_wp2_with (first | ((with_reducible refine gate_callee (f:=61) rfl ?_);refine goesL_ (some 6) rfl rfl Tryz.func61 (by kernel_rfl) rfl #[.int .i64 a1,.int .i64 1,.int .i64 4] rfl q71_ ?_;(with_reducible refine (impl_within.calls a1 1 4 false _ A4.out).mono ?_);rintro e w' ⟨rfl,⟨nd,rfl⟩⟩;refine ⟨_,rfl,?_⟩))
  go_meet
  case rel => exact ⟨_,(true),q92_,H',⟨q121_⟩,⟨q72_⟩⟩
 clear HC3
 try clear c1
 try clear p2
 try clear c5
 try clear c6
 try clear p6
 try clear c7
 try clear c9
 try clear c9b0
 try clear c9b1
 obtain ⟨kq,x19_2,rfl,HA,HJ2,HB⟩:=hcut
 cases kq with
 | zero => exact absurd HA.out (by simp [impl_HexOf.j0])
 | succ kj2 =>
  have H:=HA.out
  clear HA
  simp only [impl_HexOf.j0] at H
  by_cases c11:x19_2 = true
  ·subst c11
   rewrite [if_pos rfl] at H
   obtain rfl:=Option.some.inj H
   go_wp2
   go_ret
   exact ⟨q74_,q72_⟩
  replace c11:=Bool.eq_false_iff.mpr c11
  subst c11
  rewrite [if_neg (show ¬ (false = true) by decide)] at H
  replace H:=Option.bind_eq_some_iff.mp H
  obtain ⟨t188,A120,H⟩:=H
  have A12:=Aside0.mk A120
  clear A120
  by_cases c13:1 + t188.size ≤ 9223372036854775807
  rotate_left
  ·rw [if_neg c13] at H
   exact absurd H (by simp)
  rw [if_pos c13] at H
  have c13b0:=eq_true c13
  have c13b1:=decide_eq_true c13
  try have c13b2:(9223372036854775807 < 1 + t188.size) = False:=eq_false (Nat.not_lt.2 c13)
  obtain rfl:=Option.some.inj H
  go_wp2_with (first | ((with_reducible refine gate_callee (f:=141) rfl ?_);refine goesL_ (some 22) rfl rfl Tryz.func141 (by kernel_rfl) rfl #[.int .i64 a0,.int .i64 a1] rfl q71_ ?_;(with_reducible refine (impl_hexDigits.calls a0 a1 t188 _ A12.out).mono ?_);rintro e w14 ⟨rfl,hb⟩;refine ⟨_,rfl,?_⟩;replace HB:=Aside0.mk (below_step q72_ hb);(try clear hb)))
  go_ret
  exact ⟨q74_,q72_⟩
end Go.Proofs.YtodlnnoekccmmaaGreatDoor.QFnInsTexts
