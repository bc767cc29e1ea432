/- The machine's side of a law,written by a program of this session for this claim. -/
import Derived.Test.YtoiiaklmjpiejaaDoorAQq
import Derived.Test.YtoiiaklmjpiejaaDoorAQFnArgsx0
import Derived.Test.YtoiiaklmjpiejaaDoorAQFnArgsx1
import Derived.Test.YtoiiaklmjpiejaaDoorAQFnArgsx2
import Derived.Test.YtoiiaklmjpiejaaDoorAQFnArgsx3
namespace Go.Proofs.YtoiiaklmjpiejaaDoor.QFnArgs
open Go.Proofs.YtoiiaklmjpiejaaDoor.Qq
open Go.RowKit Go.Proofs.YtoiiaklmjpiejaaDoor.LibX Go.Proofs.YtoiiaklmjpiejaaDoor.LibE Go.Proofs.YtoiiaklmjpiejaaDoor.LibCB Go.Proofs.YtoiiaklmjpiejaaDoor.LibT Go.Proofs.YtoiiaklmjpiejaaDoorW.PrintWords Go.Proofs.YtoiiaklmjpiejaaDoorW.PrintLast Go.Proofs.YtoiiaklmjpiejaaDoorW.PrintMore
attribute [local go_sem] max2_int min2_int max_two min_two max_three min_three max_four min_four   -- for this text's walks alone
set_option maxHeartbeats 8000000
set_option maxRecDepth 100000
set_option linter.unusedVariables false
set_option linter.unusedSimpArgs false
mutual
def spec_ArgsOf.j0:Nat → ByteArray → List ByteArray → Bool → Option (List ByteArray)
 | 0,_,_,_ => none
 | k + 1,x0,x3,x14 => if x14 = true then (some x3) else (spec_ArgsOf.l0 k x3 x0 true)
def spec_ArgsOf.l0:Nat → List ByteArray → ByteArray → Bool → Option (List ByteArray)
 | 0,_,_,_ => none
 | k + 1,x3,x4,x5 => if x5 = true then ((spec_l1Cut.f k x4 44).bind fun bt172 => (if x3.length < 8796093022208 then (spec_ArgsOf.l0 k (x3 ++ [bt172.1]) bt172.2.1 bt172.2.2) else (none))) else (some x3)
end
def spec_ArgsOf.f (k:Nat) (a0:ByteArray):Option (List ByteArray):=(some (([]:List ByteArray):List ByteArray)).bind fun y168 => (if a0.toList = ([]:List UInt8) then (spec_ArgsOf.j0 k a0 y168 true) else ((spec_l7Args.f k a0).bind fun t171 => (spec_ArgsOf.j0 k a0 y168 (!t171))))
theorem spec_ArgsOf.calls (k:Nat) (a0:ByteArray) (r:List ByteArray) (w:World) (h:spec_ArgsOf.f k a0 = some r) :
  Calls Tryd.prog 10 #[.string a0] w fun e w' => ∃ v0_:Value,e = .returned (v0_) ∧ Kd.R Kd.string 9 w' w.heap.size (fun _ => True) v0_ r ∧ Below w.heap.size w w':=by
 have HB:=Aside0.mk (Below.refl w.heap.size w)
 have H:=h;unfold spec_ArgsOf.f at H
 clear h
 obtain ⟨y168,hy168⟩:∃ y_:List ByteArray,y_ = (([]:List ByteArray)):=⟨_,rfl⟩
 replace H:(if a0.toList = ([]:List UInt8) then (spec_ArgsOf.j0 k a0 y168 true) else ((spec_l7Args.f k a0).bind fun t171 => (spec_ArgsOf.j0 k a0 y168 (!t171)))) = some r:=by first | (rw [hy168];exact H) | exact H
 have Ny168:=Aside0.mk hy168
 clear hy168
 have HC2:=Aside0.mk H
 clear H
 go_enter Tryd.func10,Tryd.ntmps10
 go_upto_region 2 with (first | ((with_reducible refine gate_dst (N:=7) rfl ?_);refine Kd.R_lit Kd.string _ 9 ?hg (N:=7) ?hd (xs:=([]:List ByteArray)) (inner:=[]) (ok:=fun _ => True) (okp:=fun _ => True) ?hr ?hp (fun _ hk => hk) trivial (Below.refl _ _) (Nat.le_refl _) (by simp) ?_;(case hd => rfl);(case hg => rfl);(case hr => exact q27_);(case hp => exact (Reps.none _ _));intro v169 w3 ho4 hb hg_ hnew_;clear hg_ hnew_;(first | rw [← Ny168.out] at ho4 | (simp only [Int.reduceToNat] at ho4;rw [← Ny168.out] at ho4));have n0_:=Aside0.mk (Kd.R_lower ho4 (below_size q9_));have n1_:=Aside0.mk (below_step q9_ hb);clear HB;have HO170:=n0_;have HB:=n1_;clear n0_ n1_;clear hb ho4))
 (try simp only [Act.put,List.setIfInBounds_toArray,List.set_cons_zero,List.set_cons_succ])
 go_cut [14] (fun v14 wc => ∃ (kq:Nat) (x14_1:Bool),v14 = .bool x14_1 ∧ Aside0 (spec_ArgsOf.j0 kq a0 y168 x14_1 = some r) ∧ Aside0 (kq ≤ k) ∧ Aside0 (Kd.R Kd.string 9 wc w.heap.size (fun _ => True) v169 y168) ∧ Aside0 (Below w.heap.size w wc))
 case first =>
  have H:=HC2.out
  clear HC2
  by_cases c5:a0.toList = ([]:List UInt8)
  ·rw [if_pos c5] at H
   have c5b0:(a0.toList == ([]:List UInt8)) = true:=beq_iff_eq.mpr c5
   have c5b1:(a0.toList != ([]:List UInt8)) = false:=bne_eq_false_iff_eq.mpr c5
   clear c5
   (first | rw [c5b0] | (simp only [i64_w,i32_w];rw [c5b0]) | skip)
   have H':=Aside0.mk H
   clear H
   go_wp2
   go_meet
   case rel => exact ⟨_,(true),q12_,H',⟨by first | omega | exact Nat.le_refl _⟩,⟨by (with_reducible repeat (first | apply Kd.R_alloc | apply Kd.R_drewN | apply Kd.R_drew));exact HO170.out⟩,⟨q9_⟩⟩
  rw [if_neg c5] at H
  have c5b0:(a0.toList == ([]:List UInt8)) = false:=beq_eq_false_iff_ne.mpr c5
  have c5b1:(a0.toList != ([]:List UInt8)) = true:=bne_iff_ne.mpr c5
  (first | rw [c5b0] | (simp only [i64_w,i32_w];rw [c5b0]) | skip)
  replace H:=Option.bind_eq_some_iff.mp H
  obtain ⟨t171,A60,H⟩:=H
  have A6:=Aside0.mk A60
  clear A60
  have H':=Aside0.mk H
  clear H
  go_wp2_with (first | (go_at_call 33;(with_reducible refine (spec_l7Args.calls k a0 t171 _ A6.out).mono ?_);rintro e w' ⟨rfl,⟨nd,rfl⟩⟩))
  go_meet
  case rel => exact ⟨_,(!t171),q12_,H',⟨by first | omega | exact Nat.le_refl _⟩,⟨by (with_reducible repeat (first | apply Kd.R_alloc | apply Kd.R_drewN | apply Kd.R_drew));exact HO170.out⟩,⟨q9_⟩⟩
 clear HC2
 try clear c1
 try clear p2
 try clear c5
 try clear c5b0
 try clear c5b1
 try clear p6
 obtain ⟨kq,x14_1,rfl,HA,HJ1,HO_3,HB⟩:=hcut
 cases kq with
 | zero => exact absurd HA.out (by simp [spec_ArgsOf.j0])
 | succ kj1 =>
  have H:=HA.out
  clear HA
  simp only [spec_ArgsOf.j0] at H
  by_cases c7:x14_1 = true
  ·subst c7
   rewrite [if_pos rfl] at H
   obtain rfl:=Option.some.inj H
   go_wp2
   go_ret
   exact ⟨_,q10_,q14_,q9_⟩
  replace c7:=Bool.eq_false_iff.mpr c7
  subst c7
  rewrite [if_neg (show ¬ (false = true) by decide)] at H
  have H':=Aside0.mk H
  clear H
  go_wp2
  go_loopg [3,4,5] kj1 (fun kq v3 v4 v5 w' => ∃ (x3_2:List ByteArray) (x4_2:ByteArray) (x5_2:Bool),v4 = .string x4_2 ∧ v5 = .bool x5_2 ∧ Aside0 (spec_ArgsOf.l0 kq x3_2 x4_2 x5_2 = some r) ∧ Aside0 (kq ≤ kj1) ∧ Aside0 (Kd.R Kd.string 9 w' w.heap.size (fun _ => True) v3 x3_2) ∧ Aside0 (Below w.heap.size w w'))
  case atStart => exact ⟨(y168),(a0),(true),q12_,q12_,H',⟨Nat.le_refl _⟩,⟨q14_⟩,⟨q9_⟩⟩
  clear H'
  try clear c1
  try clear p2 p2
  try clear c5
  try clear c5b0
  try clear c5b1
  try clear p6 p6
  try clear c7
  obtain ⟨x3_2,x4_2,x5_2,rfl,rfl,HA,HK2,HO_3,HB⟩:=hrel
  cases gk with
  | zero => exact absurd HA.out (by simp [spec_ArgsOf.l0])
  | succ k2 =>
   have H:=HA.out
   clear HA
   simp only [spec_ArgsOf.l0] at H
   by_cases c8:x5_2 = true
   ·subst c8
    rewrite [if_pos rfl] at H
    replace H:=Option.bind_eq_some_iff.mp H
    obtain ⟨⟨t172,t173,t174⟩,A90,H⟩:=H
    try dsimp -simprocs -eta only at H
    have A9:=Aside0.mk A90
    clear A90
    by_cases c10:x3_2.length < 8796093022208
    rotate_left
    ·rw [if_neg c10] at H
     exact absurd H (by simp)
    rw [if_pos c10] at H
    have LMc10:=Aside0.mk c10
    clear c10
    obtain ⟨y175,hy175⟩:∃ y_:List ByteArray,y_ = (x3_2 ++ [t172]):=⟨_,rfl⟩
    replace H:(spec_ArgsOf.l0 k2 y175 t173 t174) = some r:=by first | (rw [hy175];exact H) | exact H
    have Ny175:=Aside0.mk hy175
    clear hy175
    have H':=Aside0.mk H
    clear H
    go_wp2_with (first | ((with_reducible refine gate_callee (f:=34) rfl ?_);refine goesL_ (some 20) rfl rfl Tryd.func34 (by kernel_rfl) rfl #[.string x4_2,.int .u8 44] rfl q7_ ?_;(with_reducible refine (spec_l1Cut.calls k2 x4_2 44 t172 t173 t174 _ A9.out).mono ?_);rintro e w' ⟨rfl,⟨nd,rfl⟩⟩;refine ⟨_,rfl,?_⟩) | ((with_reducible refine gate_builtin (b:=.append) (xs:=#[.tmp 24,.tmp 26]) rfl ?_);at_builtin;refine Kd.R_append Kd.string (w0:=w) w.heap.size rfl (.tmp 24) (.tmp 26) 25 9 (.string ⟨#[]⟩) 16 rfl Tryd.underlying25 info9 rfl (by decide) (by omega) u3 x3_2 t172 [.string t172] (fun _ => True) (fun _ => False) rfl rfl ?aP (fun _ hk => hk.elim) ?aF ?aO ?aB ?aS ?aL ?_;(case aP => exact rfl);(case aB => exact q9_);(case aF => exact (fun _ _ => trivial));(case aO => exact q14_);(case aS => exact (below_size q9_));(case aL => have:=LMc10.out;omega);intro v176 w11 ho hb hg hat;rw [← Ny175.out] at ho;have n0_:=Aside0.mk (hb);have n1_:=Aside0.mk (ho);clear HB;clear HO_3;have HB:=n0_;have HO177:=n1_;clear n0_ n1_;clear ho hb hg hat))
    go_roundg k2
    case measure => have:=HJ1.out;have:=HK2.out;omega
    case rel => exact ⟨(y175),(t173),(t174),q12_,q12_,H',⟨by have:=HJ1.out;have:=HK2.out;omega⟩,⟨by (with_reducible repeat (first | apply Kd.R_alloc | apply Kd.R_drewN | apply Kd.R_drew));exact HO177.out⟩,⟨q9_⟩⟩
   replace c8:=Bool.eq_false_iff.mpr c8
   subst c8
   rewrite [if_neg (show ¬ (false = true) by decide)] at H
   obtain rfl:=Option.some.inj H
   go_wp2
   go_ret
   exact ⟨_,q10_,q14_,q9_⟩
mutual
def laws_FnArgs.j0:Nat → ByteArray → List ByteArray → Bool → Option (Bool)
 | 0,_,_,_ => none
 | k + 1,x3,x4,x22 => if x22 = true then ((spec_ArgsOf.f k x3).bind fun t187 => ((laws_sameTexts.f k x4 t187).bind fun t190 => (some t190))) else (if 0 < (x4.length:Int) then (laws_FnArgs.l0 k x3 x4 (rdOf ByteArray.empty x4 0) 1) else (none))
def laws_FnArgs.l0:Nat → ByteArray → List ByteArray → ByteArray → Int → Option (Bool)
 | 0,_,_,_,_ => none
 | k + 1,x3,x4,x5,x6 => if x6 < (x4.length:Int) then (if x5.size + 1 ≤ 9223372036854775807 then (if 0 ≤ x6 then (if (x5 ++ (⟨#[44]⟩:ByteArray)).size + (rdOf ByteArray.empty x4 x6).size ≤ 9223372036854775807 then (laws_FnArgs.l0 k x3 x4 ((x5 ++ (⟨#[44]⟩:ByteArray)) ++ (rdOf ByteArray.empty x4 x6)) (wrap64 (x6 + 1))) else (none)) else (none)) else (none)) else (some (x5.toList == x3.toList))
end
def laws_FnArgs.f (k:Nat) (l0:List Int):Option (Bool):=(laws_big.f l0).bind fun t178 => (if t178 = true then (some true) else ((spec_DrawArgsOf.f k l0).bind fun t179 => ((impl_ArgsOf.f k t179).bind fun t180 => ((spec_ArgsOf.f k t179).bind fun t183 => ((laws_sameTexts.f k t180 t183).bind fun t186 => (if t186 = true then (laws_FnArgs.j0 k t179 t180 ((t180.length:Int) == 0)) else (laws_FnArgs.j0 k t179 t180 true)))))))
theorem laws_FnArgs.calls (k:Nat) (A0:Option Addr) (c0:Nat) (l0:List Int) (r:Bool) (w:World) (hr0:Kd.C (Kd.int .u8) w A0 l0.length l0) (hc0:l0.length ≤ c0) (h:laws_FnArgs.f k l0 = some r) (hG:Go.Proofs.YtoiiaklmjpiejaaDoor.LibW.GL w:=by first | exact hG | exact hG.below q0_ | exact hG.drewN _) :
  Calls Tryd.prog 3 #[.slice A0 l0.length c0] w fun e w' => e = .returned (.bool r) ∧ Below w.heap.size w w':=by
 have HR0:=Aside0.mk hr0
 have HC0:=Aside0.mk hc0
 clear hr0 hc0
 have HB:=Aside0.mk (Below.refl w.heap.size w)
 have H:=h;unfold laws_FnArgs.f at H
 clear h
 replace H:=Option.bind_eq_some_iff.mp H
 obtain ⟨t178,A20,H⟩:=H
 have A2:=Aside0.mk A20
 clear A20
 by_cases c3:t178 = true
 ·subst c3
  rewrite [if_pos rfl] at H
  obtain rfl:=Option.some.inj H
  go_enter Tryd.func3,Tryd.ntmps3
  go_wp2_with (first | ((with_reducible refine gate_callee (f:=6) rfl ?_);refine goesL_ (some 8) rfl rfl Tryd.func6 (by kernel_rfl) rfl #[.slice A0 l0.length c0] rfl q7_ ?_;(with_reducible refine (laws_big.calls _ _ l0 true _ ?side1 ?side2 A2.out).mono ?_);(case side1 => exact q25_);(case side2 => exact HC0.out);rintro e w' ⟨rfl,⟨nd,rfl⟩⟩;refine ⟨_,rfl,?_⟩))
  go_ret
  exact ⟨q10_,q9_⟩
 replace c3:=Bool.eq_false_iff.mpr c3
 subst c3
 rewrite [if_neg (show ¬ (false = true) by decide)] at H
 replace H:=Option.bind_eq_some_iff.mp H
 obtain ⟨t179,A40,H⟩:=H
 have A4:=Aside0.mk A40
 clear A40
 replace H:=Option.bind_eq_some_iff.mp H
 obtain ⟨t180,A50,H⟩:=H
 have A5:=Aside0.mk A50
 clear A50
 have HC6:=Aside0.mk H
 clear H
 go_enter Tryd.func3,Tryd.ntmps3
 go_upto_region 5 with (first | ((with_reducible refine gate_callee (f:=6) rfl ?_);refine goesL_ (some 8) rfl rfl Tryd.func6 (by kernel_rfl) rfl #[.slice A0 l0.length c0] rfl q7_ ?_;(with_reducible refine (laws_big.calls _ _ l0 false _ ?side1 ?side2 A2.out).mono ?_);(case side1 => exact q25_);(case side2 => exact HC0.out);rintro e w' ⟨rfl,⟨nd,rfl⟩⟩;refine ⟨_,rfl,?_⟩) | ((with_reducible refine gate_callee (f:=7) rfl ?_);refine goesL_ (some 10) rfl rfl Tryd.func7 (by kernel_rfl) rfl #[.slice A0 l0.length c0] rfl q7_ ?_;(with_reducible refine (spec_DrawArgsOf.calls k _ _ l0 t179 _ ?side1 ?side2 A4.out).mono ?_);(case side1 => exact q25_);(case side2 => exact HC0.out);rintro e w7 ⟨rfl,hb⟩;refine ⟨_,rfl,?_⟩;replace HB:=Aside0.mk (below_step q9_ hb);(try clear hb)) | ((with_reducible refine gate_callee (f:=8) rfl ?_);refine goesL_ (some 12) rfl rfl Tryd.func8 (by kernel_rfl) rfl #[.string t179] rfl q7_ ?_;(with_reducible refine (impl_ArgsOf.calls k t179 t180 _ A5.out).mono ?_);rintro e w8 ⟨v181,rfl,ho0,hb⟩;refine ⟨_,rfl,?_⟩;have n0_:=Aside0.mk (Kd.R_lower ho0 (below_size q9_));have n1_:=Aside0.mk (below_step q9_ hb);clear HB;have HO182:=n0_;have HB:=n1_;clear n0_ n1_;(try clear hb);(try clear ho0)))
 (try simp only [Act.put,List.setIfInBounds_toArray,List.set_cons_zero,List.set_cons_succ])
 go_cut [22] (fun v22 wc => ∃ (kq:Nat) (x22_5:Bool),v22 = .bool x22_5 ∧ Aside0 (laws_FnArgs.j0 kq t179 t180 x22_5 = some r) ∧ Aside0 (kq ≤ k) ∧ Aside0 (Kd.R Kd.string 9 wc w.heap.size (fun _ => True) v181 t180) ∧ Aside0 (Below w.heap.size w wc))
 case first =>
  have H:=HC6.out
  clear HC6
  replace H:=Option.bind_eq_some_iff.mp H
  obtain ⟨t183,A90,H⟩:=H
  have A9:=Aside0.mk A90
  clear A90
  replace H:=Option.bind_eq_some_iff.mp H
  obtain ⟨t186,A100,H⟩:=H
  have A10:=Aside0.mk A100
  clear A100
  by_cases c11:t186 = true
  ·subst c11
   rewrite [if_pos rfl] at H
   have H':=Aside0.mk H
   clear H
   go_wp2_with (first | ((with_reducible refine gate_callee (f:=10) rfl ?_);refine goesL_ (some 15) rfl rfl Tryd.func10 (by kernel_rfl) rfl #[.string t179] rfl q7_ ?_;(with_reducible refine (spec_ArgsOf.calls k t179 t183 _ A9.out).mono ?_);rintro e w12 ⟨v184,rfl,ho0,hb⟩;refine ⟨_,rfl,?_⟩;have n0_:=Aside0.mk (Kd.R_elder' q13_ (Kd.R_base ho0) hb);have n1_:=Aside0.mk (Kd.R_lower (Kd.R_new' ho0 (Kd.R_lt q13_)) (below_size q9_));have n2_:=Aside0.mk (below_step q9_ hb);clear HO182;clear HB;have HO182:=n0_;have HO185:=n1_;have HB:=n2_;clear n0_ n1_ n2_;(try clear hb);(try clear ho0);obtain ⟨Ao13,co13,eo13⟩:=Kd.R_slice HO182.out;subst eo13;obtain ⟨Ao14,co14,eo14⟩:=Kd.R_slice HO185.out;subst eo14) | ((with_reducible refine gate_callee (f:=9) rfl ?_);refine goesL_ (some 16) rfl rfl Tryd.func9 (by kernel_rfl) rfl #[.slice Ao13 t180.length co13,.slice Ao14 t183.length co14] rfl q7_ ?_;(with_reducible refine (laws_sameTexts.calls k _ _ t180 _ _ t183 true _ ?side1 ?side2 ?side3 ?side4 A10.out).mono ?_);(case side1 => exact q22_);(case side2 => exact (Kd.R_reads' HO182.out).2.1);(case side3 => exact q23_);(case side4 => exact (Kd.R_reads' HO185.out).2.1);rintro e w' ⟨rfl,⟨nd,rfl⟩⟩;refine ⟨_,rfl,?_⟩))
   go_meet
   case rel => exact ⟨_,(((t180.length:Int) == 0)),q12_,H',⟨by first | omega | exact Nat.le_refl _⟩,⟨q8_⟩,⟨q9_⟩⟩
  replace c11:=Bool.eq_false_iff.mpr c11
  subst c11
  rewrite [if_neg (show ¬ (false = true) by decide)] at H
  have H':=Aside0.mk H
  clear H
  go_wp2_with (first | ((with_reducible refine gate_callee (f:=10) rfl ?_);refine goesL_ (some 15) rfl rfl Tryd.func10 (by kernel_rfl) rfl #[.string t179] rfl q7_ ?_;(with_reducible refine (spec_ArgsOf.calls k t179 t183 _ A9.out).mono ?_);rintro e w15 ⟨v184,rfl,ho0,hb⟩;refine ⟨_,rfl,?_⟩;have n0_:=Aside0.mk (Kd.R_elder' q13_ (Kd.R_base ho0) hb);have n1_:=Aside0.mk (Kd.R_lower (Kd.R_new' ho0 (Kd.R_lt q13_)) (below_size q9_));have n2_:=Aside0.mk (below_step q9_ hb);clear HO182;clear HB;have HO182:=n0_;have HO185:=n1_;have HB:=n2_;clear n0_ n1_ n2_;(try clear hb);(try clear ho0);obtain ⟨Ao16,co16,eo16⟩:=Kd.R_slice HO182.out;subst eo16;obtain ⟨Ao17,co17,eo17⟩:=Kd.R_slice HO185.out;subst eo17) | ((with_reducible refine gate_callee (f:=9) rfl ?_);refine goesL_ (some 16) rfl rfl Tryd.func9 (by kernel_rfl) rfl #[.slice Ao16 t180.length co16,.slice Ao17 t183.length co17] rfl q7_ ?_;(with_reducible refine (laws_sameTexts.calls k _ _ t180 _ _ t183 false _ ?side1 ?side2 ?side3 ?side4 A10.out).mono ?_);(case side1 => exact q22_);(case side2 => exact (Kd.R_reads' HO182.out).2.1);(case side3 => exact q23_);(case side4 => exact (Kd.R_reads' HO185.out).2.1);rintro e w' ⟨rfl,⟨nd,rfl⟩⟩;refine ⟨_,rfl,?_⟩))
  go_meet
  case rel => exact ⟨_,(true),q12_,H',⟨by first | omega | exact Nat.le_refl _⟩,⟨q8_⟩,⟨q9_⟩⟩
 clear HC6
 try clear c1
 try clear p2
 try clear c3
 try clear c6
 try clear p6
 try clear c7
 try clear c8
 try clear c9
 try clear c10
 try clear c11
 obtain ⟨kq,x22_5,rfl,HA,HJ5,HO_4,HB⟩:=hcut
 cases kq with
 | zero => exact absurd HA.out (by simp [laws_FnArgs.j0])
 | succ kj5 =>
  have H:=HA.out
  clear HA
  simp only [laws_FnArgs.j0] at H
  by_cases c18:x22_5 = true
  ·subst c18
   rewrite [if_pos rfl] at H
   replace H:=Option.bind_eq_some_iff.mp H
   obtain ⟨t187,A190,H⟩:=H
   have A19:=Aside0.mk A190
   clear A190
   replace H:=Option.bind_eq_some_iff.mp H
   obtain ⟨t190,A200,H⟩:=H
   have A20:=Aside0.mk A200
   clear A200
   obtain rfl:=Option.some.inj H
   go_wp2_with (first | ((with_reducible refine gate_callee (f:=10) rfl ?_);refine goesL_ (some 25) rfl rfl Tryd.func10 (by kernel_rfl) rfl #[.string t179] rfl q7_ ?_;(with_reducible refine (spec_ArgsOf.calls kj5 t179 t187 _ A19.out).mono ?_);rintro e w21 ⟨v188,rfl,ho0,hb⟩;refine ⟨_,rfl,?_⟩;have n0_:=Aside0.mk (Kd.R_elder' q15_ (Kd.R_base ho0) hb);have n1_:=Aside0.mk (Kd.R_lower (Kd.R_new' ho0 (Kd.R_lt q15_)) (below_size q9_));have n2_:=Aside0.mk (below_step q9_ hb);clear HO_4;clear HB;have HO_4:=n0_;have HO189:=n1_;have HB:=n2_;clear n0_ n1_ n2_;(try clear hb);(try clear ho0);obtain ⟨Ao22,co22,eo22⟩:=Kd.R_slice HO_4.out;subst eo22;obtain ⟨Ao23,co23,eo23⟩:=Kd.R_slice HO189.out;subst eo23) | ((with_reducible refine gate_callee (f:=9) rfl ?_);refine goesL_ (some 26) rfl rfl Tryd.func9 (by kernel_rfl) rfl #[.slice Ao22 t180.length co22,.slice Ao23 t187.length co23] rfl q7_ ?_;(with_reducible refine (laws_sameTexts.calls kj5 _ _ t180 _ _ t187 t190 _ ?side1 ?side2 ?side3 ?side4 A20.out).mono ?_);(case side1 => repeat (first | exact (Kd.R_reads' HO_4.out).2.2 | (with_reducible refine Kd.C_alloc ?_ _) | (with_reducible refine Kd.C_drewN ?_ _) | (with_reducible refine Kd.C_drew ?_)));(case side2 => exact (Kd.R_reads' HO_4.out).2.1);(case side3 => repeat (first | exact (Kd.R_reads' HO189.out).2.2 | (with_reducible refine Kd.C_alloc ?_ _) | (with_reducible refine Kd.C_drewN ?_ _) | (with_reducible refine Kd.C_drew ?_)));(case side4 => exact (Kd.R_reads' HO189.out).2.1);rintro e w' ⟨rfl,⟨nd,rfl⟩⟩;refine ⟨_,rfl,?_⟩))
   go_ret
   exact ⟨q10_,q9_⟩
  replace c18:=Bool.eq_false_iff.mpr c18
  subst c18
  rewrite [if_neg (show ¬ (false = true) by decide)] at H
  by_cases c24:0 < (t180.length:Int)
  rotate_left
  ·rw [if_neg c24] at H
   exact absurd H (by simp)
  rw [if_pos c24] at H
  have c24b0:=decide_eq_true c24
  have c24b1:decide (0 < t180.length) = true:=decide_eq_true (by omega)
  clear c24
  have H':=Aside0.mk H
  clear H
  obtain ⟨Ao25,co25,eo25⟩:=Kd.R_slice HO_4.out
  subst eo25
  have p191:0 ≤ (0:Int):=(by omega)
  have q191:0 < (t180.length:Int):=of_decide_eq_true q18_
  obtain ⟨ad191,e191,hx191_0⟩:=Kd.at_string (Kd.R_reads' HO_4.out).2.2 0 p191 q191
  cases e191
  have qi191:(0 < t180.length) = True:=eq_true (by omega)
  (try rw [show ((0:Int)).toNat = 0 from rfl] at hx191_0)
  (try rw [Addr.add_zero'] at hx191_0)
  replace p191:=eq_true p191
  replace q191:=eq_true q191
  go_wp2
  go_loopg [5,6] kj5 (fun kq v5 v6 w' => ∃ (x5_2:ByteArray) (x6_2:Int),v5 = .string x5_2 ∧ v6 = .int .i64 x6_2 ∧ Aside0 (laws_FnArgs.l0 kq t179 t180 x5_2 x6_2 = some r) ∧ Aside0 (kq ≤ kj5) ∧ Aside0 (Kd.R Kd.string 9 w' w.heap.size (fun _ => True) (.slice (some ad191) t180.length co25) t180) ∧ Aside0 (Below w.heap.size w w'))
  case atStart => exact ⟨(rdOf ByteArray.empty t180 0),(1),q12_,q12_,H',⟨Nat.le_refl _⟩,⟨q15_⟩,⟨q9_⟩⟩
  clear H'
  try clear c1
  try clear p1
  try clear q1
  try clear hx1
  try clear qi1
  try clear c2
  try clear p2 p2
  try clear c3
  try clear c6
  try clear p6 p6
  try clear c7
  try clear c8
  try clear c9
  try clear c10
  try clear c11
  try clear c18
  try clear p19
  try clear q19
  try clear hx19
  try clear qi19
  try clear c24
  try clear c24b0
  try clear c24b1
  try clear hx191_0
  try clear p191
  try clear q191
  obtain ⟨x5_2,x6_2,rfl,rfl,HA,HK2,HO_4,HB⟩:=hrel
  cases gk with
  | zero => exact absurd HA.out (by simp [laws_FnArgs.l0])
  | succ k2 =>
   have H:=HA.out
   clear HA
   simp only [laws_FnArgs.l0] at H
   by_cases c26:x6_2 < (t180.length:Int)
   ·rw [if_pos c26] at H
    have c26b0:=decide_eq_true c26
    clear c26
    by_cases c27:x5_2.size + 1 ≤ 9223372036854775807
    rotate_left
    ·rw [if_neg c27] at H
     exact absurd H (by simp)
    rw [if_pos c27] at H
    have c27b0:=eq_true c27
    have c27b1:=decide_eq_true c27
    try have c27b2:(9223372036854775807 < x5_2.size + 1) = False:=eq_false (Nat.not_lt.2 c27)
    by_cases c28:0 ≤ x6_2
    rotate_left
    ·rw [if_neg c28] at H
     exact absurd H (by simp)
    rw [if_pos c28] at H
    have c28b0:=decide_eq_true c28
    clear c28
    by_cases c29:(x5_2 ++ (⟨#[44]⟩:ByteArray)).size + (rdOf ByteArray.empty t180 x6_2).size ≤ 9223372036854775807
    rotate_left
    ·rw [if_neg c29] at H
     exact absurd H (by simp)
    rw [if_pos c29] at H
    have c29b0:=eq_true c29
    (try (have c29b0e:=c29b0;simp only [ByteArray.size_append,ByteArray.size_extract,Nat.min_self,Nat.sub_zero,show (⟨#[44]⟩:ByteArray).size = 1 from rfl] at c29b0e))
    have c29b1:=decide_eq_true c29
    (try (have c29b1e:=c29b1;simp only [ByteArray.size_append,ByteArray.size_extract,Nat.min_self,Nat.sub_zero,show (⟨#[44]⟩:ByteArray).size = 1 from rfl] at c29b1e))
    try have c29b2:(9223372036854775807 < (x5_2 ++ (⟨#[44]⟩:ByteArray)).size + (rdOf ByteArray.empty t180 x6_2).size) = False:=eq_false (Nat.not_lt.2 c29)
    (try (have c29b2e:=c29b2;simp only [ByteArray.size_append,ByteArray.size_extract,Nat.min_self,Nat.sub_zero,show (⟨#[44]⟩:ByteArray).size = 1 from rfl] at c29b2e))
    have H':=Aside0.mk H
    clear H
    have p192:0 ≤ (x6_2:Int):=of_decide_eq_true q18_
    have q192:x6_2 < (t180.length:Int):=of_decide_eq_true q18_
    obtain ⟨ad192,e192,hx192_0⟩:=Kd.at_string (Kd.R_reads' HO_4.out).2.2 x6_2 p192 q192
    obtain rfl:ad191 = ad192:=(by injection e192)
    replace p192:=eq_true p192
    replace q192:=eq_true q192
    go_wp2
    go_roundg k2
    case measure => have:=HJ5.out;have:=HK2.out;omega
    case rel => exact ⟨((x5_2 ++ (⟨#[44]⟩:ByteArray)) ++ (rdOf ByteArray.empty t180 x6_2)),(wrap64 (x6_2 + 1)),q12_,q12_,H',⟨by have:=HJ5.out;have:=HK2.out;omega⟩,⟨q15_⟩,⟨q9_⟩⟩
   rw [if_neg c26] at H
   have c26b0:=decide_eq_false c26
   clear c26
   obtain rfl:=Option.some.inj H
   go_wp2
   go_ret
   exact ⟨q10_,q9_⟩
/-- THE ONE PURE STATEMENT of laws_FnArgs: yours. -/
def laws_FnArgs.Pure:Prop:=∀ (l0:List Int),l0.length ≤ maxLen → l0.length * 1 ≤ 140737488351232 → (∀ x ∈ l0,(Lit.int .u8 x).wf = true) → ∃ k,laws_FnArgs.f k l0 = some true
theorem laws_FnArgs.walk (P:laws_FnArgs.Pure) (a0:Option Addr) (len0 cap0:Nat) (z0:List Int) (w:World) (w0:(a0 = none ∧ len0 = 0 ∧ cap0 = 0 ∧ z0 = []) ∨ ∃ x,a0 = some x ∧ len0 ≤ cap0 ∧ cap0 ≤ maxLen ∧ z0.length = cap0 ∧ (∀ i,i < z0.length → w.cell? (x.add i) = some (.int .u8 (z0.getD i 0))) ∧ ∀ n ∈ z0,(Lit.int .u8 n).wf = true) (y0:len0 * 1 ≤ 140737488351232) (hG:Go.Proofs.YtoiiaklmjpiejaaDoor.LibW.GL w) :
  Calls Tryd.prog 3 #[.slice a0 len0 cap0] w fun e w' => e = .returned (.bool true) ∧ Below w.heap.size w w':=by
 obtain ⟨l0,rfl,hr0,hm0,hw0,hc0⟩:=ReadsInt.ofRowC w0
 obtain ⟨k,h⟩:=P l0 hm0 y0 hw0
 refine (laws_FnArgs.calls k _ _ l0 true w (Kd.C_of_reads (d:=(0:Int)) (h1:=fun _ => rfl) hr0) hc0 h).mono ?_
 rintro e w' ⟨rfl,hd⟩
 exact ⟨rfl,hd⟩
end Go.Proofs.YtoiiaklmjpiejaaDoor.QFnArgs
