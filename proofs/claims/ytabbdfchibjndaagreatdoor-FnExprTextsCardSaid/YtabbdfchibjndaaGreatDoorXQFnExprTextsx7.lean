/- The machine's side of a law,written by a program of this session for this claim. -/
import Derived.Test.YtabbdfchibjndaaGreatDoorXQq
import Derived.Test.YtabbdfchibjndaaGreatDoorXQFnExprTextsx0
import Derived.Test.YtabbdfchibjndaaGreatDoorXQFnExprTextsx6
namespace Go.Proofs.YtabbdfchibjndaaGreatDoor.QFnExprTexts
open Go.Proofs.YtabbdfchibjndaaGreatDoor.Qq
open Go.RowKit Go.Proofs.YtabbdfchibjndaaGreatDoor.LibX Go.Proofs.YtabbdfchibjndaaGreatDoor.LibE Go.Proofs.YtabbdfchibjndaaGreatDoor.LibG Go.Proofs.YtabbdfchibjndaaGreatDoor.LibCv Go.Proofs.YtabbdfchibjndaaGreatDoorW.PrintWords Go.Proofs.YtabbdfchibjndaaGreatDoorW.PrintLast Go.Proofs.YtabbdfchibjndaaGreatDoorW.PrintMore
attribute [local go_sem] max2_int min2_int max_two min_two max_three min_three max_four min_four   -- for this text's walks alone
set_option maxHeartbeats 8000000
set_option maxRecDepth 100000
set_option linter.unusedVariables false
set_option linter.unusedSimpArgs false
def slices_Index_string_string.l0:Nat → List ByteArray → ByteArray → Int → Int → Option (Int)
 | 0,_,_,_,_ => none
 | k + 1,x0,x1,x7,x8 => if x8 < x7 then (if 0 ≤ x8 then (if x8 < (x0.length:Int) then (if x1.toList = (rdOf ByteArray.empty x0 x8).toList then (some x8) else (slices_Index_string_string.l0 k x0 x1 x7 (wrap64 (x8 + 1)))) else (none)) else (none)) else (some (-1))
def slices_Index_string_string.f (k:Nat) (l0:List ByteArray) (a1:ByteArray):Option (Int):=slices_Index_string_string.l0 k l0 a1 (l0.length:Int) 0
theorem slices_Index_string_string.mono_l:∀ k,(∀ y0 y1 y2 y3,LeO (slices_Index_string_string.l0 k y0 y1 y2 y3) (slices_Index_string_string.l0 (k + 1) y0 y1 y2 y3))
 | 0 => fun _ _ _ _ r h => by simp [slices_Index_string_string.l0] at h
 | k + 1 => by
  have ih0:=slices_Index_string_string.mono_l k
  intro y0 y1 y2 y3
  unfold slices_Index_string_string.l0
  repeat' first
  | (with_reducible first | exact ih0 _ _ _ _ | exact LeO.refl _ | exact LeO.none _ | refine LeO.ite ?_ ?_ | refine LeO.bind ?_ (fun _ => ?_))
  | exact ih0 _ _ _ _
  | exact LeO.none _
  | refine LeO.ite ?_ ?_
  | refine LeO.bind ?_ (fun _ => ?_)
theorem slices_Index_string_string.mono:∀ a0 a1 k,LeO (slices_Index_string_string.f k a0 a1) (slices_Index_string_string.f (k + 1) a0 a1):=by
 intro a0 a1 k
 have ih0:=slices_Index_string_string.mono_l k
 unfold slices_Index_string_string.f
 repeat' first
   | (with_reducible first | exact ih0 _ _ _ _ | exact LeO.refl _ | exact LeO.none _ | refine LeO.ite ?_ ?_ | refine LeO.bind ?_ (fun _ => ?_))
   | exact ih0 _ _ _ _
   | exact LeO.none _
   | refine LeO.ite ?_ ?_
   | refine LeO.bind ?_ (fun _ => ?_)
theorem slices_Index_string_string.calls (k:Nat) (A0:Option Addr) (c0:Nat) (l0:List ByteArray) (a1:ByteArray) (r:Int) (w:World) (hr0:Kd.C Kd.string w A0 l0.length l0) (hc0:l0.length ≤ c0) (h:slices_Index_string_string.f k l0 a1 = some r) :
  Calls Tryz.prog 19 #[.slice A0 l0.length c0,.string a1] w fun e w' => e = .returned (.int .i64 r) ∧ Drawn0 w w':=by
 have HR0:=Aside0.mk hr0
 have HC0:=Aside0.mk hc0
 clear hr0 hc0
 have H:=h;unfold slices_Index_string_string.f at H
 clear h
 have H':=Aside0.mk H
 clear H
 go_enter Tryz.func19,Tryz.ntmps19
 go_wp2
 go_loopg [8] k (fun kq v8 w' => ∃ (x8_1:Int),v8 = .int .i64 x8_1 ∧ Aside0 (slices_Index_string_string.l0 kq l0 a1 (l0.length:Int) x8_1 = some r) ∧ Aside0 (kq ≤ k) ∧ Drawn0 w w')
 case atStart => exact ⟨(0),q31_,H',⟨Nat.le_refl _⟩,q44_⟩
 clear H'
 try clear c1
 try clear p2
 obtain ⟨x8_1,rfl,HA,HK1,⟨m1,rfl⟩⟩:=hrel
 cases gk with
 | zero => exact absurd HA.out (by simp [slices_Index_string_string.l0])
 | succ k1 =>
  have H:=HA.out
  clear HA
  simp only [slices_Index_string_string.l0] at H
  by_cases c3:x8_1 < (l0.length:Int)
  ·rw [if_pos c3] at H
   have c3b0:=decide_eq_true c3
   clear c3
   by_cases c4:0 ≤ x8_1
   rotate_left
   ·rw [if_neg c4] at H
    exact absurd H (by simp)
   rw [if_pos c4] at H
   have c4b0:=decide_eq_true c4
   clear c4
   by_cases c5:x8_1 < (l0.length:Int)
   rotate_left
   ·rw [if_neg c5] at H
    exact absurd H (by simp)
   rw [if_pos c5] at H
   have c5b0:=decide_eq_true c5
   clear c5
   by_cases c6:a1.toList = (rdOf ByteArray.empty l0 x8_1).toList
   ·rw [if_pos c6] at H
    have c6b0:(a1.toList == (rdOf ByteArray.empty l0 x8_1).toList) = true:=beq_iff_eq.mpr c6
    have c6b1:(a1.toList != (rdOf ByteArray.empty l0 x8_1).toList) = false:=bne_eq_false_iff_eq.mpr c6
    clear c6
    obtain rfl:=Option.some.inj H
    have p247:0 ≤ (x8_1:Int):=of_decide_eq_true q46_
    have q247:x8_1 < (l0.length:Int):=of_decide_eq_true q46_
    obtain ⟨ad247,e247,hx247_0⟩:=Kd.at_string HR0.out x8_1 p247 q247
    cases e247
    replace p247:=eq_true p247
    replace q247:=eq_true q247
    go_wp2
    go_ret
    exact ⟨q31_,q44_⟩
   rw [if_neg c6] at H
   have c6b0:(a1.toList == (rdOf ByteArray.empty l0 x8_1).toList) = false:=beq_eq_false_iff_ne.mpr c6
   have c6b1:(a1.toList != (rdOf ByteArray.empty l0 x8_1).toList) = true:=bne_iff_ne.mpr c6
   have H':=Aside0.mk H
   clear H
   have p247:0 ≤ (x8_1:Int):=of_decide_eq_true q46_
   have q247:x8_1 < (l0.length:Int):=of_decide_eq_true q46_
   obtain ⟨ad247,e247,hx247_0⟩:=Kd.at_string HR0.out x8_1 p247 q247
   cases e247
   replace p247:=eq_true p247
   replace q247:=eq_true q247
   go_wp2
   go_roundg k1
   case measure => have:=HK1.out;omega
   case rel => exact ⟨(wrap64 (x8_1 + 1)),q31_,H',⟨by have:=HK1.out;omega⟩,q44_⟩
  rw [if_neg c3] at H
  have c3b0:=decide_eq_false c3
  clear c3
  obtain rfl:=Option.some.inj H
  go_wp2
  go_ret
  exact ⟨q31_,q44_⟩
def impl_ReadExpr.l0:Nat → ByteArray → List (S43) → List ByteArray → Int → Int → Option ((List (S43)) × Bool)
 | 0,_,_,_,_,_ => none
 | k + 1,x0,x5,x19,x20,x21 => if x21 < x20 then (if 0 ≤ x21 then (if x21 < (x19.length:Int) then ((strings_CutPrefix.f (rdOf ByteArray.empty x19 x21) (⟨#[35]⟩:ByteArray)).bind fun bt255 => ((strconv_ParseInt.f (rdOf ByteArray.empty x19 x21) 10 64).bind fun bt257 => ((impl_opWords.f).bind fun t259 => ((slices_Index_string_string.f k t259 (rdOf ByteArray.empty x19 x21)).bind fun t262 => (if bt255.2 = true then (if x5.length < 4398046511104 then (impl_ReadExpr.l0 k x0 (x5 ++ [(⟨3,0,bt255.1⟩:S43)]) x19 x20 (wrap64 (x21 + 1))) else (none)) else (if t262 ≥ 0 then (if x5.length < 4398046511104 then (impl_ReadExpr.l0 k x0 (x5 ++ [(⟨wrap64 (4 + t262),0,(⟨#[]⟩:ByteArray)⟩:S43)]) x19 x20 (wrap64 (x21 + 1))) else (none)) else (if bt257.2.isNone = true then (if x5.length < 4398046511104 then (impl_ReadExpr.l0 k x0 (x5 ++ [(⟨1,bt257.1,(⟨#[]⟩:ByteArray)⟩:S43)]) x19 x20 (wrap64 (x21 + 1))) else (none)) else (if x5.length < 4398046511104 then (impl_ReadExpr.l0 k x0 (x5 ++ [(⟨2,0,rdOf ByteArray.empty x19 x21⟩:S43)]) x19 x20 (wrap64 (x21 + 1))) else (none))))))))) else (none)) else (none)) else ((impl_ExprOk.f k x5).bind fun t276 => (if t276 = true then ((impl_exprText.f k x5).bind fun t277 => (if t277.toList = x0.toList then (some (x5,true)) else (some (([]:List (S43)),false)))) else (some (([]:List (S43)),false))))
def impl_ReadExpr.f (k:Nat) (a0:ByteArray):Option ((List (S43)) × Bool):=(strings_Split.f a0 (⟨#[32]⟩:ByteArray)).bind fun t248 => (if (t248.length:Int) > 30 then (some (([]:List (S43)),false)) else (impl_ReadExpr.l0 k a0 (([]:List (S43))) t248 (t248.length:Int) 0))
theorem impl_ReadExpr.mono_l:∀ k,(∀ y0 y1 y2 y3 y4,LeO (impl_ReadExpr.l0 k y0 y1 y2 y3 y4) (impl_ReadExpr.l0 (k + 1) y0 y1 y2 y3 y4))
 | 0 => fun _ _ _ _ _ r h => by simp [impl_ReadExpr.l0] at h
 | k + 1 => by
  have ih0:=impl_ReadExpr.mono_l k
  intro y0 y1 y2 y3 y4
  unfold impl_ReadExpr.l0
  repeat' first
  | (with_reducible first | exact ih0 _ _ _ _ _ | exact impl_ExprOk.mono _ _ | exact impl_exprText.mono _ _ | exact slices_Index_string_string.mono _ _ _ | exact LeO.refl _ | exact LeO.none _ | refine LeO.ite ?_ ?_ | refine LeO.bind ?_ (fun _ => ?_))
  | exact ih0 _ _ _ _ _
  | exact impl_ExprOk.mono _ _
  | exact impl_exprText.mono _ _
  | exact slices_Index_string_string.mono _ _ _
  | exact LeO.none _
  | refine LeO.ite ?_ ?_
  | refine LeO.bind ?_ (fun _ => ?_)
theorem impl_ReadExpr.mono:∀ a0 k,LeO (impl_ReadExpr.f k a0) (impl_ReadExpr.f (k + 1) a0):=by
 intro a0 k
 have ih0:=impl_ReadExpr.mono_l k
 unfold impl_ReadExpr.f
 repeat' first
   | (with_reducible first | exact ih0 _ _ _ _ _ | exact impl_ExprOk.mono _ _ | exact impl_exprText.mono _ _ | exact slices_Index_string_string.mono _ _ _ | exact LeO.refl _ | exact LeO.none _ | refine LeO.ite ?_ ?_ | refine LeO.bind ?_ (fun _ => ?_))
   | exact ih0 _ _ _ _ _
   | exact impl_ExprOk.mono _ _
   | exact impl_exprText.mono _ _
   | exact slices_Index_string_string.mono _ _ _
   | exact LeO.none _
   | refine LeO.ite ?_ ?_
   | refine LeO.bind ?_ (fun _ => ?_)
theorem impl_ReadExpr.calls (k:Nat) (a0:ByteArray) (r1:List (S43)) (r2:Bool) (w:World) (h:impl_ReadExpr.f k a0 = some (r1,r2)) (hG:Go.Proofs.YtabbdfchibjndaaGreatDoor.LibW.GL w:=by first | exact hG | exact hG.below q4_ | exact hG.drewN _) :
  Calls Tryz.prog 7 #[.string a0] w fun e w' => ∃ v0_:Value,e = .returned (.tuple #[v0_,.bool r2]) ∧ Kd.R k43 43 w' w.heap.size (fun _ => True) v0_ r1 ∧ Below w.heap.size w w':=by
 have hu43:=Tryz.underlying43
 have hu37:=Tryz.underlying37
 have HB:=Aside0.mk (Below.refl w.heap.size w)
 have H:=h;unfold impl_ReadExpr.f at H
 clear h
 replace H:=Option.bind_eq_some_iff.mp H
 obtain ⟨t248,A20,H⟩:=H
 have A2:=Aside0.mk A20
 clear A20
 by_cases c3:(t248.length:Int) > 30
 ·rw [if_pos c3] at H
  have c3b0:decide (30 < (t248.length:Int)) = true:=decide_eq_true c3
  have c3b1:decide (30 < t248.length) = true:=decide_eq_true (by omega)
  clear c3
  simp only [Option.some.injEq,Prod.mk.injEq] at H
  obtain ⟨rfl,rfl⟩:=H
  go_enter Tryz.func7,Tryz.ntmps7
  go_wp2_with (first | ((with_reducible refine gate_callee (f:=16) rfl ?_);refine goesL_ (some 14) rfl rfl Tryz.func16 (by kernel_rfl) rfl #[.string a0,.string (⟨#[32]⟩:ByteArray)] rfl q22_ ?_;(with_reducible refine (strings_Split.calls a0 (⟨#[32]⟩:ByteArray) t248 _ A2.out).mono ?_);rintro e w4 ⟨v249,rfl,ho0,hb⟩;refine ⟨_,rfl,?_⟩;have n0_:=Aside0.mk (Kd.R_lower ho0 (below_size q24_));have n1_:=Aside0.mk (below_step q24_ hb);clear HB;have HO250:=n0_;have HB:=n1_;clear n0_ n1_;(try clear hb);(try clear ho0);obtain ⟨Ao5,co5,eo5⟩:=Kd.R_slice HO250.out;subst eo5))
  go_ret2
  exact ⟨_,q26_,q20_,q24_⟩
 rw [if_neg c3] at H
 have c3b0:decide (30 < (t248.length:Int)) = false:=decide_eq_false c3
 have c3b1:decide (30 < t248.length) = false:=decide_eq_false (by omega)
 clear c3
 obtain ⟨y251,hy251⟩:∃ y_:List (S43),y_ = (([]:List (S43))):=⟨_,rfl⟩
 replace H:(impl_ReadExpr.l0 k a0 y251 t248 (t248.length:Int) 0) = some (r1,r2):=by first | (rw [hy251];exact H) | exact H
 have Ny251:=Aside0.mk hy251
 clear hy251
 have H':=Aside0.mk H
 clear H
 go_enter Tryz.func7,Tryz.ntmps7
 go_wp2_with (first | ((with_reducible refine gate_callee (f:=16) rfl ?_);refine goesL_ (some 14) rfl rfl Tryz.func16 (by kernel_rfl) rfl #[.string a0,.string (⟨#[32]⟩:ByteArray)] rfl q22_ ?_;(with_reducible refine (strings_Split.calls a0 (⟨#[32]⟩:ByteArray) t248 _ A2.out).mono ?_);rintro e w6 ⟨v249,rfl,ho0,hb⟩;refine ⟨_,rfl,?_⟩;have n0_:=Aside0.mk (Kd.R_lower ho0 (below_size q24_));have n1_:=Aside0.mk (below_step q24_ hb);clear HB;have HO250:=n0_;have HB:=n1_;clear n0_ n1_;(try clear hb);(try clear ho0);obtain ⟨Ao7,co7,eo7⟩:=Kd.R_slice HO250.out;subst eo7) | ((with_reducible refine gate_dst (N:=18) rfl ?_);refine Kd.R_lit k43 _ 43 ?hg (N:=18) ?hd (xs:=([]:List (S43))) (inner:=[]) (ok:=fun _ => True) (okp:=fun _ => True) ?hr ?hp (fun _ hk => hk) trivial (Below.refl _ _) (Nat.le_refl _) (by simp) ?_;(case hd => rfl);(case hg => rfl);(case hr => exact q59_);(case hp => exact (Reps.none _ _));intro v252 w8 ho9 hb hg_ hnew_;clear hg_ hnew_;(first | rw [← Ny251.out] at ho9 | (simp only [Int.reduceToNat] at ho9;rw [← Ny251.out] at ho9));have n0_:=Aside0.mk (Kd.R_below (by (with_reducible repeat (first | apply Kd.R_alloc | apply Kd.R_drewN | apply Kd.R_drew));exact HO250.out) hb);have n1_:=Aside0.mk (Kd.R_lower ho9 (below_size q24_));have n2_:=Aside0.mk (below_step q24_ hb);clear HO250;clear HB;have HO250:=n0_;have HO253:=n1_;have HB:=n2_;clear n0_ n1_ n2_;clear hb ho9))
 go_loopg [5,21] k (fun kq v5 v21 w' => ∃ (x5_1:List (S43)) (x21_1:Int),v21 = .int .i64 x21_1 ∧ Aside0 (impl_ReadExpr.l0 kq a0 x5_1 t248 (t248.length:Int) x21_1 = some (r1,r2)) ∧ Aside0 (kq ≤ k) ∧ Aside0 (Kd.R k43 43 w' w.heap.size (fun _ => True) v5 x5_1) ∧ Aside0 (Kd.R Kd.string 9 w' w.heap.size (fun _ => True) (.slice Ao7 t248.length co7) t248) ∧ Aside0 (Below w.heap.size w w'))
 case atStart => exact ⟨(y251),(0),q31_,H',⟨Nat.le_refl _⟩,⟨by (with_reducible repeat (first | apply Kd.R_alloc | apply Kd.R_drewN | apply Kd.R_drew));exact HO253.out⟩,⟨by (with_reducible repeat (first | apply Kd.R_alloc | apply Kd.R_drewN | apply Kd.R_drew));exact HO250.out⟩,⟨q24_⟩⟩
 clear H'
 try clear c1
 try clear p2
 try clear c3
 try clear c3b0
 try clear c3b1
 try clear p6
 try clear c7
 obtain ⟨x5_1,x21_1,rfl,HA,HK1,HO_5,HO_19,HB⟩:=hrel
 cases gk with
 | zero => exact absurd HA.out (by simp [impl_ReadExpr.l0])
 | succ k1 =>
  have H:=HA.out
  clear HA
  simp only [impl_ReadExpr.l0] at H
  by_cases c10:x21_1 < (t248.length:Int)
  ·rw [if_pos c10] at H
   have c10b0:=decide_eq_true c10
   clear c10
   by_cases c11:0 ≤ x21_1
   rotate_left
   ·rw [if_neg c11] at H
    exact absurd H (by simp)
   rw [if_pos c11] at H
   have c11b0:=decide_eq_true c11
   clear c11
   by_cases c12:x21_1 < (t248.length:Int)
   rotate_left
   ·rw [if_neg c12] at H
    exact absurd H (by simp)
   rw [if_pos c12] at H
   have c12b0:=decide_eq_true c12
   clear c12
   replace H:=Option.bind_eq_some_iff.mp H
   obtain ⟨⟨t255,t256⟩,A130,H⟩:=H
   try dsimp -simprocs -eta only at H
   have A13:=Aside0.mk A130
   clear A130
   replace H:=Option.bind_eq_some_iff.mp H
   obtain ⟨⟨t257,t258⟩,A140,H⟩:=H
   try dsimp -simprocs -eta only at H
   have A14:=Aside0.mk A140
   clear A140
   replace H:=Option.bind_eq_some_iff.mp H
   obtain ⟨t259,A150,H⟩:=H
   have A15:=Aside0.mk A150
   clear A150
   replace H:=Option.bind_eq_some_iff.mp H
   obtain ⟨t262,A160,H⟩:=H
   have A16:=Aside0.mk A160
   clear A160
   by_cases c17:t256 = true
   ·subst c17
    rewrite [if_pos rfl] at H
    by_cases c18:x5_1.length < 4398046511104
    rotate_left
    ·rw [if_neg c18] at H
     exact absurd H (by simp)
    rw [if_pos c18] at H
    have LMc18:=Aside0.mk c18
    clear c18
    obtain ⟨y263,hy263⟩:∃ y_:List (S43),y_ = (x5_1 ++ [(⟨3,0,t255⟩:S43)]):=⟨_,rfl⟩
    replace H:(impl_ReadExpr.l0 k1 a0 y263 t248 (t248.length:Int) (wrap64 (x21_1 + 1))) = some (r1,r2):=by first | (rw [hy263];exact H) | exact H
    have Ny263:=Aside0.mk hy263
    clear hy263
    have H':=Aside0.mk H
    clear H
    have p254:0 ≤ (x21_1:Int):=of_decide_eq_true q46_
    have q254:x21_1 < (t248.length:Int):=of_decide_eq_true q46_
    obtain ⟨ad254,e254,hx254_0⟩:=Kd.at_string (Kd.R_reads' HO_19.out).2.2 x21_1 p254 q254
    cases e254
    replace p254:=eq_true p254
    replace q254:=eq_true q254
    rcases t258 with _ | qt258e
    ·try simp only [errW_none,errW_some]
     go_wp2_with (first | ((with_reducible refine gate_callee (f:=17) rfl ?_);refine goesL_ (some 27) rfl rfl Tryz.func17 (by kernel_rfl) rfl #[.string (rdOf ByteArray.empty t248 x21_1),.string (⟨#[35]⟩:ByteArray)] rfl q22_ ?_;(with_reducible refine (strings_CutPrefix.calls (rdOf ByteArray.empty t248 x21_1) (⟨#[35]⟩:ByteArray) t255 true _ A13.out).mono ?_);rintro e w' ⟨rfl,⟨nd,rfl⟩⟩;refine ⟨_,rfl,?_⟩) | ((with_reducible refine gate_callee (f:=18) rfl ?_);refine goesL_ (some 32) rfl rfl Tryz.func18 (by kernel_rfl) rfl #[.string (rdOf ByteArray.empty t248 x21_1),.int .i64 10,.int .i64 64] rfl q22_ ?_;(with_reducible refine (strconv_ParseInt.calls_none (rdOf ByteArray.empty t248 x21_1) 10 64 t257 _ A14.out).mono ?_);rintro e w19 ⟨rfl,hb⟩;refine ⟨_,rfl,?_⟩;have n0_:=Aside0.mk (Kd.R_below q41_ hb);have n1_:=Aside0.mk (Kd.R_below q35_ hb);have n2_:=Aside0.mk (below_step q24_ hb);clear HO_5;clear HO_19;clear HB;have HO_5:=n0_;have HO_19:=n1_;have HB:=n2_;clear n0_ n1_ n2_;(try clear hb);(try simp only [errW_none,errW_some])) | ((with_reducible refine gate_callee (f:=20) rfl ?_);refine goesL_ (some 35) rfl rfl Tryz.func20 (by kernel_rfl) rfl #[] rfl q22_ ?_;(with_reducible refine (impl_opWords.calls  t259 _ A15.out).mono ?_);rintro e w20 ⟨v260,rfl,ho0,hb⟩;refine ⟨_,rfl,?_⟩;have n0_:=Aside0.mk (Kd.R_below q41_ hb);have n1_:=Aside0.mk (Kd.R_elder' q35_ (Kd.R_base ho0) hb);have n2_:=Aside0.mk (Kd.R_lower (Kd.R_new' ho0 (Kd.R_lt q35_)) (below_size q24_));have n3_:=Aside0.mk (below_step q24_ hb);clear HO_5;clear HO_19;clear HB;have HO_5:=n0_;have HO_19:=n1_;have HO261:=n2_;have HB:=n3_;clear n0_ n1_ n2_ n3_;(try clear hb);(try clear ho0);obtain ⟨Ao21,co21,eo21⟩:=Kd.R_slice HO261.out;subst eo21) | ((with_reducible refine gate_callee (f:=19) rfl ?_);refine goesL_ (some 37) rfl rfl Tryz.func19 (by kernel_rfl) rfl #[.slice Ao21 t259.length co21,.string (rdOf ByteArray.empty t248 x21_1)] rfl q22_ ?_;(with_reducible refine (slices_Index_string_string.calls k1 _ _ t259 (rdOf ByteArray.empty t248 x21_1) t262 _ ?side1 ?side2 A16.out).mono ?_);(case side1 => exact q52_);(case side2 => exact (Kd.R_reads' HO261.out).2.1);rintro e w' ⟨rfl,⟨nd,rfl⟩⟩;refine ⟨_,rfl,?_⟩) | ((with_reducible refine gate_builtin (b:=.append) (xs:=#[.tmp 45,.tmp 48]) rfl ?_);at_builtin;refine Kd.R_append k43 (w0:=w) w.heap.size rfl (.tmp 45) (.tmp 48) 24 43 (.agg #[(.int .i64 0),(.int .i64 0),(.string ⟨#[]⟩)]) 32 rfl Tryz.underlying24 info43 rfl (by decide) (by omega) u5 x5_1 (⟨3,0,t255⟩:S43) [.int .i64 3,.int .i64 0,.string t255] (fun _ => True) (fun _ => False) rfl rfl ?aP (fun _ hk => hk.elim) ?aF ?aO ?aB ?aS ?aL ?_;(case aP => exact k43_mkM _ _ _ (⟨3,0,t255⟩:S43));(case aB => exact q24_);(case aF => exact (fun _ _ => trivial));(case aO => exact q41_);(case aS => exact (below_size q24_));(case aL => have:=LMc18.out;omega);intro v264 w22 ho hb hg hat;rw [← Ny263.out] at ho;have n0_:=Aside0.mk (Kd.R_over' q35_ (Kd.R_typed q41_) (by decide) hg);have n1_:=Aside0.mk (Kd.R_over' q36_ (Kd.R_typed q41_) (by decide) hg);have n2_:=Aside0.mk (hb);have n3_:=Aside0.mk (ho);clear HO_19;clear HO261;clear HB;clear HO_5;have HO_19:=n0_;have HO261:=n1_;have HB:=n2_;have HO265:=n3_;clear n0_ n1_ n2_ n3_;clear ho hb hg hat))
     go_roundg k1
     case measure => have:=HK1.out;omega
     case rel => exact ⟨(y263),(wrap64 (x21_1 + 1)),q31_,H',⟨by have:=HK1.out;omega⟩,⟨by (with_reducible repeat (first | apply Kd.R_alloc | apply Kd.R_drewN | apply Kd.R_drew));exact HO265.out⟩,⟨q23_⟩,⟨q24_⟩⟩
    try simp only [errW_none,errW_some]
    go_wp2_with (first | ((with_reducible refine gate_callee (f:=17) rfl ?_);refine goesL_ (some 27) rfl rfl Tryz.func17 (by kernel_rfl) rfl #[.string (rdOf ByteArray.empty t248 x21_1),.string (⟨#[35]⟩:ByteArray)] rfl q22_ ?_;(with_reducible refine (strings_CutPrefix.calls (rdOf ByteArray.empty t248 x21_1) (⟨#[35]⟩:ByteArray) t255 true _ A13.out).mono ?_);rintro e w' ⟨rfl,⟨nd,rfl⟩⟩;refine ⟨_,rfl,?_⟩) | ((with_reducible refine gate_callee (f:=18) rfl ?_);refine goesL_ (some 32) rfl rfl Tryz.func18 (by kernel_rfl) rfl #[.string (rdOf ByteArray.empty t248 x21_1),.int .i64 10,.int .i64 64] rfl q22_ ?_;(with_reducible refine (strconv_ParseInt.calls_some (rdOf ByteArray.empty t248 x21_1) 10 64 t257 qt258e _ A14.out).mono ?_);rintro e w19 ⟨gN_,rfl,hb⟩;refine ⟨_,rfl,?_⟩;have n0_:=Aside0.mk (Kd.R_below q41_ hb);have n1_:=Aside0.mk (Kd.R_below q35_ hb);have n2_:=Aside0.mk (below_step q24_ hb);clear HO_5;clear HO_19;clear HB;have HO_5:=n0_;have HO_19:=n1_;have HB:=n2_;clear n0_ n1_ n2_;(try clear hb);(try simp only [errW_none,errW_some])) | ((with_reducible refine gate_callee (f:=20) rfl ?_);refine goesL_ (some 35) rfl rfl Tryz.func20 (by kernel_rfl) rfl #[] rfl q22_ ?_;(with_reducible refine (impl_opWords.calls  t259 _ A15.out).mono ?_);rintro e w20 ⟨v260,rfl,ho0,hb⟩;refine ⟨_,rfl,?_⟩;have n0_:=Aside0.mk (Kd.R_below q41_ hb);have n1_:=Aside0.mk (Kd.R_elder' q35_ (Kd.R_base ho0) hb);have n2_:=Aside0.mk (Kd.R_lower (Kd.R_new' ho0 (Kd.R_lt q35_)) (below_size q24_));have n3_:=Aside0.mk (below_step q24_ hb);clear HO_5;clear HO_19;clear HB;have HO_5:=n0_;have HO_19:=n1_;have HO261:=n2_;have HB:=n3_;clear n0_ n1_ n2_ n3_;(try clear hb);(try clear ho0);obtain ⟨Ao21,co21,eo21⟩:=Kd.R_slice HO261.out;subst eo21) | ((with_reducible refine gate_callee (f:=19) rfl ?_);refine goesL_ (some 37) rfl rfl Tryz.func19 (by kernel_rfl) rfl #[.slice Ao21 t259.length co21,.string (rdOf ByteArray.empty t248 x21_1)] rfl q22_ ?_;(with_reducible refine (slices_Index_string_string.calls k1 _ _ t259 (rdOf ByteArray.empty t248 x21_1) t262 _ ?side1 ?side2 A16.out).mono ?_);(case side1 => exact q52_);(case side2 => exact (Kd.R_reads' HO261.out).2.1);rintro e w' ⟨rfl,⟨nd,rfl⟩⟩;refine ⟨_,rfl,?_⟩) | ((with_reducible refine gate_builtin (b:=.append) (xs:=#[.tmp 45,.tmp 48]) rfl ?_);at_builtin;refine Kd.R_append k43 (w0:=w) w.heap.size rfl (.tmp 45) (.tmp 48) 24 43 (.agg #[(.int .i64 0),(.int .i64 0),(.string ⟨#[]⟩)]) 32 rfl Tryz.underlying24 info43 rfl (by decide) (by omega) u5 x5_1 (⟨3,0,t255⟩:S43) [.int .i64 3,.int .i64 0,.string t255] (fun _ => True) (fun _ => False) rfl rfl ?aP (fun _ hk => hk.elim) ?aF ?aO ?aB ?aS ?aL ?_;(case aP => exact k43_mkM _ _ _ (⟨3,0,t255⟩:S43));(case aB => exact q24_);(case aF => exact (fun _ _ => trivial));(case aO => exact q41_);(case aS => exact (below_size q24_));(case aL => have:=LMc18.out;omega);intro v264 w22 ho hb hg hat;rw [← Ny263.out] at ho;have n0_:=Aside0.mk (Kd.R_over' q35_ (Kd.R_typed q41_) (by decide) hg);have n1_:=Aside0.mk (Kd.R_over' q36_ (Kd.R_typed q41_) (by decide) hg);have n2_:=Aside0.mk (hb);have n3_:=Aside0.mk (ho);clear HO_19;clear HO261;clear HB;clear HO_5;have HO_19:=n0_;have HO261:=n1_;have HB:=n2_;have HO265:=n3_;clear n0_ n1_ n2_ n3_;clear ho hb hg hat))
    go_roundg k1
    case measure => have:=HK1.out;omega
    case rel => exact ⟨(y263),(wrap64 (x21_1 + 1)),q31_,H',⟨by have:=HK1.out;omega⟩,⟨by (with_reducible repeat (first | apply Kd.R_alloc | apply Kd.R_drewN | apply Kd.R_drew));exact HO265.out⟩,⟨q23_⟩,⟨q24_⟩⟩
   replace c17:=Bool.eq_false_iff.mpr c17
   subst c17
   rewrite [if_neg (show ¬ (false = true) by decide)] at H
   by_cases c23:t262 ≥ 0
   ·rw [if_pos c23] at H
    have c23b0:decide (0 ≤ t262) = true:=decide_eq_true c23
    clear c23
    by_cases c24:x5_1.length < 4398046511104
    rotate_left
    ·rw [if_neg c24] at H
     exact absurd H (by simp)
    rw [if_pos c24] at H
    have LMc24:=Aside0.mk c24
    clear c24
    obtain ⟨y266,hy266⟩:∃ y_:List (S43),y_ = (x5_1 ++ [(⟨wrap64 (4 + t262),0,(⟨#[]⟩:ByteArray)⟩:S43)]):=⟨_,rfl⟩
    replace H:(impl_ReadExpr.l0 k1 a0 y266 t248 (t248.length:Int) (wrap64 (x21_1 + 1))) = some (r1,r2):=by first | (rw [hy266];exact H) | exact H
    have Ny266:=Aside0.mk hy266
    clear hy266
    have H':=Aside0.mk H
    clear H
    have p254:0 ≤ (x21_1:Int):=of_decide_eq_true q46_
    have q254:x21_1 < (t248.length:Int):=of_decide_eq_true q46_
    obtain ⟨ad254,e254,hx254_0⟩:=Kd.at_string (Kd.R_reads' HO_19.out).2.2 x21_1 p254 q254
    cases e254
    replace p254:=eq_true p254
    replace q254:=eq_true q254
    rcases t258 with _ | qt258e
    ·try simp only [errW_none,errW_some]
     go_wp2_with (first | ((with_reducible refine gate_callee (f:=17) rfl ?_);refine goesL_ (some 27) rfl rfl Tryz.func17 (by kernel_rfl) rfl #[.string (rdOf ByteArray.empty t248 x21_1),.string (⟨#[35]⟩:ByteArray)] rfl q22_ ?_;(with_reducible refine (strings_CutPrefix.calls (rdOf ByteArray.empty t248 x21_1) (⟨#[35]⟩:ByteArray) t255 false _ A13.out).mono ?_);rintro e w' ⟨rfl,⟨nd,rfl⟩⟩;refine ⟨_,rfl,?_⟩) | ((with_reducible refine gate_callee (f:=18) rfl ?_);refine goesL_ (some 32) rfl rfl Tryz.func18 (by kernel_rfl) rfl #[.string (rdOf ByteArray.empty t248 x21_1),.int .i64 10,.int .i64 64] rfl q22_ ?_;(with_reducible refine (strconv_ParseInt.calls_none (rdOf ByteArray.empty t248 x21_1) 10 64 t257 _ A14.out).mono ?_);rintro e w25 ⟨rfl,hb⟩;refine ⟨_,rfl,?_⟩;have n0_:=Aside0.mk (Kd.R_below q41_ hb);have n1_:=Aside0.mk (Kd.R_below q35_ hb);have n2_:=Aside0.mk (below_step q24_ hb);clear HO_5;clear HO_19;clear HB;have HO_5:=n0_;have HO_19:=n1_;have HB:=n2_;clear n0_ n1_ n2_;(try clear hb);(try simp only [errW_none,errW_some])) | ((with_reducible refine gate_callee (f:=20) rfl ?_);refine goesL_ (some 35) rfl rfl Tryz.func20 (by kernel_rfl) rfl #[] rfl q22_ ?_;(with_reducible refine (impl_opWords.calls  t259 _ A15.out).mono ?_);rintro e w26 ⟨v260,rfl,ho0,hb⟩;refine ⟨_,rfl,?_⟩;have n0_:=Aside0.mk (Kd.R_below q41_ hb);have n1_:=Aside0.mk (Kd.R_elder' q35_ (Kd.R_base ho0) hb);have n2_:=Aside0.mk (Kd.R_lower (Kd.R_new' ho0 (Kd.R_lt q35_)) (below_size q24_));have n3_:=Aside0.mk (below_step q24_ hb);clear HO_5;clear HO_19;clear HB;have HO_5:=n0_;have HO_19:=n1_;have HO261:=n2_;have HB:=n3_;clear n0_ n1_ n2_ n3_;(try clear hb);(try clear ho0);obtain ⟨Ao27,co27,eo27⟩:=Kd.R_slice HO261.out;subst eo27) | ((with_reducible refine gate_callee (f:=19) rfl ?_);refine goesL_ (some 37) rfl rfl Tryz.func19 (by kernel_rfl) rfl #[.slice Ao27 t259.length co27,.string (rdOf ByteArray.empty t248 x21_1)] rfl q22_ ?_;(with_reducible refine (slices_Index_string_string.calls k1 _ _ t259 (rdOf ByteArray.empty t248 x21_1) t262 _ ?side1 ?side2 A16.out).mono ?_);(case side1 => exact q52_);(case side2 => exact (Kd.R_reads' HO261.out).2.1);rintro e w' ⟨rfl,⟨nd,rfl⟩⟩;refine ⟨_,rfl,?_⟩) | ((with_reducible refine gate_builtin (b:=.append) (xs:=#[.tmp 53,.tmp 57]) rfl ?_);at_builtin;refine Kd.R_append k43 (w0:=w) w.heap.size rfl (.tmp 53) (.tmp 57) 24 43 (.agg #[(.int .i64 0),(.int .i64 0),(.string ⟨#[]⟩)]) 32 rfl Tryz.underlying24 info43 rfl (by decide) (by omega) u5 x5_1 (⟨wrap64 (4 + t262),0,(⟨#[]⟩:ByteArray)⟩:S43) [.int .i64 (wrap64 (4 + t262)),.int .i64 0,.string (⟨#[]⟩:ByteArray)] (fun _ => True) (fun _ => False) rfl rfl ?aP (fun _ hk => hk.elim) ?aF ?aO ?aB ?aS ?aL ?_;(case aP => exact k43_mkM _ _ _ (⟨wrap64 (4 + t262),0,(⟨#[]⟩:ByteArray)⟩:S43));(case aB => exact q24_);(case aF => exact (fun _ _ => trivial));(case aO => exact q41_);(case aS => exact (below_size q24_));(case aL => have:=LMc24.out;omega);intro v267 w28 ho hb hg hat;rw [← Ny266.out] at ho;have n0_:=Aside0.mk (Kd.R_over' q35_ (Kd.R_typed q41_) (by decide) hg);have n1_:=Aside0.mk (Kd.R_over' q36_ (Kd.R_typed q41_) (by decide) hg);have n2_:=Aside0.mk (hb);have n3_:=Aside0.mk (ho);clear HO_19;clear HO261;clear HB;clear HO_5;have HO_19:=n0_;have HO261:=n1_;have HB:=n2_;have HO268:=n3_;clear n0_ n1_ n2_ n3_;clear ho hb hg hat))
     go_roundg k1
     case measure => have:=HK1.out;omega
     case rel => exact ⟨(y266),(wrap64 (x21_1 + 1)),q31_,H',⟨by have:=HK1.out;omega⟩,⟨by (with_reducible repeat (first | apply Kd.R_alloc | apply Kd.R_drewN | apply Kd.R_drew));exact HO268.out⟩,⟨q23_⟩,⟨q24_⟩⟩
    try simp only [errW_none,errW_some]
    go_wp2_with (first | ((with_reducible refine gate_callee (f:=17) rfl ?_);refine goesL_ (some 27) rfl rfl Tryz.func17 (by kernel_rfl) rfl #[.string (rdOf ByteArray.empty t248 x21_1),.string (⟨#[35]⟩:ByteArray)] rfl q22_ ?_;(with_reducible refine (strings_CutPrefix.calls (rdOf ByteArray.empty t248 x21_1) (⟨#[35]⟩:ByteArray) t255 false _ A13.out).mono ?_);rintro e w' ⟨rfl,⟨nd,rfl⟩⟩;refine ⟨_,rfl,?_⟩) | ((with_reducible refine gate_callee (f:=18) rfl ?_);refine goesL_ (some 32) rfl rfl Tryz.func18 (by kernel_rfl) rfl #[.string (rdOf ByteArray.empty t248 x21_1),.int .i64 10,.int .i64 64] rfl q22_ ?_;(with_reducible refine (strconv_ParseInt.calls_some (rdOf ByteArray.empty t248 x21_1) 10 64 t257 qt258e _ A14.out).mono ?_);rintro e w25 ⟨gN_,rfl,hb⟩;refine ⟨_,rfl,?_⟩;have n0_:=Aside0.mk (Kd.R_below q41_ hb);have n1_:=Aside0.mk (Kd.R_below q35_ hb);have n2_:=Aside0.mk (below_step q24_ hb);clear HO_5;clear HO_19;clear HB;have HO_5:=n0_;have HO_19:=n1_;have HB:=n2_;clear n0_ n1_ n2_;(try clear hb);(try simp only [errW_none,errW_some])) | ((with_reducible refine gate_callee (f:=20) rfl ?_);refine goesL_ (some 35) rfl rfl Tryz.func20 (by kernel_rfl) rfl #[] rfl q22_ ?_;(with_reducible refine (impl_opWords.calls  t259 _ A15.out).mono ?_);rintro e w26 ⟨v260,rfl,ho0,hb⟩;refine ⟨_,rfl,?_⟩;have n0_:=Aside0.mk (Kd.R_below q41_ hb);have n1_:=Aside0.mk (Kd.R_elder' q35_ (Kd.R_base ho0) hb);have n2_:=Aside0.mk (Kd.R_lower (Kd.R_new' ho0 (Kd.R_lt q35_)) (below_size q24_));have n3_:=Aside0.mk (below_step q24_ hb);clear HO_5;clear HO_19;clear HB;have HO_5:=n0_;have HO_19:=n1_;have HO261:=n2_;have HB:=n3_;clear n0_ n1_ n2_ n3_;(try clear hb);(try clear ho0);obtain ⟨Ao27,co27,eo27⟩:=Kd.R_slice HO261.out;subst eo27) | ((with_reducible refine gate_callee (f:=19) rfl ?_);refine goesL_ (some 37) rfl rfl Tryz.func19 (by kernel_rfl) rfl #[.slice Ao27 t259.length co27,.string (rdOf ByteArray.empty t248 x21_1)] rfl q22_ ?_;(with_reducible refine (slices_Index_string_string.calls k1 _ _ t259 (rdOf ByteArray.empty t248 x21_1) t262 _ ?side1 ?side2 A16.out).mono ?_);(case side1 => exact q52_);(case side2 => exact (Kd.R_reads' HO261.out).2.1);rintro e w' ⟨rfl,⟨nd,rfl⟩⟩;refine ⟨_,rfl,?_⟩) | ((with_reducible refine gate_builtin (b:=.append) (xs:=#[.tmp 53,.tmp 57]) rfl ?_);at_builtin;refine Kd.R_append k43 (w0:=w) w.heap.size rfl (.tmp 53) (.tmp 57) 24 43 (.agg #[(.int .i64 0),(.int .i64 0),(.string ⟨#[]⟩)]) 32 rfl Tryz.underlying24 info43 rfl (by decide) (by omega) u5 x5_1 (⟨wrap64 (4 + t262),0,(⟨#[]⟩:ByteArray)⟩:S43) [.int .i64 (wrap64 (4 + t262)),.int .i64 0,.string (⟨#[]⟩:ByteArray)] (fun _ => True) (fun _ => False) rfl rfl ?aP (fun _ hk => hk.elim) ?aF ?aO ?aB ?aS ?aL ?_;(case aP => exact k43_mkM _ _ _ (⟨wrap64 (4 + t262),0,(⟨#[]⟩:ByteArray)⟩:S43));(case aB => exact q24_);(case aF => exact (fun _ _ => trivial));(case aO => exact q41_);(case aS => exact (below_size q24_));(case aL => have:=LMc24.out;omega);intro v267 w28 ho hb hg hat;rw [← Ny266.out] at ho;have n0_:=Aside0.mk (Kd.R_over' q35_ (Kd.R_typed q41_) (by decide) hg);have n1_:=Aside0.mk (Kd.R_over' q36_ (Kd.R_typed q41_) (by decide) hg);have n2_:=Aside0.mk (hb);have n3_:=Aside0.mk (ho);clear HO_19;clear HO261;clear HB;clear HO_5;have HO_19:=n0_;have HO261:=n1_;have HB:=n2_;have HO268:=n3_;clear n0_ n1_ n2_ n3_;clear ho hb hg hat))
    go_roundg k1
    case measure => have:=HK1.out;omega
    case rel => exact ⟨(y266),(wrap64 (x21_1 + 1)),q31_,H',⟨by have:=HK1.out;omega⟩,⟨by (with_reducible repeat (first | apply Kd.R_alloc | apply Kd.R_drewN | apply Kd.R_drew));exact HO268.out⟩,⟨q23_⟩,⟨q24_⟩⟩
   rw [if_neg c23] at H
   have c23b0:decide (0 ≤ t262) = false:=decide_eq_false c23
   clear c23
   rcases t258 with _ | q269
   ·have H1:(if x5_1.length < 4398046511104 then (impl_ReadExpr.l0 k1 a0 (x5_1 ++ [(⟨1,t257,(⟨#[]⟩:ByteArray)⟩:S43)]) t248 (t248.length:Int) (wrap64 (x21_1 + 1))) else (none)) = some (r1,r2):=by rw [if_pos (show (none:Option Int).isNone = true by rfl)] at H;exact H
    clear H
    have H:=H1
    clear H1
    try simp only [errW_none,errW_some]
    by_cases c29:x5_1.length < 4398046511104
    rotate_left
    ·rw [if_neg c29] at H
     exact absurd H (by simp)
    rw [if_pos c29] at H
    have LMc29:=Aside0.mk c29
    clear c29
    obtain ⟨y270,hy270⟩:∃ y_:List (S43),y_ = (x5_1 ++ [(⟨1,t257,(⟨#[]⟩:ByteArray)⟩:S43)]):=⟨_,rfl⟩
    replace H:(impl_ReadExpr.l0 k1 a0 y270 t248 (t248.length:Int) (wrap64 (x21_1 + 1))) = some (r1,r2):=by first | (rw [hy270];exact H) | exact H
    have Ny270:=Aside0.mk hy270
    clear hy270
    have H':=Aside0.mk H
    clear H
    have p254:0 ≤ (x21_1:Int):=of_decide_eq_true q46_
    have q254:x21_1 < (t248.length:Int):=of_decide_eq_true q46_
    obtain ⟨ad254,e254,hx254_0⟩:=Kd.at_string (Kd.R_reads' HO_19.out).2.2 x21_1 p254 q254
    cases e254
    replace p254:=eq_true p254
    replace q254:=eq_true q254
    go_wp2_with (first | ((with_reducible refine gate_callee (f:=17) rfl ?_);refine goesL_ (some 27) rfl rfl Tryz.func17 (by kernel_rfl) rfl #[.string (rdOf ByteArray.empty t248 x21_1),.string (⟨#[35]⟩:ByteArray)] rfl q22_ ?_;(with_reducible refine (strings_CutPrefix.calls (rdOf ByteArray.empty t248 x21_1) (⟨#[35]⟩:ByteArray) t255 false _ A13.out).mono ?_);rintro e w' ⟨rfl,⟨nd,rfl⟩⟩;refine ⟨_,rfl,?_⟩) | ((with_reducible refine gate_callee (f:=18) rfl ?_);refine goesL_ (some 32) rfl rfl Tryz.func18 (by kernel_rfl) rfl #[.string (rdOf ByteArray.empty t248 x21_1),.int .i64 10,.int .i64 64] rfl q22_ ?_;(with_reducible refine (strconv_ParseInt.calls_none (rdOf ByteArray.empty t248 x21_1) 10 64 t257 _ A14.out).mono ?_);rintro e w30 ⟨rfl,hb⟩;refine ⟨_,rfl,?_⟩;have n0_:=Aside0.mk (Kd.R_below q41_ hb);have n1_:=Aside0.mk (Kd.R_below q35_ hb);have n2_:=Aside0.mk (below_step q24_ hb);clear HO_5;clear HO_19;clear HB;have HO_5:=n0_;have HO_19:=n1_;have HB:=n2_;clear n0_ n1_ n2_;(try clear hb);(try simp only [errW_none,errW_some])) | ((with_reducible refine gate_callee (f:=20) rfl ?_);refine goesL_ (some 35) rfl rfl Tryz.func20 (by kernel_rfl) rfl #[] rfl q22_ ?_;(with_reducible refine (impl_opWords.calls  t259 _ A15.out).mono ?_);rintro e w31 ⟨v260,rfl,ho0,hb⟩;refine ⟨_,rfl,?_⟩;have n0_:=Aside0.mk (Kd.R_below q41_ hb);have n1_:=Aside0.mk (Kd.R_elder' q35_ (Kd.R_base ho0) hb);have n2_:=Aside0.mk (Kd.R_lower (Kd.R_new' ho0 (Kd.R_lt q35_)) (below_size q24_));have n3_:=Aside0.mk (below_step q24_ hb);clear HO_5;clear HO_19;clear HB;have HO_5:=n0_;have HO_19:=n1_;have HO261:=n2_;have HB:=n3_;clear n0_ n1_ n2_ n3_;(try clear hb);(try clear ho0);obtain ⟨Ao32,co32,eo32⟩:=Kd.R_slice HO261.out;subst eo32) | ((with_reducible refine gate_callee (f:=19) rfl ?_);refine goesL_ (some 37) rfl rfl Tryz.func19 (by kernel_rfl) rfl #[.slice Ao32 t259.length co32,.string (rdOf ByteArray.empty t248 x21_1)] rfl q22_ ?_;(with_reducible refine (slices_Index_string_string.calls k1 _ _ t259 (rdOf ByteArray.empty t248 x21_1) t262 _ ?side1 ?side2 A16.out).mono ?_);(case side1 => exact q52_);(case side2 => exact (Kd.R_reads' HO261.out).2.1);rintro e w' ⟨rfl,⟨nd,rfl⟩⟩;refine ⟨_,rfl,?_⟩) | ((with_reducible refine gate_builtin (b:=.append) (xs:=#[.tmp 62,.tmp 65]) rfl ?_);at_builtin;refine Kd.R_append k43 (w0:=w) w.heap.size rfl (.tmp 62) (.tmp 65) 24 43 (.agg #[(.int .i64 0),(.int .i64 0),(.string ⟨#[]⟩)]) 32 rfl Tryz.underlying24 info43 rfl (by decide) (by omega) u5 x5_1 (⟨1,t257,(⟨#[]⟩:ByteArray)⟩:S43) [.int .i64 1,.int .i64 t257,.string (⟨#[]⟩:ByteArray)] (fun _ => True) (fun _ => False) rfl rfl ?aP (fun _ hk => hk.elim) ?aF ?aO ?aB ?aS ?aL ?_;(case aP => exact k43_mkM _ _ _ (⟨1,t257,(⟨#[]⟩:ByteArray)⟩:S43));(case aB => exact q24_);(case aF => exact (fun _ _ => trivial));(case aO => exact q41_);(case aS => exact (below_size q24_));(case aL => have:=LMc29.out;omega);intro v271 w33 ho hb hg hat;rw [← Ny270.out] at ho;have n0_:=Aside0.mk (Kd.R_over' q35_ (Kd.R_typed q41_) (by decide) hg);have n1_:=Aside0.mk (Kd.R_over' q36_ (Kd.R_typed q41_) (by decide) hg);have n2_:=Aside0.mk (hb);have n3_:=Aside0.mk (ho);clear HO_19;clear HO261;clear HB;clear HO_5;have HO_19:=n0_;have HO261:=n1_;have HB:=n2_;have HO272:=n3_;clear n0_ n1_ n2_ n3_;clear ho hb hg hat))
    go_roundg k1
    case measure => have:=HK1.out;omega
    case rel => exact ⟨(y270),(wrap64 (x21_1 + 1)),q31_,H',⟨by have:=HK1.out;omega⟩,⟨by (with_reducible repeat (first | apply Kd.R_alloc | apply Kd.R_drewN | apply Kd.R_drew));exact HO272.out⟩,⟨q23_⟩,⟨q24_⟩⟩
   have H1:(if x5_1.length < 4398046511104 then (impl_ReadExpr.l0 k1 a0 (x5_1 ++ [(⟨2,0,rdOf ByteArray.empty t248 x21_1⟩:S43)]) t248 (t248.length:Int) (wrap64 (x21_1 + 1))) else (none)) = some (r1,r2):=by rw [if_neg (show ¬ (some q269).isNone = true by simp)] at H;exact H
   clear H
   have H:=H1
   clear H1
   try simp only [errW_none,errW_some]
   by_cases c34:x5_1.length < 4398046511104
   rotate_left
   ·rw [if_neg c34] at H
    exact absurd H (by simp)
   rw [if_pos c34] at H
   have LMc34:=Aside0.mk c34
   clear c34
   obtain ⟨y273,hy273⟩:∃ y_:List (S43),y_ = (x5_1 ++ [(⟨2,0,rdOf ByteArray.empty t248 x21_1⟩:S43)]):=⟨_,rfl⟩
   replace H:(impl_ReadExpr.l0 k1 a0 y273 t248 (t248.length:Int) (wrap64 (x21_1 + 1))) = some (r1,r2):=by first | (rw [hy273];exact H) | exact H
   have Ny273:=Aside0.mk hy273
   clear hy273
   have H':=Aside0.mk H
   clear H
   have p254:0 ≤ (x21_1:Int):=of_decide_eq_true q46_
   have q254:x21_1 < (t248.length:Int):=of_decide_eq_true q46_
   obtain ⟨ad254,e254,hx254_0⟩:=Kd.at_string (Kd.R_reads' HO_19.out).2.2 x21_1 p254 q254
   cases e254
   replace p254:=eq_true p254
   replace q254:=eq_true q254
   go_wp2_with (first | ((with_reducible refine gate_callee (f:=17) rfl ?_);refine goesL_ (some 27) rfl rfl Tryz.func17 (by kernel_rfl) rfl #[.string (rdOf ByteArray.empty t248 x21_1),.string (⟨#[35]⟩:ByteArray)] rfl q22_ ?_;(with_reducible refine (strings_CutPrefix.calls (rdOf ByteArray.empty t248 x21_1) (⟨#[35]⟩:ByteArray) t255 false _ A13.out).mono ?_);rintro e w' ⟨rfl,⟨nd,rfl⟩⟩;refine ⟨_,rfl,?_⟩) | ((with_reducible refine gate_callee (f:=18) rfl ?_);refine goesL_ (some 32) rfl rfl Tryz.func18 (by kernel_rfl) rfl #[.string (rdOf ByteArray.empty t248 x21_1),.int .i64 10,.int .i64 64] rfl q22_ ?_;(with_reducible refine (strconv_ParseInt.calls_some (rdOf ByteArray.empty t248 x21_1) 10 64 t257 q269 _ A14.out).mono ?_);rintro e w35 ⟨gN_,rfl,hb⟩;refine ⟨_,rfl,?_⟩;have n0_:=Aside0.mk (Kd.R_below q41_ hb);have n1_:=Aside0.mk (Kd.R_below q35_ hb);have n2_:=Aside0.mk (below_step q24_ hb);clear HO_5;clear HO_19;clear HB;have HO_5:=n0_;have HO_19:=n1_;have HB:=n2_;clear n0_ n1_ n2_;(try clear hb);(try simp only [errW_none,errW_some])) | ((with_reducible refine gate_callee (f:=20) rfl ?_);refine goesL_ (some 35) rfl rfl Tryz.func20 (by kernel_rfl) rfl #[] rfl q22_ ?_;(with_reducible refine (impl_opWords.calls  t259 _ A15.out).mono ?_);rintro e w36 ⟨v260,rfl,ho0,hb⟩;refine ⟨_,rfl,?_⟩;have n0_:=Aside0.mk (Kd.R_below q41_ hb);have n1_:=Aside0.mk (Kd.R_elder' q35_ (Kd.R_base ho0) hb);have n2_:=Aside0.mk (Kd.R_lower (Kd.R_new' ho0 (Kd.R_lt q35_)) (below_size q24_));have n3_:=Aside0.mk (below_step q24_ hb);clear HO_5;clear HO_19;clear HB;have HO_5:=n0_;have HO_19:=n1_;have HO261:=n2_;have HB:=n3_;clear n0_ n1_ n2_ n3_;(try clear hb);(try clear ho0);obtain ⟨Ao37,co37,eo37⟩:=Kd.R_slice HO261.out;subst eo37) | ((with_reducible refine gate_callee (f:=19) rfl ?_);refine goesL_ (some 37) rfl rfl Tryz.func19 (by kernel_rfl) rfl #[.slice Ao37 t259.length co37,.string (rdOf ByteArray.empty t248 x21_1)] rfl q22_ ?_;(with_reducible refine (slices_Index_string_string.calls k1 _ _ t259 (rdOf ByteArray.empty t248 x21_1) t262 _ ?side1 ?side2 A16.out).mono ?_);(case side1 => exact q52_);(case side2 => exact (Kd.R_reads' HO261.out).2.1);rintro e w' ⟨rfl,⟨nd,rfl⟩⟩;refine ⟨_,rfl,?_⟩) | ((with_reducible refine gate_builtin (b:=.append) (xs:=#[.tmp 38,.tmp 41]) rfl ?_);at_builtin;refine Kd.R_append k43 (w0:=w) w.heap.size rfl (.tmp 38) (.tmp 41) 24 43 (.agg #[(.int .i64 0),(.int .i64 0),(.string ⟨#[]⟩)]) 32 rfl Tryz.underlying24 info43 rfl (by decide) (by omega) u5 x5_1 (⟨2,0,rdOf ByteArray.empty t248 x21_1⟩:S43) [.int .i64 2,.int .i64 0,.string (rdOf ByteArray.empty t248 x21_1)] (fun _ => True) (fun _ => False) rfl rfl ?aP (fun _ hk => hk.elim) ?aF ?aO ?aB ?aS ?aL ?_;(case aP => exact k43_mkM _ _ _ (⟨2,0,rdOf ByteArray.empty t248 x21_1⟩:S43));(case aB => exact q24_);(case aF => exact (fun _ _ => trivial));(case aO => exact q41_);(case aS => exact (below_size q24_));(case aL => have:=LMc34.out;omega);intro v274 w38 ho hb hg hat;rw [← Ny273.out] at ho;have n0_:=Aside0.mk (Kd.R_over' q35_ (Kd.R_typed q41_) (by decide) hg);have n1_:=Aside0.mk (Kd.R_over' q36_ (Kd.R_typed q41_) (by decide) hg);have n2_:=Aside0.mk (hb);have n3_:=Aside0.mk (ho);clear HO_19;clear HO261;clear HB;clear HO_5;have HO_19:=n0_;have HO261:=n1_;have HB:=n2_;have HO275:=n3_;clear n0_ n1_ n2_ n3_;clear ho hb hg hat))
   go_roundg k1
   case measure => have:=HK1.out;omega
   case rel => exact ⟨(y273),(wrap64 (x21_1 + 1)),q31_,H',⟨by have:=HK1.out;omega⟩,⟨by (with_reducible repeat (first | apply Kd.R_alloc | apply Kd.R_drewN | apply Kd.R_drew));exact HO275.out⟩,⟨q23_⟩,⟨q24_⟩⟩
  rw [if_neg c10] at H
  have c10b0:=decide_eq_false c10
  clear c10
  replace H:=Option.bind_eq_some_iff.mp H
  obtain ⟨t276,A390,H⟩:=H
  have A39:=Aside0.mk A390
  clear A390
  by_cases c40:t276 = true
  ·subst c40
   rewrite [if_pos rfl] at H
   replace H:=Option.bind_eq_some_iff.mp H
   obtain ⟨t277,A410,H⟩:=H
   have A41:=Aside0.mk A410
   clear A410
   by_cases c42:t277.toList = a0.toList
   ·rw [if_pos c42] at H
    have c42b0:(t277.toList == a0.toList) = true:=beq_iff_eq.mpr c42
    have c42b1:(t277.toList != a0.toList) = false:=bne_eq_false_iff_eq.mpr c42
    clear c42
    simp only [Option.some.injEq,Prod.mk.injEq] at H
    obtain ⟨rfl,rfl⟩:=H
    obtain ⟨Ao43,co43,eo43⟩:=Kd.R_slice HO_5.out
    subst eo43
    go_wp2_with (first | ((with_reducible refine gate_callee (f:=9) rfl ?_);refine goesL_ (some 69) rfl rfl Tryz.func9 (by kernel_rfl) rfl #[.slice Ao43 x5_1.length co43] rfl q22_ ?_;(with_reducible refine (impl_ExprOk.calls k1 _ _ x5_1 true _ ?side1 ?side2 A39.out).mono ?_);(case side1 => exact q54_);(case side2 => exact (Kd.R_reads' HO_5.out).2.1);rintro e w44 ⟨rfl,hb⟩;refine ⟨_,rfl,?_⟩;have n0_:=Aside0.mk (Kd.R_below q41_ hb);have n1_:=Aside0.mk (Kd.R_below q35_ hb);have n2_:=Aside0.mk (below_step q24_ hb);clear HO_5;clear HO_19;clear HB;have HO_5:=n0_;have HO_19:=n1_;have HB:=n2_;clear n0_ n1_ n2_;(try clear hb)) | (go_at_call 15;(with_reducible refine (impl_exprText.calls k1 _ _ x5_1 t277 _ ?side1 ?side2 A41.out).mono ?_);(case side1 => exact q54_);(case side2 => exact (Kd.R_reads' HO_5.out).2.1);rintro e w45 ⟨rfl,hb⟩;have n0_:=Aside0.mk (Kd.R_below q41_ hb);have n1_:=Aside0.mk (Kd.R_below q35_ hb);have n2_:=Aside0.mk (below_step q24_ hb);clear HO_5;clear HO_19;clear HB;have HO_5:=n0_;have HO_19:=n1_;have HB:=n2_;clear n0_ n1_ n2_;(try clear hb)))
    go_ret2
    exact ⟨_,q26_,q41_,q24_⟩
   rw [if_neg c42] at H
   have c42b0:(t277.toList == a0.toList) = false:=beq_eq_false_iff_ne.mpr c42
   have c42b1:(t277.toList != a0.toList) = true:=bne_iff_ne.mpr c42
   simp only [Option.some.injEq,Prod.mk.injEq] at H
   obtain ⟨rfl,rfl⟩:=H
   obtain ⟨Ao46,co46,eo46⟩:=Kd.R_slice HO_5.out
   subst eo46
   go_wp2_with (first | ((with_reducible refine gate_callee (f:=9) rfl ?_);refine goesL_ (some 69) rfl rfl Tryz.func9 (by kernel_rfl) rfl #[.slice Ao46 x5_1.length co46] rfl q22_ ?_;(with_reducible refine (impl_ExprOk.calls k1 _ _ x5_1 true _ ?side1 ?side2 A39.out).mono ?_);(case side1 => exact q54_);(case side2 => exact (Kd.R_reads' HO_5.out).2.1);rintro e w47 ⟨rfl,hb⟩;refine ⟨_,rfl,?_⟩;have n0_:=Aside0.mk (Kd.R_below q41_ hb);have n1_:=Aside0.mk (Kd.R_below q35_ hb);have n2_:=Aside0.mk (below_step q24_ hb);clear HO_5;clear HO_19;clear HB;have HO_5:=n0_;have HO_19:=n1_;have HB:=n2_;clear n0_ n1_ n2_;(try clear hb)) | (go_at_call 15;(with_reducible refine (impl_exprText.calls k1 _ _ x5_1 t277 _ ?side1 ?side2 A41.out).mono ?_);(case side1 => exact q54_);(case side2 => exact (Kd.R_reads' HO_5.out).2.1);rintro e w48 ⟨rfl,hb⟩;have n0_:=Aside0.mk (Kd.R_below q41_ hb);have n1_:=Aside0.mk (Kd.R_below q35_ hb);have n2_:=Aside0.mk (below_step q24_ hb);clear HO_5;clear HO_19;clear HB;have HO_5:=n0_;have HO_19:=n1_;have HB:=n2_;clear n0_ n1_ n2_;(try clear hb)))
   go_ret2
   exact ⟨_,q26_,q20_,q24_⟩
  replace c40:=Bool.eq_false_iff.mpr c40
  subst c40
  rewrite [if_neg (show ¬ (false = true) by decide)] at H
  simp only [Option.some.injEq,Prod.mk.injEq] at H
  obtain ⟨rfl,rfl⟩:=H
  obtain ⟨Ao49,co49,eo49⟩:=Kd.R_slice HO_5.out
  subst eo49
  go_wp2_with (first | ((with_reducible refine gate_callee (f:=9) rfl ?_);refine goesL_ (some 69) rfl rfl Tryz.func9 (by kernel_rfl) rfl #[.slice Ao49 x5_1.length co49] rfl q22_ ?_;(with_reducible refine (impl_ExprOk.calls k1 _ _ x5_1 false _ ?side1 ?side2 A39.out).mono ?_);(case side1 => exact q54_);(case side2 => exact (Kd.R_reads' HO_5.out).2.1);rintro e w50 ⟨rfl,hb⟩;refine ⟨_,rfl,?_⟩;have n0_:=Aside0.mk (Kd.R_below q41_ hb);have n1_:=Aside0.mk (Kd.R_below q35_ hb);have n2_:=Aside0.mk (below_step q24_ hb);clear HO_5;clear HO_19;clear HB;have HO_5:=n0_;have HO_19:=n1_;have HB:=n2_;clear n0_ n1_ n2_;(try clear hb)))
  go_ret2
  exact ⟨_,q26_,q20_,q24_⟩
def spec_l1In.f (a0:Int) (a1:Int) (a2:Int):Option (Bool):=if a0 ≥ a1 then (some (decide (a0 ≤ a2))) else (some false)
theorem spec_l1In.calls (a0:Int) (a1:Int) (a2:Int) (r:Bool) (w:World) (h:spec_l1In.f a0 a1 a2 = some r) :
  Calls Tryz.prog 40 #[.int .i64 a0,.int .i64 a1,.int .i64 a2] w fun e w' => e = .returned (.bool r) ∧ Drawn0 w w':=by
 have H:=h;unfold spec_l1In.f at H
 clear h
 by_cases c4:a0 ≥ a1
 ·rw [if_pos c4] at H
  have c4b0:decide (a1 ≤ a0) = true:=decide_eq_true c4
  clear c4
  obtain rfl:=Option.some.inj H
  go_enter Tryz.func40,Tryz.ntmps40
  go_wp2
  go_ret
  exact ⟨q31_,q44_⟩
 rw [if_neg c4] at H
 have c4b0:decide (a1 ≤ a0) = false:=decide_eq_false c4
 clear c4
 obtain rfl:=Option.some.inj H
 go_enter Tryz.func40,Tryz.ntmps40
 go_wp2
 go_ret
 exact ⟨q31_,q44_⟩
def spec_l2Takes.f (a0:Int):Option (Int):=(spec_l1In.f a0 1 3).bind fun t278 => (if t278 = true then (some 0) else ((spec_l1In.f a0 4 7).bind fun t279 => (if t279 = true then (some 1) else ((spec_l1In.f a0 8 17).bind fun t280 => (if t280 = true then (some 2) else (some (-1)))))))
theorem spec_l2Takes.calls (a0:Int) (r:Int) (w:World) (h:spec_l2Takes.f a0 = some r) :
  Calls Tryz.prog 25 #[.int .i64 a0] w fun e w' => e = .returned (.int .i64 r) ∧ Drawn0 w w':=by
 have H:=h;unfold spec_l2Takes.f at H
 clear h
 replace H:=Option.bind_eq_some_iff.mp H
 obtain ⟨t278,A20,H⟩:=H
 have A2:=Aside0.mk A20
 clear A20
 by_cases c3:t278 = true
 ·subst c3
  rewrite [if_pos rfl] at H
  obtain rfl:=Option.some.inj H
  go_enter Tryz.func25,Tryz.ntmps25
  go_wp2_with (first | ((with_reducible refine gate_callee (f:=40) rfl ?_);refine goesL_ (some 5) rfl rfl Tryz.func40 (by kernel_rfl) rfl #[.int .i64 a0,.int .i64 1,.int .i64 3] rfl q22_ ?_;(with_reducible refine (spec_l1In.calls a0 1 3 true _ A2.out).mono ?_);rintro e w' ⟨rfl,⟨nd,rfl⟩⟩;refine ⟨_,rfl,?_⟩))
  go_ret
  exact ⟨q31_,q44_⟩
 replace c3:=Bool.eq_false_iff.mpr c3
 subst c3
 rewrite [if_neg (show ¬ (false = true) by decide)] at H
 replace H:=Option.bind_eq_some_iff.mp H
 obtain ⟨t279,A40,H⟩:=H
 have A4:=Aside0.mk A40
 clear A40
 by_cases c5:t279 = true
 ·subst c5
  rewrite [if_pos rfl] at H
  obtain rfl:=Option.some.inj H
  go_enter Tryz.func25,Tryz.ntmps25
  go_wp2_with (first | ((with_reducible refine gate_callee (f:=40) rfl ?_);refine goesL_ (some 5) rfl rfl Tryz.func40 (by kernel_rfl) rfl #[.int .i64 a0,.int .i64 1,.int .i64 3] rfl q22_ ?_;(with_reducible refine (spec_l1In.calls a0 1 3 false _ A2.out).mono ?_);rintro e w' ⟨rfl,⟨nd,rfl⟩⟩;refine ⟨_,rfl,?_⟩) | ((with_reducible refine gate_callee (f:=40) rfl ?_);refine goesL_ (some 8) rfl rfl Tryz.func40 (by kernel_rfl) rfl #[.int .i64 a0,.int .i64 4,.int .i64 7] rfl q22_ ?_;(with_reducible refine (spec_l1In.calls a0 4 7 true _ A4.out).mono ?_);rintro e w' ⟨rfl,⟨nd,rfl⟩⟩;refine ⟨_,rfl,?_⟩))
  go_ret
  exact ⟨q31_,q44_⟩
 replace c5:=Bool.eq_false_iff.mpr c5
 subst c5
 rewrite [if_neg (show ¬ (false = true) by decide)] at H
 replace H:=Option.bind_eq_some_iff.mp H
 obtain ⟨t280,A60,H⟩:=H
 have A6:=Aside0.mk A60
 clear A60
 by_cases c7:t280 = true
 ·subst c7
  rewrite [if_pos rfl] at H
  obtain rfl:=Option.some.inj H
  go_enter Tryz.func25,Tryz.ntmps25
  go_wp2_with (first | ((with_reducible refine gate_callee (f:=40) rfl ?_);refine goesL_ (some 5) rfl rfl Tryz.func40 (by kernel_rfl) rfl #[.int .i64 a0,.int .i64 1,.int .i64 3] rfl q22_ ?_;(with_reducible refine (spec_l1In.calls a0 1 3 false _ A2.out).mono ?_);rintro e w' ⟨rfl,⟨nd,rfl⟩⟩;refine ⟨_,rfl,?_⟩) | ((with_reducible refine gate_callee (f:=40) rfl ?_);refine goesL_ (some 8) rfl rfl Tryz.func40 (by kernel_rfl) rfl #[.int .i64 a0,.int .i64 4,.int .i64 7] rfl q22_ ?_;(with_reducible refine (spec_l1In.calls a0 4 7 false _ A4.out).mono ?_);rintro e w' ⟨rfl,⟨nd,rfl⟩⟩;refine ⟨_,rfl,?_⟩) | ((with_reducible refine gate_callee (f:=40) rfl ?_);refine goesL_ (some 11) rfl rfl Tryz.func40 (by kernel_rfl) rfl #[.int .i64 a0,.int .i64 8,.int .i64 17] rfl q22_ ?_;(with_reducible refine (spec_l1In.calls a0 8 17 true _ A6.out).mono ?_);rintro e w' ⟨rfl,⟨nd,rfl⟩⟩;refine ⟨_,rfl,?_⟩))
  go_ret
  exact ⟨q31_,q44_⟩
 replace c7:=Bool.eq_false_iff.mpr c7
 subst c7
 rewrite [if_neg (show ¬ (false = true) by decide)] at H
 obtain rfl:=Option.some.inj H
 go_enter Tryz.func25,Tryz.ntmps25
 go_wp2_with (first | ((with_reducible refine gate_callee (f:=40) rfl ?_);refine goesL_ (some 5) rfl rfl Tryz.func40 (by kernel_rfl) rfl #[.int .i64 a0,.int .i64 1,.int .i64 3] rfl q22_ ?_;(with_reducible refine (spec_l1In.calls a0 1 3 false _ A2.out).mono ?_);rintro e w' ⟨rfl,⟨nd,rfl⟩⟩;refine ⟨_,rfl,?_⟩) | ((with_reducible refine gate_callee (f:=40) rfl ?_);refine goesL_ (some 8) rfl rfl Tryz.func40 (by kernel_rfl) rfl #[.int .i64 a0,.int .i64 4,.int .i64 7] rfl q22_ ?_;(with_reducible refine (spec_l1In.calls a0 4 7 false _ A4.out).mono ?_);rintro e w' ⟨rfl,⟨nd,rfl⟩⟩;refine ⟨_,rfl,?_⟩) | ((with_reducible refine gate_callee (f:=40) rfl ?_);refine goesL_ (some 11) rfl rfl Tryz.func40 (by kernel_rfl) rfl #[.int .i64 a0,.int .i64 8,.int .i64 17] rfl q22_ ?_;(with_reducible refine (spec_l1In.calls a0 8 17 false _ A6.out).mono ?_);rintro e w' ⟨rfl,⟨nd,rfl⟩⟩;refine ⟨_,rfl,?_⟩))
 go_ret
 exact ⟨q31_,q44_⟩
def spec_l1Letter.f (a0:Int):Option (Bool):=if a0 ≥ 97 then (if a0 ≤ 122 then (some true) else (if a0 = 95 then (some true) else (some (a0 == 46)))) else (if a0 = 95 then (some true) else (some (a0 == 46)))
theorem spec_l1Letter.calls (a0:Int) (r:Bool) (w:World) (h:spec_l1Letter.f a0 = some r) :
  Calls Tryz.prog 63 #[.int .u8 a0] w fun e w' => e = .returned (.bool r) ∧ Drawn0 w w':=by
 have H:=h;unfold spec_l1Letter.f at H
 clear h
 by_cases c2:a0 ≥ 97
 ·rw [if_pos c2] at H
  have c2b0:decide (97 ≤ a0) = true:=decide_eq_true c2
  clear c2
  by_cases c3:a0 ≤ 122
  ·rw [if_pos c3] at H
   have c3b0:=decide_eq_true c3
   clear c3
   obtain rfl:=Option.some.inj H
   go_enter Tryz.func63,Tryz.ntmps63
   go_wp2
   go_ret
   exact ⟨q31_,q44_⟩
  rw [if_neg c3] at H
  have c3b0:=decide_eq_false c3
  clear c3
  by_cases c4:a0 = 95
  ·rw [if_pos c4] at H
   have c4b0:(a0 == 95) = true:=beq_iff_eq.mpr c4
   have c4b1:(a0 != 95) = false:=bne_eq_false_iff_eq.mpr c4
   clear c4
   obtain rfl:=Option.some.inj H
   go_enter Tryz.func63,Tryz.ntmps63
   go_wp2
   go_ret
   exact ⟨q31_,q44_⟩
  rw [if_neg c4] at H
  have c4b0:(a0 == 95) = false:=beq_eq_false_iff_ne.mpr c4
  have c4b1:(a0 != 95) = true:=bne_iff_ne.mpr c4
  obtain rfl:=Option.some.inj H
  go_enter Tryz.func63,Tryz.ntmps63
  go_wp2
  go_ret
  exact ⟨q31_,q44_⟩
 rw [if_neg c2] at H
 have c2b0:decide (97 ≤ a0) = false:=decide_eq_false c2
 clear c2
 by_cases c5:a0 = 95
 ·rw [if_pos c5] at H
  have c5b0:(a0 == 95) = true:=beq_iff_eq.mpr c5
  have c5b1:(a0 != 95) = false:=bne_eq_false_iff_eq.mpr c5
  clear c5
  obtain rfl:=Option.some.inj H
  go_enter Tryz.func63,Tryz.ntmps63
  go_wp2
  go_ret
  exact ⟨q31_,q44_⟩
 rw [if_neg c5] at H
 have c5b0:(a0 == 95) = false:=beq_eq_false_iff_ne.mpr c5
 have c5b1:(a0 != 95) = true:=bne_iff_ne.mpr c5
 obtain rfl:=Option.some.inj H
 go_enter Tryz.func63,Tryz.ntmps63
 go_wp2
 go_ret
 exact ⟨q31_,q44_⟩
end Go.Proofs.YtabbdfchibjndaaGreatDoor.QFnExprTexts
