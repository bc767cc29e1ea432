/- The machine's side of a law,written by a program of this session for this claim. -/
import Derived.Test.YtoiiaklmjpiejaaSFnNamesInQq
import Derived.Test.YtoiiaklmjpiejaaSFnNamesInQFnNamesInx0
import Derived.Test.YtoiiaklmjpiejaaSFnNamesInQFnNamesInx6
namespace Go.Proofs.Ytoiiaklmjpiejaa.QFnNamesIn
open Go.Proofs.Ytoiiaklmjpiejaa.Qq
open Go.RowKit Go.Proofs.Ytoiiaklmjpiejaa.LibX Go.Proofs.Ytoiiaklmjpiejaa.LibG Go.Proofs.Ytoiiaklmjpiejaa.LibCv Go.Proofs.Ytoiiaklmjpiejaa.LibNm Go.Proofs.YtoiiaklmjpiejaaW.PrintWords Go.Proofs.YtoiiaklmjpiejaaW.PrintLast Go.Proofs.YtoiiaklmjpiejaaW.PrintMore
attribute [local go_sem] max2_int min2_int max_two min_two max_three min_three max_four min_four   -- for this text's walks alone
set_option maxHeartbeats 8000000
set_option maxRecDepth 100000
set_option linter.unusedVariables false
set_option linter.unusedSimpArgs false
mutual
def spec_l2Put.j1:Nat → List ByteArray → ByteArray → Int → Option (List ByteArray)
 | 0,_,_,_ => none
 | k + 1,x0,x1,x5 => if x5 < (x0.length:Int) then (if 0 ≤ x5 then (if (rdOf ByteArray.empty x0 x5).toList = x1.toList then (some x0) else ((some (([]:List ByteArray):List ByteArray)).bind fun y238 => (if x5 ≤ (x0.length:Int) then ((some (x0.take (x5:Int).toNat:List ByteArray)).bind fun y241 => (if y238.length + y241.length < 8796093022208 then ((some (y238 ++ y241:List ByteArray)).bind fun y245 => (if y245.length < 8796093022208 then ((some (y245 ++ [x1]:List ByteArray)).bind fun y248 => ((some (x0.drop (x5:Int).toNat:List ByteArray)).bind fun y251 => (if y248.length + y251.length < 8796093022208 then (some (y248 ++ y251)) else (none)))) else (none))) else (none))) else (none)))) else (none)) else ((some (([]:List ByteArray):List ByteArray)).bind fun y258 => (if 0 ≤ x5 then (if x5 ≤ (x0.length:Int) then ((some (x0.take (x5:Int).toNat:List ByteArray)).bind fun y261 => (if y258.length + y261.length < 8796093022208 then ((some (y258 ++ y261:List ByteArray)).bind fun y265 => (if y265.length < 8796093022208 then ((some (y265 ++ [x1]:List ByteArray)).bind fun y268 => ((some (x0.drop (x5:Int).toNat:List ByteArray)).bind fun y271 => (if y268.length + y271.length < 8796093022208 then (some (y268 ++ y271)) else (none)))) else (none))) else (none))) else (none)) else (none)))
def spec_l2Put.l0:Nat → List ByteArray → ByteArray → Int → Option (List ByteArray)
 | 0,_,_,_ => none
 | k + 1,x0,x1,x5 => if x5 < (x0.length:Int) then (if 0 ≤ x5 then (if (Op.bytesLess ((rdOf ByteArray.empty x0 x5).toList) x1.toList) = true then (spec_l2Put.l0 k x0 x1 (wrap64 (x5 + 1))) else (spec_l2Put.j1 k x0 x1 x5)) else (none)) else (spec_l2Put.j1 k x0 x1 x5)
end
def spec_l2Put.f (k:Nat) (l0:List ByteArray) (a1:ByteArray):Option (List ByteArray):=spec_l2Put.l0 k l0 a1 0
theorem spec_l2Put.mono_l:∀ k,(∀ y0 y1 y2,LeO (spec_l2Put.j1 k y0 y1 y2) (spec_l2Put.j1 (k + 1) y0 y1 y2)) ∧ (∀ y0 y1 y2,LeO (spec_l2Put.l0 k y0 y1 y2) (spec_l2Put.l0 (k + 1) y0 y1 y2))
 | 0 => ⟨fun _ _ _ r h => by simp [spec_l2Put.j1] at h,fun _ _ _ r h => by simp [spec_l2Put.l0] at h⟩
 | k + 1 => by
  obtain ⟨ih0,ih1⟩:=spec_l2Put.mono_l k
  refine ⟨?_,?_⟩
  ·intro y0 y1 y2
   unfold spec_l2Put.j1
   repeat' first
   | (with_reducible first | exact ih0 _ _ _ | exact ih1 _ _ _ | exact LeO.refl _ | exact LeO.none _ | refine LeO.ite ?_ ?_ | refine LeO.bind ?_ (fun _ => ?_))
   | exact ih0 _ _ _
   | exact ih1 _ _ _
   | exact LeO.none _
   | refine LeO.ite ?_ ?_
   | refine LeO.bind ?_ (fun _ => ?_)
  intro y0 y1 y2
  unfold spec_l2Put.l0
  repeat' first
  | (with_reducible first | exact ih0 _ _ _ | exact ih1 _ _ _ | exact LeO.refl _ | exact LeO.none _ | refine LeO.ite ?_ ?_ | refine LeO.bind ?_ (fun _ => ?_))
  | exact ih0 _ _ _
  | exact ih1 _ _ _
  | exact LeO.none _
  | refine LeO.ite ?_ ?_
  | refine LeO.bind ?_ (fun _ => ?_)
theorem spec_l2Put.mono:∀ a0 a1 k,LeO (spec_l2Put.f k a0 a1) (spec_l2Put.f (k + 1) a0 a1):=by
 intro a0 a1 k
 obtain ⟨ih0,ih1⟩:=spec_l2Put.mono_l k
 unfold spec_l2Put.f
 repeat' first
   | (with_reducible first | exact ih0 _ _ _ | exact ih1 _ _ _ | exact LeO.refl _ | exact LeO.none _ | refine LeO.ite ?_ ?_ | refine LeO.bind ?_ (fun _ => ?_))
   | exact ih0 _ _ _
   | exact ih1 _ _ _
   | exact LeO.none _
   | refine LeO.ite ?_ ?_
   | refine LeO.bind ?_ (fun _ => ?_)
theorem spec_l2Put.calls (k:Nat) (P0_:Nat → Prop) (u9000_:Value) (l0:List ByteArray) (a1:ByteArray) (r:List ByteArray) (w0 w:World) (hB:Below w0.heap.size w0 w) (ho0:Kd.R Kd.string 9 w w0.heap.size P0_ u9000_ l0) (h:spec_l2Put.f k l0 a1 = some r) :
  Calls Try.prog 13 #[u9000_,.string a1] w fun e w' => ∃ v0_:Value,e = .returned (v0_) ∧ Kd.R Kd.string 9 w' w0.heap.size (fun k_ => (P0_ k_ ∨ w.heap.size ≤ k_)) v0_ r ∧ Below w0.heap.size w0 w' ∧ Kept w w' (fun k_ => P0_ k_):=by
 have HO0:=Aside0.mk (show Kd.R Kd.string 9 w w0.heap.size (fun k_ => (P0_ k_ ∨ w.heap.size ≤ k_)) u9000_ l0 from Kd.R_mono ho0 (fun k_ hk => (.inl hk)))
 have HK:=Aside0.mk (Kept.refl w (fun k_ => P0_ k_))
 have HW0:=Aside0.mk hB.size
 have HB:=Aside0.mk hB
 clear hB
 have H:(spec_l2Put.l0 k l0 a1 0) = some r:=h
 clear h
 have HC3:=Aside0.mk H
 clear H
 go_enter Try.func13,Try.ntmps13
 go_upto_block 0 with (fail)
 go_cut [5] (fun v5 wc => ∃ (kq:Nat) (x5_2:Int),v5 = .int .i64 x5_2 ∧ Aside0 (spec_l2Put.j1 kq l0 a1 x5_2 = some r) ∧ Aside0 (kq ≤ k) ∧ Aside0 (Kd.R Kd.string 9 wc w0.heap.size (fun k_ => (P0_ k_ ∨ w.heap.size ≤ k_)) u9000_ l0) ∧ Aside0 (Kept w wc (fun k_ => P0_ k_)) ∧ Aside0 (Below w0.heap.size w0 wc))
 case first =>
  have H:=HC3.out
  clear HC3
  have H':=Aside0.mk H
  clear H
  go_wp2
  go_loopg [5] k (fun kq v5 w' => ∃ (x5_1:Int),v5 = .int .i64 x5_1 ∧ Aside0 (spec_l2Put.l0 kq l0 a1 x5_1 = some r) ∧ Aside0 (kq ≤ k) ∧ Aside0 (Kd.R Kd.string 9 w' w0.heap.size (fun k_ => (P0_ k_ ∨ w.heap.size ≤ k_)) u9000_ l0) ∧ Aside0 (Kept w w' (fun k_ => P0_ k_)) ∧ Aside0 (Below w0.heap.size w0 w'))
  case atStart => exact ⟨(0),q19_,H',⟨Nat.le_refl _⟩,⟨by (with_reducible repeat (first | apply Kd.R_alloc | apply Kd.R_drewN | apply Kd.R_drew));exact HO0.out⟩,⟨q15_⟩,⟨q14_⟩⟩
  clear H'
  try clear c1
  try clear p2
  obtain ⟨x5_1,rfl,HA,HK1,HO_0,HK,HB⟩:=hrel
  cases gk with
  | zero => exact absurd HA.out (by simp [spec_l2Put.l0])
  | succ k1 =>
   have H:=HA.out
   clear HA
   simp only [spec_l2Put.l0] at H
   by_cases c4:x5_1 < (l0.length:Int)
   ·rw [if_pos c4] at H
    have c4b0:=decide_eq_true c4
    clear c4
    (first | rw [c4b0] | (simp only [i64_w,i32_w];rw [c4b0]) | rw [c4b9] | skip)
    by_cases c5:0 ≤ x5_1
    rotate_left
    ·rw [if_neg c5] at H
     exact absurd H (by simp)
    rw [if_pos c5] at H
    have c5b0:=decide_eq_true c5
    clear c5
    by_cases c6:(Op.bytesLess ((rdOf ByteArray.empty l0 x5_1).toList) a1.toList) = true
    ·rw [if_pos c6] at H
     have c6b0:(Op.bytesLess ((rdOf ByteArray.empty l0 x5_1).toList) a1.toList) = true:=c6
     clear c6
     have H':=Aside0.mk H
     clear H
     obtain ⟨Ao7,co7,eo7⟩:=Kd.R_slice HO_0.out
     subst eo7
     have p236:0 ≤ (x5_1:Int):=of_decide_eq_true q32_
     have q236:x5_1 < (l0.length:Int):=of_decide_eq_true q32_
     obtain ⟨ad236,e236,hx236_0⟩:=Kd.at_string (Kd.R_reads' HO_0.out).2.2 x5_1 p236 q236
     cases e236
     replace p236:=eq_true p236
     replace q236:=eq_true q236
     go_wp2
     go_roundg k1
     case measure => have:=HK1.out;omega
     case rel => exact ⟨(wrap64 (x5_1 + 1)),q19_,H',⟨by have:=HK1.out;omega⟩,⟨q25_⟩,⟨q15_⟩,⟨q14_⟩⟩
    rw [if_neg c6] at H
    have c6b0:(Op.bytesLess ((rdOf ByteArray.empty l0 x5_1).toList) a1.toList) = false:=by simpa using c6
    clear c6
    have H':=Aside0.mk H
    clear H
    obtain ⟨Ao8,co8,eo8⟩:=Kd.R_slice HO_0.out
    subst eo8
    have p236:0 ≤ (x5_1:Int):=of_decide_eq_true q32_
    have q236:x5_1 < (l0.length:Int):=of_decide_eq_true q32_
    obtain ⟨ad236,e236,hx236_0⟩:=Kd.at_string (Kd.R_reads' HO_0.out).2.2 x5_1 p236 q236
    cases e236
    replace p236:=eq_true p236
    replace q236:=eq_true q236
    go_wp2
    go_meet
    case rel => exact ⟨_,(x5_1),q19_,H',⟨q31_⟩,⟨q25_⟩,⟨q15_⟩,⟨q14_⟩⟩
   rw [if_neg c4] at H
   have c4b0:=decide_eq_false c4
   clear c4
   (first | rw [c4b0] | (simp only [i64_w,i32_w];rw [c4b0]) | rw [c4b9] | skip)
   have H':=Aside0.mk H
   clear H
   obtain ⟨Ao9,co9,eo9⟩:=Kd.R_slice HO_0.out
   subst eo9
   go_wp2
   go_meet
   case rel => exact ⟨_,(x5_1),q19_,H',⟨q31_⟩,⟨q25_⟩,⟨q15_⟩,⟨q14_⟩⟩
 clear HC3
 try clear c1
 try clear p2 p2
 try clear q2
 try clear hx2
 try clear c4
 try clear c4b0
 try clear c5
 try clear c5b0
 try clear c6
 try clear c6b0
 try clear p6
 try clear hx236_0
 try clear p236
 try clear q236
 obtain ⟨kq,x5_2,rfl,HA,HJ2,HO_0,HK,HB⟩:=hcut
 cases kq with
 | zero => exact absurd HA.out (by simp [spec_l2Put.j1])
 | succ kj2 =>
  have H:=HA.out
  clear HA
  simp only [spec_l2Put.j1] at H
  by_cases c10:x5_2 < (l0.length:Int)
  ·rw [if_pos c10] at H
   have c10b0:=decide_eq_true c10
   clear c10
   by_cases c11:0 ≤ x5_2
   rotate_left
   ·rw [if_neg c11] at H
    exact absurd H (by simp)
   rw [if_pos c11] at H
   have c11b0:=decide_eq_true c11
   clear c11
   by_cases c12:(rdOf ByteArray.empty l0 x5_2).toList = a1.toList
   ·rw [if_pos c12] at H
    have c12b0:((rdOf ByteArray.empty l0 x5_2).toList == a1.toList) = true:=beq_iff_eq.mpr c12
    have c12b1:((rdOf ByteArray.empty l0 x5_2).toList != a1.toList) = false:=bne_eq_false_iff_eq.mpr c12
    clear c12
    obtain rfl:=Option.some.inj H
    obtain ⟨Ao13,co13,eo13⟩:=Kd.R_slice HO_0.out
    subst eo13
    have p237:0 ≤ (x5_2:Int):=of_decide_eq_true q32_
    have q237:x5_2 < (l0.length:Int):=of_decide_eq_true q32_
    obtain ⟨ad237,e237,hx237_0⟩:=Kd.at_string (Kd.R_reads' HO_0.out).2.2 x5_2 p237 q237
    cases e237
    replace p237:=eq_true p237
    replace q237:=eq_true q237
    go_wp2
    go_ret
    exact ⟨_,q16_,q25_,q14_,q15_⟩
   rw [if_neg c12] at H
   have c12b0:((rdOf ByteArray.empty l0 x5_2).toList == a1.toList) = false:=beq_eq_false_iff_ne.mpr c12
   have c12b1:((rdOf ByteArray.empty l0 x5_2).toList != a1.toList) = true:=bne_iff_ne.mpr c12
   obtain ⟨y238,hy238⟩:∃ y_:List ByteArray,y_ = (([]:List ByteArray)):=⟨_,rfl⟩
   replace H:(if x5_2 ≤ (l0.length:Int) then ((some (l0.take (x5_2:Int).toNat:List ByteArray)).bind fun y241 => (if y238.length + y241.length < 8796093022208 then ((some (y238 ++ y241:List ByteArray)).bind fun y245 => (if y245.length < 8796093022208 then ((some (y245 ++ [a1]:List ByteArray)).bind fun y248 => ((some (l0.drop (x5_2:Int).toNat:List ByteArray)).bind fun y251 => (if y248.length + y251.length < 8796093022208 then (some (y248 ++ y251)) else (none)))) else (none))) else (none))) else (none)) = some r:=by first | (rw [hy238];exact H) | exact H
   have Ny238:=Aside0.mk hy238
   clear hy238
   have c14b0:=eq_true (of_decide_eq_true q32_:0 ≤ x5_2)
   by_cases c15:x5_2 ≤ (l0.length:Int)
   rotate_left
   ·rw [if_neg c15] at H
    exact absurd H (by simp)
   rw [if_pos c15] at H
   have c15b0:=eq_true c15
   have c15b1:=decide_eq_true c15
   clear c15
   obtain ⟨y241,hy241⟩:∃ y_:List ByteArray,y_ = (l0.take (x5_2:Int).toNat):=⟨_,rfl⟩
   replace H:(if y238.length + y241.length < 8796093022208 then ((some (y238 ++ y241:List ByteArray)).bind fun y245 => (if y245.length < 8796093022208 then ((some (y245 ++ [a1]:List ByteArray)).bind fun y248 => ((some (l0.drop (x5_2:Int).toNat:List ByteArray)).bind fun y251 => (if y248.length + y251.length < 8796093022208 then (some (y248 ++ y251)) else (none)))) else (none))) else (none)) = some r:=by first | (rw [hy241];exact H) | exact H
   have Ny241:=Aside0.mk hy241
   clear hy241
   by_cases c16:y238.length + y241.length < 8796093022208
   rotate_left
   ·rw [if_neg c16] at H
    exact absurd H (by simp)
   rw [if_pos c16] at H
   have LMc16:=Aside0.mk c16
   clear c16
   obtain ⟨y245,hy245⟩:∃ y_:List ByteArray,y_ = (y238 ++ y241):=⟨_,rfl⟩
   replace H:(if y245.length < 8796093022208 then ((some (y245 ++ [a1]:List ByteArray)).bind fun y248 => ((some (l0.drop (x5_2:Int).toNat:List ByteArray)).bind fun y251 => (if y248.length + y251.length < 8796093022208 then (some (y248 ++ y251)) else (none)))) else (none)) = some r:=by first | (rw [hy245];exact H) | exact H
   have Ny245:=Aside0.mk hy245
   clear hy245
   by_cases c17:y245.length < 8796093022208
   rotate_left
   ·rw [if_neg c17] at H
    exact absurd H (by simp)
   rw [if_pos c17] at H
   have LMc17:=Aside0.mk c17
   clear c17
   obtain ⟨y248,hy248⟩:∃ y_:List ByteArray,y_ = (y245 ++ [a1]):=⟨_,rfl⟩
   replace H:((some (l0.drop (x5_2:Int).toNat:List ByteArray)).bind fun y251 => (if y248.length + y251.length < 8796093022208 then (some (y248 ++ y251)) else (none))) = some r:=by first | (rw [hy248];exact H) | exact H
   have Ny248:=Aside0.mk hy248
   clear hy248
   have c18b0:=eq_true (of_decide_eq_true q32_:0 ≤ x5_2)
   have c19b0:=eq_true (of_decide_eq_true q32_:x5_2 ≤ (l0.length:Int))
   obtain ⟨y251,hy251⟩:∃ y_:List ByteArray,y_ = (l0.drop (x5_2:Int).toNat):=⟨_,rfl⟩
   replace H:(if y248.length + y251.length < 8796093022208 then (some (y248 ++ y251)) else (none)) = some r:=by first | (rw [hy251];exact H) | exact H
   have Ny251:=Aside0.mk hy251
   clear hy251
   by_cases c20:y248.length + y251.length < 8796093022208
   rotate_left
   ·rw [if_neg c20] at H
    exact absurd H (by simp)
   rw [if_pos c20] at H
   have LMc20:=Aside0.mk c20
   clear c20
   obtain ⟨y255,hy255⟩:∃ y_:List ByteArray,y_ = (y248 ++ y251):=⟨_,rfl⟩
   replace H:(some y255) = some r:=by first | (rw [hy255];exact H) | exact H
   have Ny255:=Aside0.mk hy255
   clear hy255
   obtain rfl:=Option.some.inj H
   obtain ⟨Ao21,co21,eo21⟩:=Kd.R_slice HO_0.out
   subst eo21
   have p237:0 ≤ (x5_2:Int):=of_decide_eq_true q32_
   have q237:x5_2 < (l0.length:Int):=of_decide_eq_true q32_
   obtain ⟨ad237,e237,hx237_0⟩:=Kd.at_string (Kd.R_reads' HO_0.out).2.2 x5_2 p237 q237
   cases e237
   replace p237:=eq_true p237
   replace q237:=eq_true q237
   go_wp2_with (first | ((with_reducible refine gate_dst (N:=34) rfl ?_);refine Kd.R_lit Kd.string _ 9 ?hg (N:=34) ?hd (xs:=([]:List ByteArray)) (inner:=[]) (ok:=fun _ => True) (okp:=fun _ => True) ?hr ?hp (fun _ hk => hk) trivial (Below.refl _ _) (Nat.le_refl _) (by simp) ?_;(case hd => rfl);(case hg => rfl);(case hr => exact q42_);(case hp => exact (Reps.none _ _));intro v239 w22 ho23 hb hg_ hnew_;clear hg_ hnew_;(first | rw [← Ny238.out] at ho23 | (simp only [Int.reduceToNat] at ho23;rw [← Ny238.out] at ho23));have n0_:=Aside0.mk (Kd.R_elder' q25_ (Kd.R_base ho23) hb);have n1_:=Aside0.mk (Kd.R_lower (Kd.R_new' (Kd.R_newM (M:=fun k_ => (P0_ k_ ∨ w.heap.size ≤ k_)) ho23 q2_ (fun k_ h_ => .inr h_)) (Kd.R_lt q25_)) (below_size q14_));have n2_:=Aside0.mk (Kept.below (S:=(fun k_ => P0_ k_)) q15_ hb);have n3_:=Aside0.mk (below_step q14_ hb);clear HO_0;clear HK;clear HB;have HO_0:=n0_;have HO240:=n1_;have HK:=n2_;have HB:=n3_;clear n0_ n1_ n2_ n3_;clear hb ho23;have q24:(x5_2:Int) ≤ ((l0.length:Int):Int):=of_decide_eq_true q32_;obtain ⟨i024,hi024,_,hsz24,_⟩:=info_parts info9;have hroom24:l0.length ≤ co21:=(Kd.R_reads' HO_0.out).2.1;have hC24:Kd.C Kd.string _ (some ad237) l0.length l0:=(Kd.R_reads' HO_0.out).2.2;have hcut24:=cut_to (P:=Try.prog) 26 9 .i64 Try.underlying26 hi024 (some ad237) l0.length co21 x5_2 (of_decide_eq_true q32_) q24 hroom24;have hr24:=Kd.C_take (m:=(x5_2:Int).toNat) hC24 (by omega);have hy24:y241.length = (x5_2:Int).toNat:=(by rw [Ny241.out,List.length_take];omega);rw [← Ny241.out] at hr24;rw [← hy24] at hcut24;have HR244:=Aside0.mk hr24;have HC244:=Aside0.mk (show y241.length ≤ co21 from by omega);clear hr24 hC24 hroom24 hi024 hsz24;have KY24:=Aside0.mk hy24;clear hy24;have KL24:=Aside0.mk (show (x5_2:Int).toNat ≤ l0.length from by omega);replace q24:=eq_true q24) | ((with_reducible refine gate_builtin (b:=.append) (xs:=#[.tmp 34,.tmp 37]) rfl ?_);at_builtin;refine Kd.R_append_rows Kd.string (w0:=w0) w0.heap.size rfl (.tmp 34) (.tmp 37) 26 9 (.string ⟨#[]⟩) 16 rfl Try.underlying26 info9 rfl (by decide) (by omega) v239 y238 y241 _ _ _ (fun k_ => (P0_ k_ ∨ w.heap.size ≤ k_) ∧ some k_ ≠ (.slice (some ad237) l0.length co21:Value).ownBlock) (fun _ => False) rfl rfl ?aO ?aR (fun _ _ h => h) (fun _ h => h.elim) ?aF ?aB ?aS ?aL ?_;(case aR => repeat (first | exact (by repeat (first | (with_reducible exact HR244.out) | (with_reducible refine Kd.C_alloc ?_ _) | (with_reducible refine Kd.C_drewN ?_ _) | (with_reducible refine Kd.C_drew ?_) | exact HR244.out)) | (with_reducible refine Kd.C_alloc ?_ _) | (with_reducible refine Kd.C_drewN ?_ _) | (with_reducible refine Kd.C_drew ?_)));(case aB => exact q14_);(case aF => exact q41_);(case aO => exact (by (with_reducible repeat (first | apply Kd.R_alloc | apply Kd.R_drewN | apply Kd.R_drew));exact Kd.R_mono HO240.out (fun _ hk => ⟨hk.1.1,hk.2⟩)));(case aS => exact (below_size q14_));(case aL => have:=LMc16.out;omega);intro v246 w25 ho hb hg hat;rw [← Ny245.out] at ho;have n0_:=Aside0.mk (Kd.R_after (ok:=(fun k_ => (P0_ k_ ∨ w.heap.size ≤ k_))) q25_ hg hat);have n1_:=Aside0.mk (hb);have n2_:=Aside0.mk (Kept.of_grown (S:=(fun k_ => P0_ k_)) hg q15_ (fun k_ e_ => (HO240.out.1 k_ e_).1.1));have n3_:=Aside0.mk ((show Kd.C Kd.string w25 (some ad237) y241.length y241 from by rw [Ny241.out];exact Kd.C_take (m:=(x5_2:Int).toNat) ((Kd.R_reads' (Kd.R_after (ok:=(fun k_ => (P0_ k_ ∨ w.heap.size ≤ k_))) q25_ hg hat)).2.2) KL24.out));have n4_:=Aside0.mk (ho);clear HO_0;clear HB;clear HK;clear HR244;clear HO240;have HO_0:=n0_;have HB:=n1_;have HK:=n2_;have HR244:=n3_;have HO247:=n4_;clear n0_ n1_ n2_ n3_ n4_;clear ho hb hg hat) | ((with_reducible refine gate_builtin (b:=.append) (xs:=#[.tmp 39,.tmp 41]) rfl ?_);at_builtin;refine Kd.R_append Kd.string (w0:=w0) w0.heap.size rfl (.tmp 39) (.tmp 41) 26 9 (.string ⟨#[]⟩) 16 rfl Try.underlying26 info9 rfl (by decide) (by omega) v246 y245 a1 [.string a1] (fun k_ => (P0_ k_ ∨ w.heap.size ≤ k_) ∧ some k_ ≠ (.slice (some ad237) l0.length co21:Value).ownBlock) (fun _ => False) rfl rfl ?aP (fun _ hk => hk.elim) ?aF ?aO ?aB ?aS ?aL ?_;(case aP => exact rfl);(case aB => exact q14_);(case aF => exact q41_);(case aO => exact (by (with_reducible repeat (first | apply Kd.R_alloc | apply Kd.R_drewN | apply Kd.R_drew));exact HO247.out));(case aS => exact (below_size q14_));(case aL => have:=LMc17.out;omega);intro v249 w26 ho hb hg hat;rw [← Ny248.out] at ho;have n0_:=Aside0.mk (Kd.R_after (ok:=(fun k_ => (P0_ k_ ∨ w.heap.size ≤ k_))) q25_ hg hat);have n1_:=Aside0.mk (hb);have n2_:=Aside0.mk (Kept.of_grown (S:=(fun k_ => P0_ k_)) hg q15_ (fun k_ e_ => (HO247.out.1 k_ e_).1));have n3_:=Aside0.mk ((show Kd.C Kd.string w26 (some ad237) y241.length y241 from by rw [Ny241.out];exact Kd.C_take (m:=(x5_2:Int).toNat) ((Kd.R_reads' (Kd.R_after (ok:=(fun k_ => (P0_ k_ ∨ w.heap.size ≤ k_))) q25_ hg hat)).2.2) KL24.out));have n4_:=Aside0.mk (ho);clear HO_0;clear HB;clear HK;clear HR244;clear HO247;have HO_0:=n0_;have HB:=n1_;have HK:=n2_;have HR244:=n3_;have HO250:=n4_;clear n0_ n1_ n2_ n3_ n4_;clear ho hb hg hat;have q27:(x5_2:Int) ≤ ((l0.length:Int):Int):=of_decide_eq_true q32_;obtain ⟨i027,hi027,_,hsz27,_⟩:=info_parts info9;have hroom27:l0.length ≤ co21:=(Kd.R_reads' HO_0.out).2.1;have hC27:Kd.C Kd.string _ (some ad237) l0.length l0:=(Kd.R_reads' HO_0.out).2.2;have q027:(0:Int) ≤ (x5_2:Int):=of_decide_eq_true q32_;have hcut27:=cut_from (P:=Try.prog) 26 9 .i64 Try.underlying26 hi027 1 hsz27 (some ad237) l0.length co21 x5_2 q027 q27;have hr27:=Kd.C_drop (m:=(x5_2:Int).toNat) (c:=co21) hC27 (by omega) hroom27;obtain ⟨A27,hA27⟩:∃ A1,A1 = (if co21 = (x5_2:Int).toNat then (some ad237) else ((some ad237):Option Addr).map (·.add ((x5_2:Int).toNat * 1))):=⟨_,rfl⟩;obtain ⟨c27,hc27⟩:∃ c1,c1 = co21 - (x5_2:Int).toNat:=⟨_,rfl⟩;have hy27:y251.length = l0.length - (x5_2:Int).toNat:=(by rw [Ny251.out,List.length_drop] <;> omega);rw [show (l0).drop (x5_2:Int).toNat = y251 from Ny251.out.symm] at hr27;replace hr27:Kd.C Kd.string _ A27 y251.length y251:=(by rw [hA27];exact hr27);rw [← hy27,← hA27,← hc27] at hcut27;have HR254:=Aside0.mk hr27;have HC254:=Aside0.mk (show y251.length ≤ c27 from by rw [hy27,hc27];exact Nat.sub_le_sub_right hroom27 _);clear hr27 hC27 hroom27 hi027 hsz27 hc27;have KY27:=Aside0.mk hy27;have KA27:=Aside0.mk hA27;clear hy27 hA27;have KL27:=Aside0.mk (show (x5_2:Int).toNat ≤ l0.length from by omega);replace q27:=eq_true q27) | ((with_reducible refine gate_builtin (b:=.append) (xs:=#[.tmp 43,.tmp 46]) rfl ?_);at_builtin;refine Kd.R_append_rows Kd.string (w0:=w0) w0.heap.size rfl (.tmp 43) (.tmp 46) 26 9 (.string ⟨#[]⟩) 16 rfl Try.underlying26 info9 rfl (by decide) (by omega) v249 y248 y251 _ _ _ (fun k_ => (P0_ k_ ∨ w.heap.size ≤ k_) ∧ some k_ ≠ (.slice (some ad237) l0.length co21:Value).ownBlock) (fun _ => False) rfl rfl ?aO ?aR (fun _ _ h => h) (fun _ h => h.elim) ?aF ?aB ?aS ?aL ?_;(case aR => repeat (first | exact (by repeat (first | (with_reducible exact HR254.out) | (with_reducible refine Kd.C_alloc ?_ _) | (with_reducible refine Kd.C_drewN ?_ _) | (with_reducible refine Kd.C_drew ?_) | exact HR254.out)) | (with_reducible refine Kd.C_alloc ?_ _) | (with_reducible refine Kd.C_drewN ?_ _) | (with_reducible refine Kd.C_drew ?_)));(case aB => exact q14_);(case aF => exact q41_);(case aO => exact (by (with_reducible repeat (first | apply Kd.R_alloc | apply Kd.R_drewN | apply Kd.R_drew));exact HO250.out));(case aS => exact (below_size q14_));(case aL => have:=LMc20.out;omega);intro v256 w28 ho hb hg hat;rw [← Ny255.out] at ho;have n0_:=Aside0.mk (Kd.R_after (ok:=(fun k_ => (P0_ k_ ∨ w.heap.size ≤ k_))) q25_ hg hat);have n1_:=Aside0.mk (hb);have n2_:=Aside0.mk (Kept.of_grown (S:=(fun k_ => P0_ k_)) hg q15_ (fun k_ e_ => (HO250.out.1 k_ e_).1));have n3_:=Aside0.mk ((show Kd.C Kd.string w28 (some ad237) y241.length y241 from by rw [Ny241.out];exact Kd.C_take (m:=(x5_2:Int).toNat) ((Kd.R_reads' (Kd.R_after (ok:=(fun k_ => (P0_ k_ ∨ w.heap.size ≤ k_))) q25_ hg hat)).2.2) KL24.out));have n4_:=Aside0.mk ((show Kd.C Kd.string w28 A27 y251.length y251 from by rw [Ny251.out,KA27.out];exact Kd.C_drop (m:=(x5_2:Int).toNat) (c:=co21) ((Kd.R_reads' (Kd.R_after (ok:=(fun k_ => (P0_ k_ ∨ w.heap.size ≤ k_))) q25_ hg hat)).2.2) KL27.out ((Kd.R_reads' (Kd.R_after (ok:=(fun k_ => (P0_ k_ ∨ w.heap.size ≤ k_))) q25_ hg hat)).2.1)));have n5_:=Aside0.mk (ho);clear HO_0;clear HB;clear HK;clear HR244;clear HR254;clear HO250;have HO_0:=n0_;have HB:=n1_;have HK:=n2_;have HR244:=n3_;have HR254:=n4_;have HO257:=n5_;clear n0_ n1_ n2_ n3_ n4_ n5_;clear ho hb hg hat))
   go_ret
   exact ⟨_,q16_,by (with_reducible repeat (first | apply Kd.R_alloc | apply Kd.R_drewN | apply Kd.R_drew));exact Kd.R_mono HO257.out (fun _ hk => hk.1),q14_,q15_⟩
  rw [if_neg c10] at H
  have c10b0:=decide_eq_false c10
  clear c10
  obtain ⟨y258,hy258⟩:∃ y_:List ByteArray,y_ = (([]:List ByteArray)):=⟨_,rfl⟩
  replace H:(if 0 ≤ x5_2 then (if x5_2 ≤ (l0.length:Int) then ((some (l0.take (x5_2:Int).toNat:List ByteArray)).bind fun y261 => (if y258.length + y261.length < 8796093022208 then ((some (y258 ++ y261:List ByteArray)).bind fun y265 => (if y265.length < 8796093022208 then ((some (y265 ++ [a1]:List ByteArray)).bind fun y268 => ((some (l0.drop (x5_2:Int).toNat:List ByteArray)).bind fun y271 => (if y268.length + y271.length < 8796093022208 then (some (y268 ++ y271)) else (none)))) else (none))) else (none))) else (none)) else (none)) = some r:=by first | (rw [hy258];exact H) | exact H
  have Ny258:=Aside0.mk hy258
  clear hy258
  by_cases c29:0 ≤ x5_2
  rotate_left
  ·rw [if_neg c29] at H
   exact absurd H (by simp)
  rw [if_pos c29] at H
  have c29b0:=eq_true c29
  have c29b1:=decide_eq_true c29
  clear c29
  by_cases c30:x5_2 ≤ (l0.length:Int)
  rotate_left
  ·rw [if_neg c30] at H
   exact absurd H (by simp)
  rw [if_pos c30] at H
  have c30b0:=eq_true c30
  have c30b1:=decide_eq_true c30
  clear c30
  obtain ⟨y261,hy261⟩:∃ y_:List ByteArray,y_ = (l0.take (x5_2:Int).toNat):=⟨_,rfl⟩
  replace H:(if y258.length + y261.length < 8796093022208 then ((some (y258 ++ y261:List ByteArray)).bind fun y265 => (if y265.length < 8796093022208 then ((some (y265 ++ [a1]:List ByteArray)).bind fun y268 => ((some (l0.drop (x5_2:Int).toNat:List ByteArray)).bind fun y271 => (if y268.length + y271.length < 8796093022208 then (some (y268 ++ y271)) else (none)))) else (none))) else (none)) = some r:=by first | (rw [hy261];exact H) | exact H
  have Ny261:=Aside0.mk hy261
  clear hy261
  by_cases c31:y258.length + y261.length < 8796093022208
  rotate_left
  ·rw [if_neg c31] at H
   exact absurd H (by simp)
  rw [if_pos c31] at H
  have LMc31:=Aside0.mk c31
  clear c31
  obtain ⟨y265,hy265⟩:∃ y_:List ByteArray,y_ = (y258 ++ y261):=⟨_,rfl⟩
  replace H:(if y265.length < 8796093022208 then ((some (y265 ++ [a1]:List ByteArray)).bind fun y268 => ((some (l0.drop (x5_2:Int).toNat:List ByteArray)).bind fun y271 => (if y268.length + y271.length < 8796093022208 then (some (y268 ++ y271)) else (none)))) else (none)) = some r:=by first | (rw [hy265];exact H) | exact H
  have Ny265:=Aside0.mk hy265
  clear hy265
  by_cases c32:y265.length < 8796093022208
  rotate_left
  ·rw [if_neg c32] at H
   exact absurd H (by simp)
  rw [if_pos c32] at H
  have LMc32:=Aside0.mk c32
  clear c32
  obtain ⟨y268,hy268⟩:∃ y_:List ByteArray,y_ = (y265 ++ [a1]):=⟨_,rfl⟩
  replace H:((some (l0.drop (x5_2:Int).toNat:List ByteArray)).bind fun y271 => (if y268.length + y271.length < 8796093022208 then (some (y268 ++ y271)) else (none))) = some r:=by first | (rw [hy268];exact H) | exact H
  have Ny268:=Aside0.mk hy268
  clear hy268
  have c33b0:=eq_true (of_decide_eq_true q32_:0 ≤ x5_2)
  have c34b0:=eq_true (of_decide_eq_true q32_:x5_2 ≤ (l0.length:Int))
  obtain ⟨y271,hy271⟩:∃ y_:List ByteArray,y_ = (l0.drop (x5_2:Int).toNat):=⟨_,rfl⟩
  replace H:(if y268.length + y271.length < 8796093022208 then (some (y268 ++ y271)) else (none)) = some r:=by first | (rw [hy271];exact H) | exact H
  have Ny271:=Aside0.mk hy271
  clear hy271
  by_cases c35:y268.length + y271.length < 8796093022208
  rotate_left
  ·rw [if_neg c35] at H
   exact absurd H (by simp)
  rw [if_pos c35] at H
  have LMc35:=Aside0.mk c35
  clear c35
  obtain ⟨y275,hy275⟩:∃ y_:List ByteArray,y_ = (y268 ++ y271):=⟨_,rfl⟩
  replace H:(some y275) = some r:=by first | (rw [hy275];exact H) | exact H
  have Ny275:=Aside0.mk hy275
  clear hy275
  obtain rfl:=Option.some.inj H
  obtain ⟨Ao36,co36,eo36⟩:=Kd.R_slice HO_0.out
  subst eo36
  go_wp2_with (first | ((with_reducible refine gate_dst (N:=34) rfl ?_);refine Kd.R_lit Kd.string _ 9 ?hg (N:=34) ?hd (xs:=([]:List ByteArray)) (inner:=[]) (ok:=fun _ => True) (okp:=fun _ => True) ?hr ?hp (fun _ hk => hk) trivial (Below.refl _ _) (Nat.le_refl _) (by simp) ?_;(case hd => rfl);(case hg => rfl);(case hr => exact q42_);(case hp => exact (Reps.none _ _));intro v259 w37 ho38 hb hg_ hnew_;clear hg_ hnew_;(first | rw [← Ny258.out] at ho38 | (simp only [Int.reduceToNat] at ho38;rw [← Ny258.out] at ho38));have n0_:=Aside0.mk (Kd.R_elder' q25_ (Kd.R_base ho38) hb);have n1_:=Aside0.mk (Kd.R_lower (Kd.R_new' (Kd.R_newM (M:=fun k_ => (P0_ k_ ∨ w.heap.size ≤ k_)) ho38 q2_ (fun k_ h_ => .inr h_)) (Kd.R_lt q25_)) (below_size q14_));have n2_:=Aside0.mk (Kept.below (S:=(fun k_ => P0_ k_)) q15_ hb);have n3_:=Aside0.mk (below_step q14_ hb);clear HO_0;clear HK;clear HB;have HO_0:=n0_;have HO260:=n1_;have HK:=n2_;have HB:=n3_;clear n0_ n1_ n2_ n3_;clear hb ho38;have q39:(x5_2:Int) ≤ ((l0.length:Int):Int):=of_decide_eq_true q32_;obtain ⟨i039,hi039,_,hsz39,_⟩:=info_parts info9;have hroom39:l0.length ≤ co36:=(Kd.R_reads' HO_0.out).2.1;have hC39:Kd.C Kd.string _ Ao36 l0.length l0:=(Kd.R_reads' HO_0.out).2.2;have hcut39:=cut_to (P:=Try.prog) 26 9 .i64 Try.underlying26 hi039 Ao36 l0.length co36 x5_2 (of_decide_eq_true q32_) q39 hroom39;have hr39:=Kd.C_take (m:=(x5_2:Int).toNat) hC39 (by omega);have hy39:y261.length = (x5_2:Int).toNat:=(by rw [Ny261.out,List.length_take];omega);rw [← Ny261.out] at hr39;rw [← hy39] at hcut39;have HR264:=Aside0.mk hr39;have HC264:=Aside0.mk (show y261.length ≤ co36 from by omega);clear hr39 hC39 hroom39 hi039 hsz39;have KY39:=Aside0.mk hy39;clear hy39;have KL39:=Aside0.mk (show (x5_2:Int).toNat ≤ l0.length from by omega);replace q39:=eq_true q39) | ((with_reducible refine gate_builtin (b:=.append) (xs:=#[.tmp 34,.tmp 37]) rfl ?_);at_builtin;refine Kd.R_append_rows Kd.string (w0:=w0) w0.heap.size rfl (.tmp 34) (.tmp 37) 26 9 (.string ⟨#[]⟩) 16 rfl Try.underlying26 info9 rfl (by decide) (by omega) v259 y258 y261 _ _ _ (fun k_ => (P0_ k_ ∨ w.heap.size ≤ k_) ∧ some k_ ≠ (.slice Ao36 l0.length co36:Value).ownBlock) (fun _ => False) rfl rfl ?aO ?aR (fun _ _ h => h) (fun _ h => h.elim) ?aF ?aB ?aS ?aL ?_;(case aR => repeat (first | exact (by repeat (first | (with_reducible exact HR264.out) | (with_reducible refine Kd.C_alloc ?_ _) | (with_reducible refine Kd.C_drewN ?_ _) | (with_reducible refine Kd.C_drew ?_) | exact HR264.out)) | (with_reducible refine Kd.C_alloc ?_ _) | (with_reducible refine Kd.C_drewN ?_ _) | (with_reducible refine Kd.C_drew ?_)));(case aB => exact q14_);(case aF => exact q41_);(case aO => exact (by (with_reducible repeat (first | apply Kd.R_alloc | apply Kd.R_drewN | apply Kd.R_drew));exact Kd.R_mono HO260.out (fun _ hk => ⟨hk.1.1,hk.2⟩)));(case aS => exact (below_size q14_));(case aL => have:=LMc31.out;omega);intro v266 w40 ho hb hg hat;rw [← Ny265.out] at ho;have n0_:=Aside0.mk (Kd.R_after (ok:=(fun k_ => (P0_ k_ ∨ w.heap.size ≤ k_))) q25_ hg hat);have n1_:=Aside0.mk (hb);have n2_:=Aside0.mk (Kept.of_grown (S:=(fun k_ => P0_ k_)) hg q15_ (fun k_ e_ => (HO260.out.1 k_ e_).1.1));have n3_:=Aside0.mk ((show Kd.C Kd.string w40 Ao36 y261.length y261 from by rw [Ny261.out];exact Kd.C_take (m:=(x5_2:Int).toNat) ((Kd.R_reads' (Kd.R_after (ok:=(fun k_ => (P0_ k_ ∨ w.heap.size ≤ k_))) q25_ hg hat)).2.2) KL39.out));have n4_:=Aside0.mk (ho);clear HO_0;clear HB;clear HK;clear HR264;clear HO260;have HO_0:=n0_;have HB:=n1_;have HK:=n2_;have HR264:=n3_;have HO267:=n4_;clear n0_ n1_ n2_ n3_ n4_;clear ho hb hg hat) | ((with_reducible refine gate_builtin (b:=.append) (xs:=#[.tmp 39,.tmp 41]) rfl ?_);at_builtin;refine Kd.R_append Kd.string (w0:=w0) w0.heap.size rfl (.tmp 39) (.tmp 41) 26 9 (.string ⟨#[]⟩) 16 rfl Try.underlying26 info9 rfl (by decide) (by omega) v266 y265 a1 [.string a1] (fun k_ => (P0_ k_ ∨ w.heap.size ≤ k_) ∧ some k_ ≠ (.slice Ao36 l0.length co36:Value).ownBlock) (fun _ => False) rfl rfl ?aP (fun _ hk => hk.elim) ?aF ?aO ?aB ?aS ?aL ?_;(case aP => exact rfl);(case aB => exact q14_);(case aF => exact q41_);(case aO => exact (by (with_reducible repeat (first | apply Kd.R_alloc | apply Kd.R_drewN | apply Kd.R_drew));exact HO267.out));(case aS => exact (below_size q14_));(case aL => have:=LMc32.out;omega);intro v269 w41 ho hb hg hat;rw [← Ny268.out] at ho;have n0_:=Aside0.mk (Kd.R_after (ok:=(fun k_ => (P0_ k_ ∨ w.heap.size ≤ k_))) q25_ hg hat);have n1_:=Aside0.mk (hb);have n2_:=Aside0.mk (Kept.of_grown (S:=(fun k_ => P0_ k_)) hg q15_ (fun k_ e_ => (HO267.out.1 k_ e_).1));have n3_:=Aside0.mk ((show Kd.C Kd.string w41 Ao36 y261.length y261 from by rw [Ny261.out];exact Kd.C_take (m:=(x5_2:Int).toNat) ((Kd.R_reads' (Kd.R_after (ok:=(fun k_ => (P0_ k_ ∨ w.heap.size ≤ k_))) q25_ hg hat)).2.2) KL39.out));have n4_:=Aside0.mk (ho);clear HO_0;clear HB;clear HK;clear HR264;clear HO267;have HO_0:=n0_;have HB:=n1_;have HK:=n2_;have HR264:=n3_;have HO270:=n4_;clear n0_ n1_ n2_ n3_ n4_;clear ho hb hg hat;have q42:(x5_2:Int) ≤ ((l0.length:Int):Int):=of_decide_eq_true q32_;obtain ⟨i042,hi042,_,hsz42,_⟩:=info_parts info9;have hroom42:l0.length ≤ co36:=(Kd.R_reads' HO_0.out).2.1;have hC42:Kd.C Kd.string _ Ao36 l0.length l0:=(Kd.R_reads' HO_0.out).2.2;have q042:(0:Int) ≤ (x5_2:Int):=of_decide_eq_true q32_;have hcut42:=cut_from (P:=Try.prog) 26 9 .i64 Try.underlying26 hi042 1 hsz42 Ao36 l0.length co36 x5_2 q042 q42;have hr42:=Kd.C_drop (m:=(x5_2:Int).toNat) (c:=co36) hC42 (by omega) hroom42;obtain ⟨A42,hA42⟩:∃ A1,A1 = (if co36 = (x5_2:Int).toNat then Ao36 else (Ao36:Option Addr).map (·.add ((x5_2:Int).toNat * 1))):=⟨_,rfl⟩;obtain ⟨c42,hc42⟩:∃ c1,c1 = co36 - (x5_2:Int).toNat:=⟨_,rfl⟩;have hy42:y271.length = l0.length - (x5_2:Int).toNat:=(by rw [Ny271.out,List.length_drop] <;> omega);rw [show (l0).drop (x5_2:Int).toNat = y271 from Ny271.out.symm] at hr42;replace hr42:Kd.C Kd.string _ A42 y271.length y271:=(by rw [hA42];exact hr42);rw [← hy42,← hA42,← hc42] at hcut42;have HR274:=Aside0.mk hr42;have HC274:=Aside0.mk (show y271.length ≤ c42 from by rw [hy42,hc42];exact Nat.sub_le_sub_right hroom42 _);clear hr42 hC42 hroom42 hi042 hsz42 hc42;have KY42:=Aside0.mk hy42;have KA42:=Aside0.mk hA42;clear hy42 hA42;have KL42:=Aside0.mk (show (x5_2:Int).toNat ≤ l0.length from by omega);replace q42:=eq_true q42) | ((with_reducible refine gate_builtin (b:=.append) (xs:=#[.tmp 43,.tmp 46]) rfl ?_);at_builtin;refine Kd.R_append_rows Kd.string (w0:=w0) w0.heap.size rfl (.tmp 43) (.tmp 46) 26 9 (.string ⟨#[]⟩) 16 rfl Try.underlying26 info9 rfl (by decide) (by omega) v269 y268 y271 _ _ _ (fun k_ => (P0_ k_ ∨ w.heap.size ≤ k_) ∧ some k_ ≠ (.slice Ao36 l0.length co36:Value).ownBlock) (fun _ => False) rfl rfl ?aO ?aR (fun _ _ h => h) (fun _ h => h.elim) ?aF ?aB ?aS ?aL ?_;(case aR => repeat (first | exact (by repeat (first | (with_reducible exact HR274.out) | (with_reducible refine Kd.C_alloc ?_ _) | (with_reducible refine Kd.C_drewN ?_ _) | (with_reducible refine Kd.C_drew ?_) | exact HR274.out)) | (with_reducible refine Kd.C_alloc ?_ _) | (with_reducible refine Kd.C_drewN ?_ _) | (with_reducible refine Kd.C_drew ?_)));(case aB => exact q14_);(case aF => exact q41_);(case aO => exact (by (with_reducible repeat (first | apply Kd.R_alloc | apply Kd.R_drewN | apply Kd.R_drew));exact HO270.out));(case aS => exact (below_size q14_));(case aL => have:=LMc35.out;omega);intro v276 w43 ho hb hg hat;rw [← Ny275.out] at ho;have n0_:=Aside0.mk (Kd.R_after (ok:=(fun k_ => (P0_ k_ ∨ w.heap.size ≤ k_))) q25_ hg hat);have n1_:=Aside0.mk (hb);have n2_:=Aside0.mk (Kept.of_grown (S:=(fun k_ => P0_ k_)) hg q15_ (fun k_ e_ => (HO270.out.1 k_ e_).1));have n3_:=Aside0.mk ((show Kd.C Kd.string w43 Ao36 y261.length y261 from by rw [Ny261.out];exact Kd.C_take (m:=(x5_2:Int).toNat) ((Kd.R_reads' (Kd.R_after (ok:=(fun k_ => (P0_ k_ ∨ w.heap.size ≤ k_))) q25_ hg hat)).2.2) KL39.out));have n4_:=Aside0.mk ((show Kd.C Kd.string w43 A42 y271.length y271 from by rw [Ny271.out,KA42.out];exact Kd.C_drop (m:=(x5_2:Int).toNat) (c:=co36) ((Kd.R_reads' (Kd.R_after (ok:=(fun k_ => (P0_ k_ ∨ w.heap.size ≤ k_))) q25_ hg hat)).2.2) KL42.out ((Kd.R_reads' (Kd.R_after (ok:=(fun k_ => (P0_ k_ ∨ w.heap.size ≤ k_))) q25_ hg hat)).2.1)));have n5_:=Aside0.mk (ho);clear HO_0;clear HB;clear HK;clear HR264;clear HR274;clear HO270;have HO_0:=n0_;have HB:=n1_;have HK:=n2_;have HR264:=n3_;have HR274:=n4_;have HO277:=n5_;clear n0_ n1_ n2_ n3_ n4_ n5_;clear ho hb hg hat))
  go_ret
  exact ⟨_,q16_,by (with_reducible repeat (first | apply Kd.R_alloc | apply Kd.R_drewN | apply Kd.R_drew));exact Kd.R_mono HO277.out (fun _ hk => hk.1),q14_,q15_⟩
mutual
def spec_NamesIn.l0:Nat → List (S30) → List ByteArray → Int → Option (List ByteArray)
 | 0,_,_,_ => none
 | k + 1,x0,x3,x4 => (spec_ExprOk.f k x0).bind fun t281 => (if t281 = true then (spec_NamesIn.j1 k x0 x3 x4 (decide (x4 < (x0.length:Int)))) else (spec_NamesIn.j1 k x0 x3 x4 false))
def spec_NamesIn.j1:Nat → List (S30) → List ByteArray → Int → Bool → Option (List ByteArray)
 | 0,_,_,_,_ => none
 | k + 1,x0,x3,x4,x13 => if x13 = true then (if 0 ≤ x4 then (if x4 < (x0.length:Int) then (if ((rd_T30 x0 x4).f2).toList = ([]:List UInt8) then (spec_NamesIn.l0 k x0 x3 (wrap64 (x4 + 1))) else ((spec_l2Put.f k x3 ((rd_T30 x0 x4).f2)).bind fun t284 => (spec_NamesIn.l0 k x0 t284 (wrap64 (x4 + 1))))) else (none)) else (none)) else (some x3)
end
def spec_NamesIn.f (k:Nat) (l0:List (S30)):Option (List ByteArray):=spec_NamesIn.l0 k l0 (([]:List ByteArray)) 0
theorem spec_NamesIn.mono_l:∀ k,(∀ y0 y1 y2,LeO (spec_NamesIn.l0 k y0 y1 y2) (spec_NamesIn.l0 (k + 1) y0 y1 y2)) ∧ (∀ y0 y1 y2 y3,LeO (spec_NamesIn.j1 k y0 y1 y2 y3) (spec_NamesIn.j1 (k + 1) y0 y1 y2 y3))
 | 0 => ⟨fun _ _ _ r h => by simp [spec_NamesIn.l0] at h,fun _ _ _ _ r h => by simp [spec_NamesIn.j1] at h⟩
 | k + 1 => by
  obtain ⟨ih0,ih1⟩:=spec_NamesIn.mono_l k
  refine ⟨?_,?_⟩
  ·intro y0 y1 y2
   unfold spec_NamesIn.l0
   repeat' first
   | (with_reducible first | exact ih0 _ _ _ | exact ih1 _ _ _ _ | exact spec_ExprOk.mono _ _ | exact spec_l2Put.mono _ _ _ | exact LeO.refl _ | exact LeO.none _ | refine LeO.ite ?_ ?_ | refine LeO.bind ?_ (fun _ => ?_))
   | exact ih0 _ _ _
   | exact ih1 _ _ _ _
   | exact spec_ExprOk.mono _ _
   | exact spec_l2Put.mono _ _ _
   | exact LeO.none _
   | refine LeO.ite ?_ ?_
   | refine LeO.bind ?_ (fun _ => ?_)
  intro y0 y1 y2 y3
  unfold spec_NamesIn.j1
  repeat' first
  | (with_reducible first | exact ih0 _ _ _ | exact ih1 _ _ _ _ | exact spec_ExprOk.mono _ _ | exact spec_l2Put.mono _ _ _ | exact LeO.refl _ | exact LeO.none _ | refine LeO.ite ?_ ?_ | refine LeO.bind ?_ (fun _ => ?_))
  | exact ih0 _ _ _
  | exact ih1 _ _ _ _
  | exact spec_ExprOk.mono _ _
  | exact spec_l2Put.mono _ _ _
  | exact LeO.none _
  | refine LeO.ite ?_ ?_
  | refine LeO.bind ?_ (fun _ => ?_)
theorem spec_NamesIn.mono:∀ a0 k,LeO (spec_NamesIn.f k a0) (spec_NamesIn.f (k + 1) a0):=by
 intro a0 k
 obtain ⟨ih0,ih1⟩:=spec_NamesIn.mono_l k
 unfold spec_NamesIn.f
 repeat' first
   | (with_reducible first | exact ih0 _ _ _ | exact ih1 _ _ _ _ | exact spec_ExprOk.mono _ _ | exact spec_l2Put.mono _ _ _ | exact LeO.refl _ | exact LeO.none _ | refine LeO.ite ?_ ?_ | refine LeO.bind ?_ (fun _ => ?_))
   | exact ih0 _ _ _
   | exact ih1 _ _ _ _
   | exact spec_ExprOk.mono _ _
   | exact spec_l2Put.mono _ _ _
   | exact LeO.none _
   | refine LeO.ite ?_ ?_
   | refine LeO.bind ?_ (fun _ => ?_)
theorem spec_NamesIn.calls (k:Nat) (A0:Option Addr) (c0:Nat) (l0:List (S30)) (r:List ByteArray) (w:World) (hr0:Kd.C k30 w A0 l0.length l0) (hc0:l0.length ≤ c0) (h:spec_NamesIn.f k l0 = some r) :
  Calls Try.prog 8 #[.slice A0 l0.length c0] w fun e w' => ∃ v0_:Value,e = .returned (v0_) ∧ Kd.R Kd.string 9 w' w.heap.size (fun _ => True) v0_ r ∧ Below w.heap.size w w':=by
 have HR0:=Aside0.mk hr0
 have HC0:=Aside0.mk hc0
 clear hr0 hc0
 have HB:=Aside0.mk (Below.refl w.heap.size w)
 have H:(spec_NamesIn.l0 k l0 (([]:List ByteArray)) 0) = some r:=h
 clear h
 obtain ⟨y278,hy278⟩:∃ y_:List ByteArray,y_ = (([]:List ByteArray)):=⟨_,rfl⟩
 replace H:(spec_NamesIn.l0 k l0 y278 0) = some r:=by first | (rw [hy278];exact H) | exact H
 have Ny278:=Aside0.mk hy278
 clear hy278
 have H':=Aside0.mk H
 clear H
 go_enter Try.func8,Try.ntmps8
 go_wp2_with (first | ((with_reducible refine gate_dst (N:=5) rfl ?_);(try (refine gate_guard (by rfl) ?_;dsimp only));refine Kd.R_lit Kd.string _ 9 ?hg (N:=5) ?hd (xs:=([]:List ByteArray)) (inner:=[]) (ok:=fun _ => True) (okp:=fun _ => True) ?hr ?hp (fun _ hk => hk) trivial (Below.refl _ _) (Nat.le_refl _) (by simp) ?_;(case hd => rfl);(case hg => rfl);(case hr => exact q42_);(case hp => exact (Reps.none _ _));intro v279 w2 ho3 hb hg_ hnew_;clear hg_ hnew_;(first | rw [← Ny278.out] at ho3 | (simp only [Int.reduceToNat] at ho3;rw [← Ny278.out] at ho3));have n0_:=Aside0.mk (Kd.R_lower ho3 (below_size q14_));have n1_:=Aside0.mk (below_step q14_ hb);clear HB;have HO280:=n0_;have HB:=n1_;clear n0_ n1_;clear hb ho3))
 go_loopg [3,4] k (fun kq v3 v4 w' => ∃ (x3_1:List ByteArray) (x4_1:Int),v4 = .int .i64 x4_1 ∧ Aside0 (spec_NamesIn.l0 kq l0 x3_1 x4_1 = some r) ∧ Aside0 (kq ≤ k) ∧ Aside0 (Kd.R Kd.string 9 w' w.heap.size (fun _ => True) v3 x3_1) ∧ Aside0 (Below w.heap.size w w'))
 case atStart => exact ⟨(y278),(0),q19_,H',⟨Nat.le_refl _⟩,⟨by (with_reducible repeat (first | apply Kd.R_alloc | apply Kd.R_drewN | apply Kd.R_drew));exact HO280.out⟩,⟨q14_⟩⟩
 clear H'
 try clear p2
 obtain ⟨x3_1,x4_1,rfl,HA,HK1,HO_3,HB⟩:=hrel
 cases gk with
 | zero => exact absurd HA.out (by simp [spec_NamesIn.l0])
 | succ k1 =>
  have H:=HA.out
  clear HA
  simp only [spec_NamesIn.l0] at H
  have HC4:=Aside0.mk H
  clear H
  go_upto_region 3 with (fail)
  go_cut [13] (fun v13 wc => ∃ (kq:Nat) (x13_3:Bool),v13 = .bool x13_3 ∧ Aside0 (spec_NamesIn.j1 kq l0 x3_1 x4_1 x13_3 = some r) ∧ Aside0 (kq ≤ k1) ∧ Aside0 (Kd.R Kd.string 9 wc w.heap.size (fun _ => True) u3 x3_1) ∧ Aside0 (Below w.heap.size w wc))
  case first =>
   have H:=HC4.out
   clear HC4
   replace H:=Option.bind_eq_some_iff.mp H
   obtain ⟨t281,A50,H⟩:=H
   have A5:=Aside0.mk A50
   clear A50
   by_cases c6:t281 = true
   ·subst c6
    rewrite [if_pos rfl] at H
    have H':=Aside0.mk H
    clear H
    go_wp2_with (first | ((with_reducible refine gate_callee (f:=12) rfl ?_);refine goesL_ (some 7) rfl rfl Try.func12 (by kernel_rfl) rfl #[.slice A0 l0.length c0] rfl q13_ ?_;(with_reducible refine (spec_ExprOk.calls k1 _ _ l0 true _ ?side1 ?side2 A5.out).mono ?_);(case side1 => exact q35_);(case side2 => exact HC0.out);rintro e w7 ⟨rfl,hb⟩;refine ⟨_,rfl,?_⟩;have n0_:=Aside0.mk (Kd.R_below q26_ hb);have n1_:=Aside0.mk (below_step q14_ hb);clear HO_3;clear HB;have HO_3:=n0_;have HB:=n1_;clear n0_ n1_;(try clear hb)))
    go_meet
    case rel => exact ⟨_,(decide (x4_1 < (l0.length:Int))),q19_,H',⟨q31_⟩,⟨q26_⟩,⟨q14_⟩⟩
   replace c6:=Bool.eq_false_iff.mpr c6
   subst c6
   rewrite [if_neg (show ¬ (false = true) by decide)] at H
   have H':=Aside0.mk H
   clear H
   go_wp2_with (first | ((with_reducible refine gate_callee (f:=12) rfl ?_);refine goesL_ (some 7) rfl rfl Try.func12 (by kernel_rfl) rfl #[.slice A0 l0.length c0] rfl q13_ ?_;(with_reducible refine (spec_ExprOk.calls k1 _ _ l0 false _ ?side1 ?side2 A5.out).mono ?_);(case side1 => exact q35_);(case side2 => exact HC0.out);rintro e w8 ⟨rfl,hb⟩;refine ⟨_,rfl,?_⟩;have n0_:=Aside0.mk (Kd.R_below q26_ hb);have n1_:=Aside0.mk (below_step q14_ hb);clear HO_3;clear HB;have HO_3:=n0_;have HB:=n1_;clear n0_ n1_;(try clear hb)))
   go_meet
   case rel => exact ⟨_,(false),q19_,H',⟨q31_⟩,⟨q26_⟩,⟨q14_⟩⟩
  clear HC4
  try clear c1
  try clear p2 p2
  try clear c6
  try clear p6
  try clear c8
  obtain ⟨kq,x13_3,rfl,HA,HJ3,HO_3,HB⟩:=hcut
  cases kq with
  | zero => exact absurd HA.out (by simp [spec_NamesIn.j1])
  | succ kj3 =>
   have H:=HA.out
   clear HA
   simp only [spec_NamesIn.j1] at H
   by_cases c9:x13_3 = true
   ·subst c9
    rewrite [if_pos rfl] at H
    by_cases c10:0 ≤ x4_1
    rotate_left
    ·rw [if_neg c10] at H
     exact absurd H (by simp)
    rw [if_pos c10] at H
    have c10b0:=decide_eq_true c10
    clear c10
    by_cases c11:x4_1 < (l0.length:Int)
    rotate_left
    ·rw [if_neg c11] at H
     exact absurd H (by simp)
    rw [if_pos c11] at H
    have c11b0:=decide_eq_true c11
    clear c11
    by_cases c12:((rd_T30 l0 x4_1).f2).toList = ([]:List UInt8)
    ·rw [if_pos c12] at H
     have c12b0:(((rd_T30 l0 x4_1).f2).toList == ([]:List UInt8)) = true:=beq_iff_eq.mpr c12
     have c12b1:(((rd_T30 l0 x4_1).f2).toList != ([]:List UInt8)) = false:=bne_eq_false_iff_eq.mpr c12
     have c12b9:((rd_T30 l0 x4_1).f2).toList.isEmpty = true:=(isEmpty_beq _).trans c12b0
     clear c12
     have H':=Aside0.mk H
     clear H
     have p282:0 ≤ (x4_1:Int):=of_decide_eq_true q32_
     have q282:x4_1 < (l0.length:Int):=of_decide_eq_true q32_
     obtain ⟨ad282,e282,hx282_0,hx282_1,hx282_2⟩:=at_T30 HR0.out x4_1 p282 q282
     cases e282
     replace hx282_0:=(HB.out.cell (World.block_lt_of_cell? w _ hx282_0)).trans hx282_0
     replace hx282_1:=(HB.out.cell (World.block_lt_of_cell? w _ hx282_1)).trans hx282_1
     replace hx282_2:=(HB.out.cell (World.block_lt_of_cell? w _ hx282_2)).trans hx282_2
     replace p282:=eq_true p282
     replace q282:=eq_true q282
     go_wp2
     go_roundg kj3
     case measure => have:=HK1.out;have:=HJ3.out;omega
     case rel => exact ⟨(x3_1),(wrap64 (x4_1 + 1)),q19_,H',⟨by have:=HK1.out;have:=HJ3.out;omega⟩,⟨q26_⟩,⟨q14_⟩⟩
    rw [if_neg c12] at H
    have c12b0:(((rd_T30 l0 x4_1).f2).toList == ([]:List UInt8)) = false:=beq_eq_false_iff_ne.mpr c12
    have c12b1:(((rd_T30 l0 x4_1).f2).toList != ([]:List UInt8)) = true:=bne_iff_ne.mpr c12
    have c12b9:((rd_T30 l0 x4_1).f2).toList.isEmpty = false:=(isEmpty_beq _).trans c12b0
    replace H:=Option.bind_eq_some_iff.mp H
    obtain ⟨t284,A130,H⟩:=H
    have A13:=Aside0.mk A130
    clear A130
    have H':=Aside0.mk H
    clear H
    have p282:0 ≤ (x4_1:Int):=of_decide_eq_true q32_
    have q282:x4_1 < (l0.length:Int):=of_decide_eq_true q32_
    obtain ⟨ad282,e282,hx282_0,hx282_1,hx282_2⟩:=at_T30 HR0.out x4_1 p282 q282
    cases e282
    replace hx282_0:=(HB.out.cell (World.block_lt_of_cell? w _ hx282_0)).trans hx282_0
    replace hx282_1:=(HB.out.cell (World.block_lt_of_cell? w _ hx282_1)).trans hx282_1
    replace hx282_2:=(HB.out.cell (World.block_lt_of_cell? w _ hx282_2)).trans hx282_2
    replace p282:=eq_true p282
    replace q282:=eq_true q282
    have p283:0 ≤ (x4_1:Int):=of_decide_eq_true q32_
    have q283:x4_1 < (l0.length:Int):=of_decide_eq_true q32_
    obtain ⟨ad283,e283,hx283_0,hx283_1,hx283_2⟩:=at_T30 HR0.out x4_1 p283 q283
    obtain rfl:ad282 = ad283:=(by injection e283)
    replace hx283_0:=(HB.out.cell (World.block_lt_of_cell? w _ hx283_0)).trans hx283_0
    replace hx283_1:=(HB.out.cell (World.block_lt_of_cell? w _ hx283_1)).trans hx283_1
    replace hx283_2:=(HB.out.cell (World.block_lt_of_cell? w _ hx283_2)).trans hx283_2
    replace p283:=eq_true p283
    replace q283:=eq_true q283
    obtain ⟨Ao14,co14,eo14⟩:=Kd.R_slice HO_3.out
    subst eo14
    go_wp2_with (first | ((with_reducible refine gate_callee (f:=13) rfl ?_);refine goesL_ (some 28) rfl rfl Try.func13 (by kernel_rfl) rfl #[.slice Ao14 x3_1.length co14,.string ((rd_T30 l0 x4_1).f2)] rfl q13_ ?_;(with_reducible refine (spec_l2Put.calls kj3 (fun k_ => some k_ = (.slice Ao14 x3_1.length co14:Value).ownBlock) (.slice Ao14 x3_1.length co14) x3_1 ((rd_T30 l0 x4_1).f2) t284 w _ ?side1 ?side2 A13.out).mono ?_);(case side1 => repeat (first | (with_reducible first | exact HB.out | apply below_alloc | apply pw_below_drewN | apply below_drew1) | exact HB.out));(case side2 => exact Kd.R_tight rfl HO_3.out);rintro e w15 ⟨v285,rfl,ho0,hb,hkp⟩;refine ⟨_,rfl,?_⟩;have n0_:=Aside0.mk (Kd.R_mono (ok':=fun k_ => True) ho0 (fun k_ hk_ => trivial));have n1_:=Aside0.mk (hb);clear HB;clear HO_3;have HO286:=n0_;have HB:=n1_;clear n0_ n1_;(try clear hb);(try clear hkp);(try clear ho0)))
    go_roundg kj3
    case measure => have:=HK1.out;have:=HJ3.out;omega
    case rel => exact ⟨(t284),(wrap64 (x4_1 + 1)),q19_,H',⟨by have:=HK1.out;have:=HJ3.out;omega⟩,⟨by (with_reducible repeat (first | apply Kd.R_alloc | apply Kd.R_drewN | apply Kd.R_drew));exact HO286.out⟩,⟨q14_⟩⟩
   replace c9:=Bool.eq_false_iff.mpr c9
   subst c9
   rewrite [if_neg (show ¬ (false = true) by decide)] at H
   obtain rfl:=Option.some.inj H
   go_wp2
   go_ret
   exact ⟨_,q16_,q26_,q14_⟩
end Go.Proofs.Ytoiiaklmjpiejaa.QFnNamesIn
