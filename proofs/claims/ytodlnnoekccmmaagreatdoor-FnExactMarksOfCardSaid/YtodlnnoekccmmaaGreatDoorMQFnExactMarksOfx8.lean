/- The machine's side of a law,written by a program of this session for this claim. -/
import Derived.Test.YtodlnnoekccmmaaGreatDoorMQq
import Derived.Test.YtodlnnoekccmmaaGreatDoorMQFnExactMarksOfx0
namespace Go.Proofs.YtodlnnoekccmmaaGreatDoor.QFnExactMarksOf
open Go.Proofs.YtodlnnoekccmmaaGreatDoor.Qq
open Go.RowKit Go.Proofs.YtodlnnoekccmmaaGreatDoor.LibX Go.Proofs.YtodlnnoekccmmaaGreatDoor.LibE Go.Proofs.YtodlnnoekccmmaaGreatDoor.LibCB Go.Proofs.YtodlnnoekccmmaaGreatDoorW.PrintWords Go.Proofs.YtodlnnoekccmmaaGreatDoorW.PrintLast Go.Proofs.YtodlnnoekccmmaaGreatDoorW.PrintMore
attribute [local go_sem] max2_int min2_int max_two min_two max_three min_three max_four min_four   -- for this text's walks alone
set_option maxHeartbeats 8000000
set_option maxRecDepth 100000
set_option linter.unusedVariables false
set_option linter.unusedSimpArgs false
def laws_toInt64S.l0:Nat → List Int → List Int → Int → Option (List Int)
 | 0,_,_,_ => none
 | k + 1,x0,x3,x4 => if x4 < (x0.length:Int) then (if 0 ≤ x4 then (if x4 < (x3.length:Int) then (laws_toInt64S.l0 k x0 (x3.set (x4:Int).toNat (rd x0 x4)) (wrap64 (x4 + 1))) else (none)) else (none)) else (some x3)
def laws_toInt64S.f (k:Nat) (l0:List Int):Option (List Int):=if 0 ≤ (l0.length:Int) then (if ((l0.length:Int):Int).toNat ≤ 35184372088832 then (laws_toInt64S.l0 k l0 (List.replicate ((l0.length:Int):Int).toNat 0) 0) else (none)) else (none)
theorem laws_toInt64S.mono_l:∀ k,(∀ y0 y1 y2,LeO (laws_toInt64S.l0 k y0 y1 y2) (laws_toInt64S.l0 (k + 1) y0 y1 y2))
 | 0 => fun _ _ _ r h => by simp [laws_toInt64S.l0] at h
 | k + 1 => by
  have ih0:=laws_toInt64S.mono_l k
  intro y0 y1 y2
  unfold laws_toInt64S.l0
  repeat' first
  | (with_reducible first | exact ih0 _ _ _ | exact LeO.refl _ | exact LeO.none _ | refine LeO.ite ?_ ?_ | refine LeO.bind ?_ (fun _ => ?_))
  | exact ih0 _ _ _
  | exact LeO.none _
  | refine LeO.ite ?_ ?_
  | refine LeO.bind ?_ (fun _ => ?_)
theorem laws_toInt64S.mono:∀ a0 k,LeO (laws_toInt64S.f k a0) (laws_toInt64S.f (k + 1) a0):=by
 intro a0 k
 have ih0:=laws_toInt64S.mono_l k
 unfold laws_toInt64S.f
 repeat' first
   | (with_reducible first | exact ih0 _ _ _ | exact LeO.refl _ | exact LeO.none _ | refine LeO.ite ?_ ?_ | refine LeO.bind ?_ (fun _ => ?_))
   | exact ih0 _ _ _
   | exact LeO.none _
   | refine LeO.ite ?_ ?_
   | refine LeO.bind ?_ (fun _ => ?_)
theorem laws_toInt64S.calls (k:Nat) (A0:Option Addr) (c0:Nat) (l0:List Int) (r:List Int) (w:World) (hr0:Kd.C (Kd.int .i64) w A0 l0.length l0) (hc0:l0.length ≤ c0) (h:laws_toInt64S.f k l0 = some r) :
  Calls Tryz.prog 32 #[.slice A0 l0.length c0] w fun e w' => ∃ v0_:Value,e = .returned (v0_) ∧ Kd.R (Kd.int .i64) 2 w' w.heap.size (fun _ => True) v0_ r ∧ Below w.heap.size w w':=by
 have HR0:=Aside0.mk hr0
 have HC0:=Aside0.mk hc0
 clear hr0 hc0
 have HB:=Aside0.mk (Below.refl w.heap.size w)
 have H:(if 0 ≤ (l0.length:Int) then (if ((l0.length:Int):Int).toNat ≤ 35184372088832 then (laws_toInt64S.l0 k l0 (List.replicate ((l0.length:Int):Int).toNat 0) 0) else (none)) else (none)) = some r:=h
 clear h
 by_cases c2:0 ≤ (l0.length:Int)
 rotate_left
 ·rw [if_neg c2] at H
  exact absurd H (by simp)
 rw [if_pos c2] at H
 have c2b0:=eq_true c2
 have c2b1:decide (0 ≤ (l0.length:Int)) = true:=decide_eq_true c2
 clear c2
 by_cases c3:((l0.length:Int):Int).toNat ≤ 35184372088832
 rotate_left
 ·rw [if_neg c3] at H
  exact absurd H (by simp)
 rw [if_pos c3] at H
 have c3b0:=eq_true c3
 have c3b1:decide (((l0.length:Int):Int).toNat ≤ 35184372088832) = true:=decide_eq_true c3
 clear c3
 obtain ⟨y324,hy324⟩:∃ y_:List Int,y_ = (List.replicate ((l0.length:Int):Int).toNat 0):=⟨_,rfl⟩
 replace H:(laws_toInt64S.l0 k l0 y324 0) = some r:=by first | (rw [hy324];with_reducible exact H) | (have H2_:=(Option.bind_some _ _).symm.trans H;rw [hy324];with_reducible exact H2_) | (have H2_:=(Option.bind_some _ _).symm.trans H;with_reducible exact H2_) | with_reducible exact H | (rw [hy324];exact H) | exact H
 have Ny324:=Aside0.mk hy324
 clear hy324
 have H':=Aside0.mk H
 clear H
 go_enter Tryz.func32,Tryz.ntmps32
 go_wp2_with (first | ((with_reducible refine gate_dst (N:=7) rfl ?_);refine Kd.R_make (Kd.int .i64) _ 2 rfl (N:=7) rfl 40 _ _ rfl (l0.length:Int) rfl rfl Tryz.underlying40 (.int .i64 0) 8 info2 rfl (by decide) (by omega) 0 (ok:=fun _ => True) (okp:=fun _ => True) rfl (fun _ hk => hk) trivial (of_decide_eq_true q83_) (Nat.le_trans (Nat.mul_le_mul_right _ (of_decide_eq_true q83_:(l0.length:Int).toNat ≤ 35184372088832)) (by omega)) (Below.refl _ _) (Nat.le_refl _) ?_;intro v325 w4 ho5 hb hg_ hnew_;clear hg_ hnew_;(first | rw [← Ny324.out] at ho5 | (simp only [Int.reduceToNat] at ho5;rw [← Ny324.out] at ho5));have n0_:=Aside0.mk (Kd.R_lower ho5 (below_size q42_));have n1_:=Aside0.mk (below_step q42_ hb);clear HB;have HO326:=n0_;have HB:=n1_;clear n0_ n1_;clear hb ho5))
 go_loopg [4] k (fun kq v4 w' => ∃ (x3_1:List Int) (x4_1:Int),v4 = .int .i64 x4_1 ∧ Aside0 (laws_toInt64S.l0 kq l0 x3_1 x4_1 = some r) ∧ Aside0 (kq ≤ k) ∧ Aside0 (Kd.R (Kd.int .i64) 2 w' w.heap.size (fun _ => True) v325 x3_1) ∧ Aside0 (Below w.heap.size w w'))
 case atStart => exact ⟨(y324),(0),q58_,H',⟨Nat.le_refl _⟩,⟨by (with_reducible repeat (first | apply Kd.R_alloc | apply Kd.R_drewN | apply Kd.R_drew));exact HO326.out⟩,⟨q42_⟩⟩
 clear H'
 try clear c2
 try clear c2b0
 try clear c2b1
 try clear p2
 try clear c3
 try clear c3b0
 try clear c3b1
 obtain ⟨x3_1,x4_1,rfl,HA,HK1,HO_3,HB⟩:=hrel
 cases gk with
 | zero => exact absurd HA.out (by simp [laws_toInt64S.l0])
 | succ k1 =>
  have H:=HA.out
  clear HA
  simp only [laws_toInt64S.l0] at H
  by_cases c6:x4_1 < (l0.length:Int)
  ·rw [if_pos c6] at H
   have c6b0:decide (x4_1 < (l0.length:Int)) = true:=decide_eq_true c6
   clear c6
   by_cases c7:0 ≤ x4_1
   rotate_left
   ·rw [if_neg c7] at H
    exact absurd H (by simp)
   rw [if_pos c7] at H
   have c7b0:decide (0 ≤ x4_1) = true:=decide_eq_true c7
   clear c7
   by_cases c8:x4_1 < (x3_1.length:Int)
   rotate_left
   ·rw [if_neg c8] at H
    exact absurd H (by simp)
   rw [if_pos c8] at H
   have c8b0:decide (x4_1 < (x3_1.length:Int)) = true:=decide_eq_true c8
   clear c8
   obtain ⟨y328,hy328⟩:∃ y_:List Int,y_ = (x3_1.set (x4_1:Int).toNat (rd l0 x4_1)):=⟨_,rfl⟩
   replace H:(laws_toInt64S.l0 k1 l0 y328 (wrap64 (x4_1 + 1))) = some r:=by first | (rw [hy328];with_reducible exact H) | (have H2_:=(Option.bind_some _ _).symm.trans H;rw [hy328];with_reducible exact H2_) | (have H2_:=(Option.bind_some _ _).symm.trans H;with_reducible exact H2_) | with_reducible exact H | (rw [hy328];exact H) | exact H
   have Ny328:=Aside0.mk hy328
   clear hy328
   have H':=Aside0.mk H
   clear H
   have p327:0 ≤ (x4_1:Int):=of_decide_eq_true q83_
   have q327:x4_1 < (l0.length:Int):=of_decide_eq_true q83_
   obtain ⟨ad327,e327,hx327_0⟩:=Kd.at_int HR0.out x4_1 p327 q327
   cases e327
   replace hx327_0:=(HB.out.cell (World.block_lt_of_cell? w _ hx327_0)).trans hx327_0
   replace p327:=eq_true p327
   replace q327:=eq_true q327
   have p9:0 ≤ (x4_1:Int):=of_decide_eq_true q83_
   have q9:(x4_1:Int) < ((x3_1.length:Int):Int):=of_decide_eq_true q83_
   obtain ⟨go9,co9,eo9,gb9,gl9,cl9,HG9⟩:=Kd.R_form HO_3.out (by omega)
   (first | cases eo9 | (injection eo9 with ea_ en_ ec_;(first | subst ea_ | (injection ea_ with ea_;subst ea_));subst ec_;clear en_))
   have GB9:=Aside0.mk gb9
   have GG9:=Aside0.mk HG9
   clear gb9 gl9 HG9
   obtain ⟨hx9_0,hf9_0⟩:=Kd.R_celln 0 HO_3.out (x4_1:Int) p9 q9
   replace p9:=eq_true p9
   replace q9:=eq_true q9
   have HP10:=Kd.R_putg HO_3.out (x4_1:Int) (rd l0 x4_1)
   go_wp2_with (first | ((with_reducible refine gate_store (t:=2) (p:=20) rfl ?_);refine store_event (t:=2) (p:=20) (v:=?vo_w11) (w1:=(wr.setCell ⟨go9,(x4_1:Int).toNat,none⟩ (.int .i64 (rd l0 x4_1)))) ?hg ?ho ?hn ?hr ?_;(case ho => rfl);(case hg => rfl);(case hn => rfl);(case hr => exact q108_);intro w11 hw;have hg:wr.grownBy w11 (some go9):=(by rw [hw];exact HP10.2);have hp_:Kd.R (Kd.int .i64) 2 w11 w.heap.size (fun _ => True) (.slice (some ⟨go9,0,none⟩) x3_1.length co9) y328:=(by rw [hw,Ny328.out];exact HP10.1);clear HP10;have n0_:=Aside0.mk (hp_);have n1_:=Aside0.mk ((by rw [hw];exact below_set (HB.out) GB9.out:Below w.heap.size w w11));clear HO_3;clear HB;have HO_3:=n0_;have HB:=n1_;clear n0_ n1_;clear hg hw hp_))
   go_roundg k1
   case measure => have:=HK1.out;omega
   case rel => exact ⟨(y328),(wrap64 (x4_1 + 1)),q58_,H',⟨by have:=HK1.out;omega⟩,⟨by (with_reducible repeat (first | apply Kd.R_alloc | apply Kd.R_drewN | apply Kd.R_drew));exact HO_3.out⟩,⟨q42_⟩⟩
  rw [if_neg c6] at H
  have c6b0:decide (x4_1 < (l0.length:Int)) = false:=decide_eq_false c6
  clear c6
  obtain rfl:=Option.some.inj H
  go_wp2
  go_ret
  exact ⟨_,q47_,by (with_reducible repeat (first | apply Kd.R_alloc | apply Kd.R_drewN | apply Kd.R_drew));exact HO_3.out,q42_⟩
def impl_within.f (a0:Int) (a1:Int) (a2:Int):Option (Bool):=if a0 ≥ a1 then (some (decide (a0 ≤ a2))) else (some false)
theorem impl_within.calls (a0:Int) (a1:Int) (a2:Int) (r:Bool) (w:World) (h:impl_within.f a0 a1 a2 = some r) :
  Calls Tryz.prog 61 #[.int .i64 a0,.int .i64 a1,.int .i64 a2] w fun e w' => e = .returned (.bool r) ∧ Drawn0 w w':=by
 have H:(if a0 ≥ a1 then (some (decide (a0 ≤ a2))) else (some false)) = some r:=h
 clear h
 by_cases c4:a0 ≥ a1
 ·rw [if_pos c4] at H
  have c4b0:decide (a1 ≤ a0) = true:=decide_eq_true c4
  clear c4
  obtain rfl:=Option.some.inj H
  go_enter Tryz.func61,Tryz.ntmps61
  go_wp2
  go_ret
  exact ⟨q58_,q81_⟩
 rw [if_neg c4] at H
 have c4b0:decide (a1 ≤ a0) = false:=decide_eq_false c4
 clear c4
 obtain rfl:=Option.some.inj H
 go_enter Tryz.func61,Tryz.ntmps61
 go_wp2
 go_ret
 exact ⟨q58_,q81_⟩
def impl_banksOf.f (a0:ByteArray) (a1:Int):Option (Int):=if ((a0.size:Int) % 256) = 0 then ((impl_within.f (wrap64 ((a0.size:Int) / 256)) a1 16).bind fun t329 => (if t329 = true then (some (wrap64 ((a0.size:Int) / 256))) else (some 0))) else (some 0)
theorem impl_banksOf.calls (a0:ByteArray) (a1:Int) (r:Int) (w:World) (h:impl_banksOf.f a0 a1 = some r) :
  Calls Tryz.prog 78 #[.string a0,.int .i64 a1] w fun e w' => e = .returned (.int .i64 r) ∧ Drawn0 w w':=by
 have H:(if ((a0.size:Int) % 256) = 0 then ((impl_within.f (wrap64 ((a0.size:Int) / 256)) a1 16).bind fun t329 => (if t329 = true then (some (wrap64 ((a0.size:Int) / 256))) else (some 0))) else (some 0)) = some r:=h
 clear h
 by_cases c3:((a0.size:Int) % 256) = 0
 ·rw [if_pos c3] at H
  have c3b0:(((a0.size:Int) % 256) == 0) = true:=beq_iff_eq.mpr c3
  have c3b1:(((a0.size:Int) % 256) != 0) = false:=bne_eq_false_iff_eq.mpr c3
  clear c3
  replace H:=Option.bind_eq_some_iff.mp H
  obtain ⟨t329,A40,H⟩:=H
  have A4:=Aside0.mk A40
  clear A40
  by_cases c5:t329 = true
  ·subst c5
   replace H:(some (wrap64 ((a0.size:Int) / 256))) = some r:=by rw [if_pos rfl] at H;exact H
   obtain rfl:=Option.some.inj H
   go_enter Tryz.func78,Tryz.ntmps78
   go_wp2_with (first | (go_at_call 61;(with_reducible refine (impl_within.calls (wrap64 ((a0.size:Int) / 256)) a1 16 true _ A4.out).mono ?_);rintro e w' ⟨rfl,⟨nd,rfl⟩⟩))
   go_ret
   exact ⟨q58_,q81_⟩
  replace c5:=Bool.eq_false_iff.mpr c5
  subst c5
  replace H:(some 0) = some r:=by rw [if_neg (show ¬ (false = true) by decide)] at H;exact H
  obtain rfl:=Option.some.inj H
  go_enter Tryz.func78,Tryz.ntmps78
  go_wp2_with (first | (go_at_call 61;(with_reducible refine (impl_within.calls (wrap64 ((a0.size:Int) / 256)) a1 16 false _ A4.out).mono ?_);rintro e w' ⟨rfl,⟨nd,rfl⟩⟩))
  go_ret
  exact ⟨q58_,q81_⟩
 rw [if_neg c3] at H
 have c3b0:(((a0.size:Int) % 256) == 0) = false:=beq_eq_false_iff_ne.mpr c3
 have c3b1:(((a0.size:Int) % 256) != 0) = true:=bne_iff_ne.mpr c3
 obtain rfl:=Option.some.inj H
 go_enter Tryz.func78,Tryz.ntmps78
 go_wp2
 go_ret
 exact ⟨q58_,q81_⟩
def impl_isByte.f (a0:Int):Option (Bool):=(impl_within.f a0 0 255).bind fun t330 => (some t330)
theorem impl_isByte.calls (a0:Int) (r:Bool) (w:World) (h:impl_isByte.f a0 = some r) :
  Calls Tryz.prog 58 #[.int .i64 a0] w fun e w' => e = .returned (.bool r) ∧ Drawn0 w w':=by
 have H:((impl_within.f a0 0 255).bind fun t330 => (some t330)) = some r:=h
 clear h
 replace H:=Option.bind_eq_some_iff.mp H
 obtain ⟨t330,A20,H⟩:=H
 have A2:=Aside0.mk A20
 clear A20
 obtain rfl:=Option.some.inj H
 go_enter Tryz.func58,Tryz.ntmps58
 go_wp2_with (first | ((with_reducible refine gate_callee (f:=61) rfl ?_);refine goesL_ (some 4) rfl rfl Tryz.func61 (by kernel_rfl) rfl #[.int .i64 a0,.int .i64 0,.int .i64 255] rfl q40_ ?_;(with_reducible refine (impl_within.calls a0 0 255 t330 _ A2.out).mono ?_);rintro e w' ⟨rfl,⟨nd,rfl⟩⟩;refine ⟨_,rfl,?_⟩))
 go_ret
 exact ⟨q58_,q81_⟩
def impl_decimal.f (a0:Int):Option (ByteArray):=(strconv_FormatInt.f a0 10).bind fun t331 => (some t331)
theorem impl_decimal.calls (a0:Int) (r:ByteArray) (w:World) (h:impl_decimal.f a0 = some r) (hG:Go.Proofs.YtodlnnoekccmmaaGreatDoor.LibW.GL w:=by first | exact hG | exact hG.below q2_ | exact hG.drewN _) :
  Calls Tryz.prog 89 #[.int .i64 a0] w fun e w' => e = .returned (.string r) ∧ Below w.heap.size w w':=by
 have HB:=Aside0.mk (Below.refl w.heap.size w)
 have H:((strconv_FormatInt.f a0 10).bind fun t331 => (some t331)) = some r:=h
 clear h
 replace H:=Option.bind_eq_some_iff.mp H
 obtain ⟨t331,A20,H⟩:=H
 have A2:=Aside0.mk A20
 clear A20
 obtain rfl:=Option.some.inj H
 go_enter Tryz.func89,Tryz.ntmps89
 go_wp2_with (first | ((with_reducible refine gate_callee (f:=127) rfl ?_);refine goesL_ (some 4) rfl rfl Tryz.func127 (by kernel_rfl) rfl #[.int .i64 a0,.int .i64 10] rfl q40_ ?_;(with_reducible refine (strconv_FormatInt.calls a0 10 t331 _ A2.out).mono ?_);rintro e w3 ⟨rfl,hb⟩;refine ⟨_,rfl,?_⟩;replace HB:=Aside0.mk (below_step q42_ hb);(try clear hb)))
 go_ret
 exact ⟨q47_,q42_⟩
def impl_names.f (a0:ByteArray):Option (List ByteArray):=(strings_Split.f a0 (⟨#[32]⟩:ByteArray)).bind fun t332 => (some t332)
theorem impl_names.calls (a0:ByteArray) (r:List ByteArray) (w:World) (h:impl_names.f a0 = some r) (hG:Go.Proofs.YtodlnnoekccmmaaGreatDoor.LibW.GL w:=by first | exact hG | exact hG.below q2_ | exact hG.drewN _) :
  Calls Tryz.prog 97 #[.string a0] w fun e w' => ∃ v0_:Value,e = .returned (v0_) ∧ Kd.R Kd.string 9 w' w.heap.size (fun _ => True) v0_ r ∧ Below w.heap.size w w':=by
 have HB:=Aside0.mk (Below.refl w.heap.size w)
 have H:((strings_Split.f a0 (⟨#[32]⟩:ByteArray)).bind fun t332 => (some t332)) = some r:=h
 clear h
 replace H:=Option.bind_eq_some_iff.mp H
 obtain ⟨t332,A20,H⟩:=H
 have A2:=Aside0.mk A20
 clear A20
 obtain rfl:=Option.some.inj H
 go_enter Tryz.func97,Tryz.ntmps97
 go_wp2_with (first | ((with_reducible refine gate_callee (f:=131) rfl ?_);refine goesL_ (some 4) rfl rfl Tryz.func131 (by kernel_rfl) rfl #[.string a0,.string (⟨#[32]⟩:ByteArray)] rfl q40_ ?_;(with_reducible refine (strings_Split.calls a0 (⟨#[32]⟩:ByteArray) t332 _ A2.out).mono ?_);rintro e w3 ⟨v333,rfl,ho0,hb⟩;refine ⟨_,rfl,?_⟩;have n0_:=Aside0.mk (Kd.R_lower ho0 (below_size q42_));have n1_:=Aside0.mk (below_step q42_ hb);clear HB;have HO334:=n0_;have HB:=n1_;clear n0_ n1_;(try clear hb);(try clear ho0)))
 go_ret
 exact ⟨_,q47_,by (with_reducible repeat (first | apply Kd.R_alloc | apply Kd.R_drewN | apply Kd.R_drew));exact HO334.out,q42_⟩
def impl_regs.f :Option (List ByteArray):=(impl_names.f (⟨#[98,32,99,32,100,32,101,32,104,32,108,32,91,104,108,93,32,97]⟩:ByteArray)).bind fun t335 => (some t335)
theorem impl_regs.calls  (r:List ByteArray) (w:World) (h:impl_regs.f  = some r) (hG:Go.Proofs.YtodlnnoekccmmaaGreatDoor.LibW.GL w:=by first | exact hG | exact hG.below q2_ | exact hG.drewN _) :
  Calls Tryz.prog 96 #[] w fun e w' => ∃ v0_:Value,e = .returned (v0_) ∧ Kd.R Kd.string 9 w' w.heap.size (fun _ => True) v0_ r ∧ Below w.heap.size w w':=by
 have HB:=Aside0.mk (Below.refl w.heap.size w)
 have H:((impl_names.f (⟨#[98,32,99,32,100,32,101,32,104,32,108,32,91,104,108,93,32,97]⟩:ByteArray)).bind fun t335 => (some t335)) = some r:=h
 clear h
 replace H:=Option.bind_eq_some_iff.mp H
 obtain ⟨t335,A10,H⟩:=H
 have A1:=Aside0.mk A10
 clear A10
 obtain rfl:=Option.some.inj H
 go_enter Tryz.func96,Tryz.ntmps96
 go_wp2_with (first | ((with_reducible refine gate_callee (f:=97) rfl ?_);refine goesL_ (some 1) rfl rfl Tryz.func97 (by kernel_rfl) rfl #[.string (⟨#[98,32,99,32,100,32,101,32,104,32,108,32,91,104,108,93,32,97]⟩:ByteArray)] rfl q40_ ?_;(with_reducible refine (impl_names.calls (⟨#[98,32,99,32,100,32,101,32,104,32,108,32,91,104,108,93,32,97]⟩:ByteArray) t335 _ A1.out).mono ?_);rintro e w2 ⟨v336,rfl,ho0,hb⟩;refine ⟨_,rfl,?_⟩;have n0_:=Aside0.mk (Kd.R_lower ho0 (below_size q42_));have n1_:=Aside0.mk (below_step q42_ hb);clear HB;have HO337:=n0_;have HB:=n1_;clear n0_ n1_;(try clear hb);(try clear ho0)))
 go_ret
 exact ⟨_,q47_,by (with_reducible repeat (first | apply Kd.R_alloc | apply Kd.R_drewN | apply Kd.R_drew));exact HO337.out,q42_⟩
def impl_turns.f :Option (List ByteArray):=(impl_names.f (⟨#[114,108,99,32,114,114,99,32,114,108,32,114,114,32,115,108,97,32,115,114,97,32,115,119,97,112,32,115,114,108]⟩:ByteArray)).bind fun t338 => (some t338)
theorem impl_turns.calls  (r:List ByteArray) (w:World) (h:impl_turns.f  = some r) (hG:Go.Proofs.YtodlnnoekccmmaaGreatDoor.LibW.GL w:=by first | exact hG | exact hG.below q2_ | exact hG.drewN _) :
  Calls Tryz.prog 128 #[] w fun e w' => ∃ v0_:Value,e = .returned (v0_) ∧ Kd.R Kd.string 9 w' w.heap.size (fun _ => True) v0_ r ∧ Below w.heap.size w w':=by
 have HB:=Aside0.mk (Below.refl w.heap.size w)
 have H:((impl_names.f (⟨#[114,108,99,32,114,114,99,32,114,108,32,114,114,32,115,108,97,32,115,114,97,32,115,119,97,112,32,115,114,108]⟩:ByteArray)).bind fun t338 => (some t338)) = some r:=h
 clear h
 replace H:=Option.bind_eq_some_iff.mp H
 obtain ⟨t338,A10,H⟩:=H
 have A1:=Aside0.mk A10
 clear A10
 obtain rfl:=Option.some.inj H
 go_enter Tryz.func128,Tryz.ntmps128
 go_wp2_with (first | ((with_reducible refine gate_callee (f:=97) rfl ?_);refine goesL_ (some 1) rfl rfl Tryz.func97 (by kernel_rfl) rfl #[.string (⟨#[114,108,99,32,114,114,99,32,114,108,32,114,114,32,115,108,97,32,115,114,97,32,115,119,97,112,32,115,114,108]⟩:ByteArray)] rfl q40_ ?_;(with_reducible refine (impl_names.calls (⟨#[114,108,99,32,114,114,99,32,114,108,32,114,114,32,115,108,97,32,115,114,97,32,115,119,97,112,32,115,114,108]⟩:ByteArray) t338 _ A1.out).mono ?_);rintro e w2 ⟨v339,rfl,ho0,hb⟩;refine ⟨_,rfl,?_⟩;have n0_:=Aside0.mk (Kd.R_lower ho0 (below_size q42_));have n1_:=Aside0.mk (below_step q42_ hb);clear HB;have HO340:=n0_;have HB:=n1_;clear n0_ n1_;(try clear hb);(try clear ho0)))
 go_ret
 exact ⟨_,q47_,by (with_reducible repeat (first | apply Kd.R_alloc | apply Kd.R_drewN | apply Kd.R_drew));exact HO340.out,q42_⟩
end Go.Proofs.YtodlnnoekccmmaaGreatDoor.QFnExactMarksOf
