/- The machine's side of a law,written by a program of this session for this claim. -/
import Derived.Test.YtpghjbikjmnnoaaSFnEvalQq
import Derived.Test.YtpghjbikjmnnoaaSFnEvalQFnEvalx0
import Derived.Test.YtpghjbikjmnnoaaSFnEvalQFnEvalx7
namespace Go.Proofs.Ytpghjbikjmnnoaa.QFnEval
open Go.Proofs.Ytpghjbikjmnnoaa.Qq
open Go.RowKit Go.Proofs.Ytpghjbikjmnnoaa.LibX Go.Proofs.Ytpghjbikjmnnoaa.LibG Go.Proofs.Ytpghjbikjmnnoaa.LibCv Go.Proofs.Ytpghjbikjmnnoaa.LibNm Go.Proofs.Ytpghjbikjmnnoaa.LibIx Go.Proofs.YtpghjbikjmnnoaaW.PrintWords Go.Proofs.YtpghjbikjmnnoaaW.PrintLast Go.Proofs.YtpghjbikjmnnoaaW.PrintMore
attribute [local go_sem] max2_int min2_int max_two min_two max_three min_three max_four min_four   -- for this text's walks alone
set_option maxHeartbeats 8000000
set_option maxRecDepth 100000
set_option linter.unusedVariables false
set_option linter.unusedSimpArgs false
def spec_ExprOk.l0:Nat → List (S45) → Int → Int → Option (Bool)
 | 0,_,_,_ => none
 | k + 1,x0,x3,x4 => if x4 < (x0.length:Int) then (if 0 ≤ x4 then ((spec_l2Node.f k ((rd_T45 x0 x4).f0) ((rd_T45 x0 x4).f1) ((rd_T45 x0 x4).f2)).bind fun t276 => (if t276 = true then ((spec_l2Takes.f ((rd_T45 x0 x4).f0)).bind fun t278 => (if t278 > x3 then (some false) else ((spec_l2Takes.f ((rd_T45 x0 x4).f0)).bind fun t280 => (spec_ExprOk.l0 k x0 (wrap64 ((wrap64 (x3 - t280)) + 1)) (wrap64 (x4 + 1)))))) else (some false))) else (none)) else (if (x0.length:Int) ≤ 30 then (some (x3 == 1)) else (some false))
def spec_ExprOk.f (k:Nat) (l0:List (S45)):Option (Bool):=spec_ExprOk.l0 k l0 0 0
theorem spec_ExprOk.mono_l:∀ k,(∀ y0 y1 y2,LeO (spec_ExprOk.l0 k y0 y1 y2) (spec_ExprOk.l0 (k + 1) y0 y1 y2))
 | 0 => fun _ _ _ r h => by simp [spec_ExprOk.l0] at h
 | k + 1 => by
  have ih0:=spec_ExprOk.mono_l k
  intro y0 y1 y2
  unfold spec_ExprOk.l0
  repeat' first
  | (with_reducible first | exact ih0 _ _ _ | exact spec_l2Node.mono _ _ _ _ | exact LeO.refl _ | exact LeO.none _ | refine LeO.ite ?_ ?_ | refine LeO.bind ?_ (fun _ => ?_))
  | exact ih0 _ _ _
  | exact spec_l2Node.mono _ _ _ _
  | exact LeO.none _
  | refine LeO.ite ?_ ?_
  | refine LeO.bind ?_ (fun _ => ?_)
theorem spec_ExprOk.mono:∀ a0 k,LeO (spec_ExprOk.f k a0) (spec_ExprOk.f (k + 1) a0):=by
 intro a0 k
 have ih0:=spec_ExprOk.mono_l k
 unfold spec_ExprOk.f
 repeat' first
   | (with_reducible first | exact ih0 _ _ _ | exact spec_l2Node.mono _ _ _ _ | exact LeO.refl _ | exact LeO.none _ | refine LeO.ite ?_ ?_ | refine LeO.bind ?_ (fun _ => ?_))
   | exact ih0 _ _ _
   | exact spec_l2Node.mono _ _ _ _
   | exact LeO.none _
   | refine LeO.ite ?_ ?_
   | refine LeO.bind ?_ (fun _ => ?_)
theorem spec_ExprOk.calls (k:Nat) (A0:Option Addr) (c0:Nat) (l0:List (S45)) (r:Bool) (w:World) (hr0:Kd.C k45 w A0 l0.length l0) (hc0:l0.length ≤ c0) (h:spec_ExprOk.f k l0 = some r) :
  Calls Try.prog 14 #[.slice A0 l0.length c0] w fun e w' => e = .returned (.bool r) ∧ Below w.heap.size w w':=by
 have hu45:=Try.underlying45
 have HR0:=Aside0.mk hr0
 have HC0:=Aside0.mk hc0
 clear hr0 hc0
 have HB:=Aside0.mk (Below.refl w.heap.size w)
 have H:(spec_ExprOk.l0 k l0 0 0) = some r:=h
 clear h
 have H':=Aside0.mk H
 clear H
 go_enter Try.func14,Try.ntmps14
 go_wp2
 go_loopg [3,4] k (fun kq v3 v4 w' => ∃ (x3_1:Int) (x4_1:Int),v3 = .int .i64 x3_1 ∧ v4 = .int .i64 x4_1 ∧ Aside0 (spec_ExprOk.l0 kq l0 x3_1 x4_1 = some r) ∧ Aside0 (kq ≤ k) ∧ Aside0 (Below w.heap.size w w'))
 case atStart => exact ⟨(0),(0),q25_,q25_,H',⟨Nat.le_refl _⟩,⟨q20_⟩⟩
 clear H'
 try clear c1
 obtain ⟨x3_1,x4_1,rfl,rfl,HA,HK1,HB⟩:=hrel
 cases gk with
 | zero => exact absurd HA.out (by simp [spec_ExprOk.l0])
 | succ k1 =>
  have H:=HA.out
  clear HA
  simp only [spec_ExprOk.l0] at H
  by_cases c2:x4_1 < (l0.length:Int)
  ·rw [if_pos c2] at H
   have c2b0:=decide_eq_true c2
   clear c2
   by_cases c3:0 ≤ x4_1
   rotate_left
   ·rw [if_neg c3] at H
    exact absurd H (by simp)
   rw [if_pos c3] at H
   have c3b0:=decide_eq_true c3
   clear c3
   replace H:=Option.bind_eq_some_iff.mp H
   obtain ⟨t276,A40,H⟩:=H
   have A4:=Aside0.mk A40
   clear A40
   by_cases c5:t276 = true
   ·subst c5
    rewrite [if_pos rfl] at H
    replace H:=Option.bind_eq_some_iff.mp H
    obtain ⟨t278,A60,H⟩:=H
    have A6:=Aside0.mk A60
    clear A60
    by_cases c7:t278 > x3_1
    ·rw [if_pos c7] at H
     have c7b0:decide (x3_1 < t278) = true:=decide_eq_true c7
     clear c7
     obtain rfl:=Option.some.inj H
     have p275:0 ≤ (x4_1:Int):=of_decide_eq_true q42_
     have q275:x4_1 < (l0.length:Int):=of_decide_eq_true q42_
     obtain ⟨ad275,e275,hx275_0,hx275_1,hx275_2⟩:=at_T45 HR0.out x4_1 p275 q275
     cases e275
     replace hx275_0:=(HB.out.cell (World.block_lt_of_cell? w _ hx275_0)).trans hx275_0
     replace hx275_1:=(HB.out.cell (World.block_lt_of_cell? w _ hx275_1)).trans hx275_1
     replace hx275_2:=(HB.out.cell (World.block_lt_of_cell? w _ hx275_2)).trans hx275_2
     replace p275:=eq_true p275
     replace q275:=eq_true q275
     go_wp2_with (first | ((with_reducible refine gate_callee (f:=27) rfl ?_);refine goesL_ (some 15) rfl rfl Try.func27 (by kernel_rfl) rfl #[.agg #[.int .i64 ((rd_T45 l0 x4_1).f0),.int .i64 ((rd_T45 l0 x4_1).f1),.string ((rd_T45 l0 x4_1).f2)]] rfl q18_ ?_;(with_reducible refine (spec_l2Node.calls k1 ((rd_T45 l0 x4_1).f0) ((rd_T45 l0 x4_1).f1) ((rd_T45 l0 x4_1).f2) true _ A4.out).mono ?_);rintro e w8 ⟨rfl,hb⟩;refine ⟨_,rfl,?_⟩;replace HB:=Aside0.mk (below_step q20_ hb);(try clear hb);have p277:0 ≤ (x4_1:Int):=of_decide_eq_true q42_;have q277:x4_1 < (l0.length:Int):=of_decide_eq_true q42_;obtain ⟨ad277,e277,hx277_0,hx277_1,hx277_2⟩:=at_T45 HR0.out x4_1 p277 q277;obtain rfl:ad275 = ad277:=(by injection e277);replace hx277_0:=(HB.out.cell (World.block_lt_of_cell? w _ hx277_0)).trans hx277_0;replace hx277_1:=(HB.out.cell (World.block_lt_of_cell? w _ hx277_1)).trans hx277_1;replace hx277_2:=(HB.out.cell (World.block_lt_of_cell? w _ hx277_2)).trans hx277_2;replace p277:=eq_true p277;replace q277:=eq_true q277) | (go_at_call 28;(with_reducible refine (spec_l2Takes.calls ((rd_T45 l0 x4_1).f0) t278 _ A6.out).mono ?_);rintro e w' ⟨rfl,⟨nd,rfl⟩⟩))
     go_ret
     exact ⟨q21_,q20_⟩
    rw [if_neg c7] at H
    have c7b0:decide (x3_1 < t278) = false:=decide_eq_false c7
    clear c7
    replace H:=Option.bind_eq_some_iff.mp H
    obtain ⟨t280,A90,H⟩:=H
    have A9:=Aside0.mk A90
    clear A90
    have H':=Aside0.mk H
    clear H
    have p275:0 ≤ (x4_1:Int):=of_decide_eq_true q42_
    have q275:x4_1 < (l0.length:Int):=of_decide_eq_true q42_
    obtain ⟨ad275,e275,hx275_0,hx275_1,hx275_2⟩:=at_T45 HR0.out x4_1 p275 q275
    cases e275
    replace hx275_0:=(HB.out.cell (World.block_lt_of_cell? w _ hx275_0)).trans hx275_0
    replace hx275_1:=(HB.out.cell (World.block_lt_of_cell? w _ hx275_1)).trans hx275_1
    replace hx275_2:=(HB.out.cell (World.block_lt_of_cell? w _ hx275_2)).trans hx275_2
    replace p275:=eq_true p275
    replace q275:=eq_true q275
    go_wp2_with (first | ((with_reducible refine gate_callee (f:=27) rfl ?_);refine goesL_ (some 15) rfl rfl Try.func27 (by kernel_rfl) rfl #[.agg #[.int .i64 ((rd_T45 l0 x4_1).f0),.int .i64 ((rd_T45 l0 x4_1).f1),.string ((rd_T45 l0 x4_1).f2)]] rfl q18_ ?_;(with_reducible refine (spec_l2Node.calls k1 ((rd_T45 l0 x4_1).f0) ((rd_T45 l0 x4_1).f1) ((rd_T45 l0 x4_1).f2) true _ A4.out).mono ?_);rintro e w10 ⟨rfl,hb⟩;refine ⟨_,rfl,?_⟩;replace HB:=Aside0.mk (below_step q20_ hb);(try clear hb);have p277:0 ≤ (x4_1:Int):=of_decide_eq_true q42_;have q277:x4_1 < (l0.length:Int):=of_decide_eq_true q42_;obtain ⟨ad277,e277,hx277_0,hx277_1,hx277_2⟩:=at_T45 HR0.out x4_1 p277 q277;obtain rfl:ad275 = ad277:=(by injection e277);replace hx277_0:=(HB.out.cell (World.block_lt_of_cell? w _ hx277_0)).trans hx277_0;replace hx277_1:=(HB.out.cell (World.block_lt_of_cell? w _ hx277_1)).trans hx277_1;replace hx277_2:=(HB.out.cell (World.block_lt_of_cell? w _ hx277_2)).trans hx277_2;replace p277:=eq_true p277;replace q277:=eq_true q277) | (go_at_call 28;(with_reducible refine (spec_l2Takes.calls ((rd_T45 l0 x4_1).f0) t278 _ A6.out).mono ?_);rintro e w' ⟨rfl,⟨nd,rfl⟩⟩;have p279:0 ≤ (x4_1:Int):=of_decide_eq_true q42_;have q279:x4_1 < (l0.length:Int):=of_decide_eq_true q42_;obtain ⟨ad279,e279,hx279_0,hx279_1,hx279_2⟩:=at_T45 HR0.out x4_1 p279 q279;obtain rfl:ad275 = ad279:=(by injection e279);replace hx279_0:=(HB.out.cell (World.block_lt_of_cell? w _ hx279_0)).trans hx279_0;replace hx279_1:=(HB.out.cell (World.block_lt_of_cell? w _ hx279_1)).trans hx279_1;replace hx279_2:=(HB.out.cell (World.block_lt_of_cell? w _ hx279_2)).trans hx279_2;replace p279:=eq_true p279;replace q279:=eq_true q279) | ((with_reducible refine gate_callee (f:=28) rfl ?_);refine goesL_ (some 33) rfl rfl Try.func28 (by kernel_rfl) rfl #[.int .i64 ((rd_T45 l0 x4_1).f0)] rfl q18_ ?_;(with_reducible refine (spec_l2Takes.calls ((rd_T45 l0 x4_1).f0) t280 _ A9.out).mono ?_);rintro e w' ⟨rfl,⟨nd,rfl⟩⟩;refine ⟨_,rfl,?_⟩))
    go_roundg k1
    case measure => have:=HK1.out;omega
    case rel => exact ⟨(wrap64 ((wrap64 (x3_1 - t280)) + 1)),(wrap64 (x4_1 + 1)),q25_,q25_,H',⟨by have:=HK1.out;omega⟩,⟨q20_⟩⟩
   replace c5:=Bool.eq_false_iff.mpr c5
   subst c5
   rewrite [if_neg (show ¬ (false = true) by decide)] at H
   obtain rfl:=Option.some.inj H
   have p275:0 ≤ (x4_1:Int):=of_decide_eq_true q42_
   have q275:x4_1 < (l0.length:Int):=of_decide_eq_true q42_
   obtain ⟨ad275,e275,hx275_0,hx275_1,hx275_2⟩:=at_T45 HR0.out x4_1 p275 q275
   cases e275
   replace hx275_0:=(HB.out.cell (World.block_lt_of_cell? w _ hx275_0)).trans hx275_0
   replace hx275_1:=(HB.out.cell (World.block_lt_of_cell? w _ hx275_1)).trans hx275_1
   replace hx275_2:=(HB.out.cell (World.block_lt_of_cell? w _ hx275_2)).trans hx275_2
   replace p275:=eq_true p275
   replace q275:=eq_true q275
   go_wp2_with (first | ((with_reducible refine gate_callee (f:=27) rfl ?_);refine goesL_ (some 15) rfl rfl Try.func27 (by kernel_rfl) rfl #[.agg #[.int .i64 ((rd_T45 l0 x4_1).f0),.int .i64 ((rd_T45 l0 x4_1).f1),.string ((rd_T45 l0 x4_1).f2)]] rfl q18_ ?_;(with_reducible refine (spec_l2Node.calls k1 ((rd_T45 l0 x4_1).f0) ((rd_T45 l0 x4_1).f1) ((rd_T45 l0 x4_1).f2) false _ A4.out).mono ?_);rintro e w11 ⟨rfl,hb⟩;refine ⟨_,rfl,?_⟩;replace HB:=Aside0.mk (below_step q20_ hb);(try clear hb)))
   go_ret
   exact ⟨q21_,q20_⟩
  rw [if_neg c2] at H
  have c2b0:=decide_eq_false c2
  clear c2
  by_cases c12:(l0.length:Int) ≤ 30
  ·rw [if_pos c12] at H
   have c12b0:=decide_eq_true c12
   have c12b1:decide (l0.length ≤ 30) = true:=decide_eq_true (by omega)
   clear c12
   obtain rfl:=Option.some.inj H
   go_wp2
   go_ret
   exact ⟨q21_,q20_⟩
  rw [if_neg c12] at H
  have c12b0:=decide_eq_false c12
  have c12b1:decide (l0.length ≤ 30) = false:=decide_eq_false (by omega)
  clear c12
  obtain rfl:=Option.some.inj H
  go_wp2
  go_ret
  exact ⟨q21_,q20_⟩
def spec_l2Wrap.f (a0:Int):Option (Int):=some (wrap64 (wrap32 (a0)))
theorem spec_l2Wrap.calls (a0:Int) (r:Int) (w:World) (h:spec_l2Wrap.f a0 = some r) :
  Calls Try.prog 30 #[.int .i64 a0] w fun e w' => e = .returned (.int .i64 r) ∧ Drawn0 w w':=by
 have H:(some (wrap64 (wrap32 (a0)))) = some r:=h
 clear h
 obtain rfl:=Option.some.inj H
 go_enter Try.func30,Try.ntmps30
 go_wp2
 go_ret
 exact ⟨q25_,q40_⟩
def spec_l2Two.f (a0:Int) (a1:Int) (a2:Int):Option (Int × Bool):=if a0 = 8 then ((spec_l2Wrap.f (wrap64 (a1 + a2))).bind fun t281 => (some (t281,true))) else (if a0 = 9 then ((spec_l2Wrap.f (wrap64 (a1 - a2))).bind fun t282 => (some (t282,true))) else (if a0 = 10 then ((spec_l2Wrap.f (wrap64 (a1 * a2))).bind fun t283 => (some (t283,true))) else (if a0 = 11 then (if a2 = 0 then (some (0,false)) else ((spec_l2Wrap.f (wrap64 (Int.tdiv a1 a2))).bind fun t284 => (some (t284,true)))) else (if a0 = 12 then (if a2 = 0 then (some (0,false)) else ((spec_l2Wrap.f (Int.tmod a1 a2)).bind fun t285 => (some (t285,true)))) else (if a0 = 13 then (some (Go.bits .and .i64 a1 a2,true)) else (if a0 = 14 then (some (Go.bits .xor .i64 a1 a2,true)) else (if a0 = 15 then (some (Go.bits .or .i64 a1 a2,true)) else (if a0 = 16 then (if 0 ≤ (IntKind.u64.wrap (Go.bits .and .i64 a2 31)) then ((spec_l2Wrap.f (shl .i64 a1 (IntKind.u64.wrap (Go.bits .and .i64 a2 31)))).bind fun t286 => (some (t286,true))) else (none)) else (if 0 ≤ (IntKind.u64.wrap (Go.bits .and .i64 a2 31)) then (some (shr .i64 a1 (IntKind.u64.wrap (Go.bits .and .i64 a2 31)),true)) else (none))))))))))
theorem spec_l2Two.calls (a0:Int) (a1:Int) (a2:Int) (r1:Int) (r2:Bool) (w:World) (h:spec_l2Two.f a0 a1 a2 = some (r1,r2)) :
  Calls Try.prog 31 #[.int .i64 a0,.int .i64 a1,.int .i64 a2] w fun e w' => e = .returned (.tuple #[.int .i64 r1,.bool r2]) ∧ Drawn0 w w':=by
 have H:=h;unfold spec_l2Two.f at H
 clear h
 by_cases c4:a0 = 8
 ·rw [if_pos c4] at H
  have c4b0:(a0 == 8) = true:=beq_iff_eq.mpr c4
  have c4b1:(a0 != 8) = false:=bne_eq_false_iff_eq.mpr c4
  clear c4
  replace H:=Option.bind_eq_some_iff.mp H
  obtain ⟨t281,A50,H⟩:=H
  have A5:=Aside0.mk A50
  clear A50
  simp only [Option.some.injEq,Prod.mk.injEq] at H
  obtain ⟨rfl,rfl⟩:=H
  go_enter Try.func31,Try.ntmps31
  go_wp2_with (first | ((with_reducible refine gate_callee (f:=30) rfl ?_);refine goesL_ (some 14) rfl rfl Try.func30 (by kernel_rfl) rfl #[.int .i64 (wrap64 (a1 + a2))] rfl (by (try simp only [List.map_toArray,List.map_cons,List.map_nil]);first | done | rfl | (simp only [List.length_drop,List.length_take];rfl) | (refine Eq.trans (b:=#[.int .i64 ((a1 + a2))]) rfl ?_;simp [wrap64] <;> omega)) ?_;(with_reducible refine (spec_l2Wrap.calls (wrap64 (a1 + a2)) t281 _ A5.out).mono ?_);rintro e w' ⟨rfl,⟨nd,rfl⟩⟩;refine ⟨_,rfl,?_⟩))
  go_ret2
  exact ⟨q25_,q40_⟩
 rw [if_neg c4] at H
 have c4b0:(a0 == 8) = false:=beq_eq_false_iff_ne.mpr c4
 have c4b1:(a0 != 8) = true:=bne_iff_ne.mpr c4
 by_cases c6:a0 = 9
 ·rw [if_pos c6] at H
  have c6b0:(a0 == 9) = true:=beq_iff_eq.mpr c6
  have c6b1:(a0 != 9) = false:=bne_eq_false_iff_eq.mpr c6
  clear c6
  replace H:=Option.bind_eq_some_iff.mp H
  obtain ⟨t282,A70,H⟩:=H
  have A7:=Aside0.mk A70
  clear A70
  simp only [Option.some.injEq,Prod.mk.injEq] at H
  obtain ⟨rfl,rfl⟩:=H
  go_enter Try.func31,Try.ntmps31
  go_wp2_with (first | ((with_reducible refine gate_callee (f:=30) rfl ?_);refine goesL_ (some 20) rfl rfl Try.func30 (by kernel_rfl) rfl #[.int .i64 (wrap64 (a1 - a2))] rfl (by (try simp only [List.map_toArray,List.map_cons,List.map_nil]);first | done | rfl | (simp only [List.length_drop,List.length_take];rfl) | (refine Eq.trans (b:=#[.int .i64 ((a1 - a2))]) rfl ?_;simp [wrap64] <;> omega)) ?_;(with_reducible refine (spec_l2Wrap.calls (wrap64 (a1 - a2)) t282 _ A7.out).mono ?_);rintro e w' ⟨rfl,⟨nd,rfl⟩⟩;refine ⟨_,rfl,?_⟩))
  go_ret2
  exact ⟨q25_,q40_⟩
 rw [if_neg c6] at H
 have c6b0:(a0 == 9) = false:=beq_eq_false_iff_ne.mpr c6
 have c6b1:(a0 != 9) = true:=bne_iff_ne.mpr c6
 by_cases c8:a0 = 10
 ·rw [if_pos c8] at H
  have c8b0:(a0 == 10) = true:=beq_iff_eq.mpr c8
  have c8b1:(a0 != 10) = false:=bne_eq_false_iff_eq.mpr c8
  clear c8
  replace H:=Option.bind_eq_some_iff.mp H
  obtain ⟨t283,A90,H⟩:=H
  have A9:=Aside0.mk A90
  clear A90
  simp only [Option.some.injEq,Prod.mk.injEq] at H
  obtain ⟨rfl,rfl⟩:=H
  go_enter Try.func31,Try.ntmps31
  go_wp2_with (first | ((with_reducible refine gate_callee (f:=30) rfl ?_);refine goesL_ (some 26) rfl rfl Try.func30 (by kernel_rfl) rfl #[.int .i64 (wrap64 (a1 * a2))] rfl (by (try simp only [List.map_toArray,List.map_cons,List.map_nil]);first | done | rfl | (simp only [List.length_drop,List.length_take];rfl) | (refine Eq.trans (b:=#[.int .i64 ((a1 * a2))]) rfl ?_;simp [wrap64] <;> omega)) ?_;(with_reducible refine (spec_l2Wrap.calls (wrap64 (a1 * a2)) t283 _ A9.out).mono ?_);rintro e w' ⟨rfl,⟨nd,rfl⟩⟩;refine ⟨_,rfl,?_⟩))
  go_ret2
  exact ⟨q25_,q40_⟩
 rw [if_neg c8] at H
 have c8b0:(a0 == 10) = false:=beq_eq_false_iff_ne.mpr c8
 have c8b1:(a0 != 10) = true:=bne_iff_ne.mpr c8
 by_cases c10:a0 = 11
 ·rw [if_pos c10] at H
  have c10b0:(a0 == 11) = true:=beq_iff_eq.mpr c10
  have c10b1:(a0 != 11) = false:=bne_eq_false_iff_eq.mpr c10
  clear c10
  by_cases c11:a2 = 0
  ·rw [if_pos c11] at H
   have c11b0:(a2 == 0) = true:=beq_iff_eq.mpr c11
   have c11b1:(a2 != 0) = false:=bne_eq_false_iff_eq.mpr c11
   clear c11
   simp only [Option.some.injEq,Prod.mk.injEq] at H
   obtain ⟨rfl,rfl⟩:=H
   go_enter Try.func31,Try.ntmps31
   go_wp2
   go_ret2
   exact ⟨q25_,q40_⟩
  rw [if_neg c11] at H
  have c11b0:(a2 == 0) = false:=beq_eq_false_iff_ne.mpr c11
  have c11b1:(a2 != 0) = true:=bne_iff_ne.mpr c11
  replace H:=Option.bind_eq_some_iff.mp H
  obtain ⟨t284,A120,H⟩:=H
  have A12:=Aside0.mk A120
  clear A120
  simp only [Option.some.injEq,Prod.mk.injEq] at H
  obtain ⟨rfl,rfl⟩:=H
  go_enter Try.func31,Try.ntmps31
  go_wp2_with (first | ((with_reducible refine gate_callee (f:=30) rfl ?_);refine goesL_ (some 34) rfl rfl Try.func30 (by kernel_rfl) rfl #[.int .i64 (wrap64 (Int.tdiv a1 a2))] rfl (by (try simp only [List.map_toArray,List.map_cons,List.map_nil]);first | done | rfl | (simp only [List.length_drop,List.length_take];rfl) | (refine Eq.trans (b:=#[.int .i64 ((Int.tdiv a1 a2))]) rfl ?_;simp [wrap64] <;> omega)) ?_;(with_reducible refine (spec_l2Wrap.calls (wrap64 (Int.tdiv a1 a2)) t284 _ A12.out).mono ?_);rintro e w' ⟨rfl,⟨nd,rfl⟩⟩;refine ⟨_,rfl,?_⟩))
  go_ret2
  exact ⟨q25_,q40_⟩
 rw [if_neg c10] at H
 have c10b0:(a0 == 11) = false:=beq_eq_false_iff_ne.mpr c10
 have c10b1:(a0 != 11) = true:=bne_iff_ne.mpr c10
 by_cases c13:a0 = 12
 ·rw [if_pos c13] at H
  have c13b0:(a0 == 12) = true:=beq_iff_eq.mpr c13
  have c13b1:(a0 != 12) = false:=bne_eq_false_iff_eq.mpr c13
  clear c13
  by_cases c14:a2 = 0
  ·rw [if_pos c14] at H
   have c14b0:(a2 == 0) = true:=beq_iff_eq.mpr c14
   have c14b1:(a2 != 0) = false:=bne_eq_false_iff_eq.mpr c14
   clear c14
   simp only [Option.some.injEq,Prod.mk.injEq] at H
   obtain ⟨rfl,rfl⟩:=H
   go_enter Try.func31,Try.ntmps31
   go_wp2
   go_ret2
   exact ⟨q25_,q40_⟩
  rw [if_neg c14] at H
  have c14b0:(a2 == 0) = false:=beq_eq_false_iff_ne.mpr c14
  have c14b1:(a2 != 0) = true:=bne_iff_ne.mpr c14
  replace H:=Option.bind_eq_some_iff.mp H
  obtain ⟨t285,A150,H⟩:=H
  have A15:=Aside0.mk A150
  clear A150
  simp only [Option.some.injEq,Prod.mk.injEq] at H
  obtain ⟨rfl,rfl⟩:=H
  go_enter Try.func31,Try.ntmps31
  go_wp2_with (first | ((with_reducible refine gate_callee (f:=30) rfl ?_);refine goesL_ (some 42) rfl rfl Try.func30 (by kernel_rfl) rfl #[.int .i64 (Int.tmod a1 a2)] rfl q18_ ?_;(with_reducible refine (spec_l2Wrap.calls (Int.tmod a1 a2) t285 _ A15.out).mono ?_);rintro e w' ⟨rfl,⟨nd,rfl⟩⟩;refine ⟨_,rfl,?_⟩))
  go_ret2
  exact ⟨q25_,q40_⟩
 rw [if_neg c13] at H
 have c13b0:(a0 == 12) = false:=beq_eq_false_iff_ne.mpr c13
 have c13b1:(a0 != 12) = true:=bne_iff_ne.mpr c13
 by_cases c16:a0 = 13
 ·rw [if_pos c16] at H
  have c16b0:(a0 == 13) = true:=beq_iff_eq.mpr c16
  have c16b1:(a0 != 13) = false:=bne_eq_false_iff_eq.mpr c16
  clear c16
  simp only [Option.some.injEq,Prod.mk.injEq] at H
  obtain ⟨rfl,rfl⟩:=H
  go_enter Try.func31,Try.ntmps31
  go_wp2
  go_ret2
  exact ⟨q25_,q40_⟩
 rw [if_neg c16] at H
 have c16b0:(a0 == 13) = false:=beq_eq_false_iff_ne.mpr c16
 have c16b1:(a0 != 13) = true:=bne_iff_ne.mpr c16
 by_cases c17:a0 = 14
 ·rw [if_pos c17] at H
  have c17b0:(a0 == 14) = true:=beq_iff_eq.mpr c17
  have c17b1:(a0 != 14) = false:=bne_eq_false_iff_eq.mpr c17
  clear c17
  simp only [Option.some.injEq,Prod.mk.injEq] at H
  obtain ⟨rfl,rfl⟩:=H
  go_enter Try.func31,Try.ntmps31
  go_wp2
  go_ret2
  exact ⟨q25_,q40_⟩
 rw [if_neg c17] at H
 have c17b0:(a0 == 14) = false:=beq_eq_false_iff_ne.mpr c17
 have c17b1:(a0 != 14) = true:=bne_iff_ne.mpr c17
 by_cases c18:a0 = 15
 ·rw [if_pos c18] at H
  have c18b0:(a0 == 15) = true:=beq_iff_eq.mpr c18
  have c18b1:(a0 != 15) = false:=bne_eq_false_iff_eq.mpr c18
  clear c18
  simp only [Option.some.injEq,Prod.mk.injEq] at H
  obtain ⟨rfl,rfl⟩:=H
  go_enter Try.func31,Try.ntmps31
  go_wp2
  go_ret2
  exact ⟨q25_,q40_⟩
 rw [if_neg c18] at H
 have c18b0:(a0 == 15) = false:=beq_eq_false_iff_ne.mpr c18
 have c18b1:(a0 != 15) = true:=bne_iff_ne.mpr c18
 by_cases c19:a0 = 16
 ·rw [if_pos c19] at H
  have c19b0:(a0 == 16) = true:=beq_iff_eq.mpr c19
  have c19b1:(a0 != 16) = false:=bne_eq_false_iff_eq.mpr c19
  clear c19
  obtain ⟨ji20,hji20⟩:∃ j_:Int,(IntKind.u64.wrap (Go.bits .and .i64 a2 31)) = j_:=⟨_,rfl⟩
  (first | rewrite [hji20] at H | simp only [hji20] at H)
  by_cases c21:0 ≤ (ji20)
  rotate_left
  ·rw [if_neg c21] at H
   exact absurd H (by simp)
  rw [if_pos c21] at H
  have c21b0:=eq_true c21
  have c21b1:=decide_eq_true c21
  clear c21
  obtain ⟨ji22,hji22⟩:∃ j_:Int,(shl .i64 a1 (ji20)) = j_:=⟨_,rfl⟩
  (first | rewrite [hji22] at H | simp only [hji22] at H)
  have hji22_:(IntKind.i64.wrap (a1 * 2 ^ min (ji20).toNat 64)) = ji22:=hji22
  have hji22z:(ji20) ≤ 64 → (IntKind.i64.wrap (a1 * 2 ^ (ji20).toNat)) = ji22:=shl_small hji22
  have hji22y:(wrap64 (a1 * 2 ^ min (ji20).toNat 64)) = ji22:=(i64_w _).symm.trans hji22_
  have hji22x:(ji20) ≤ 64 → (wrap64 (a1 * 2 ^ (ji20).toNat)) = ji22:=fun h_ => (i64_w _).symm.trans (hji22z h_)
  replace H:=Option.bind_eq_some_iff.mp H
  obtain ⟨t286,A230,H⟩:=H
  have A23:=Aside0.mk A230
  clear A230
  simp only [Option.some.injEq,Prod.mk.injEq] at H
  obtain ⟨rfl,rfl⟩:=H
  go_enter Try.func31,Try.ntmps31
  go_wp2_with (first | ((with_reducible refine gate_callee (f:=30) rfl ?_);refine goesL_ (some 65) rfl rfl Try.func30 (by kernel_rfl) rfl #[.int .i64 ji22] rfl (by (try simp only [List.map_toArray,List.map_cons,List.map_nil]);first | done | (simp only [hji22];rfl) | rfl | (simp only [List.length_drop,List.length_take];rfl)) ?_;(with_reducible refine (spec_l2Wrap.calls ji22 t286 _ A23.out).mono ?_);rintro e w' ⟨rfl,⟨nd,rfl⟩⟩;refine ⟨_,rfl,?_⟩))
  go_ret2
  exact ⟨by first | rfl | (simp;done) | (simp only [← hji20,← hji22] <;> (first | rfl | (simp;done))) | (simp [*];done) | (simp;decide +kernel) | (simp [wrap64];done) | (simp [bne];done),q40_⟩
 rw [if_neg c19] at H
 have c19b0:(a0 == 16) = false:=beq_eq_false_iff_ne.mpr c19
 have c19b1:(a0 != 16) = true:=bne_iff_ne.mpr c19
 obtain ⟨ji24,hji24⟩:∃ j_:Int,(IntKind.u64.wrap (Go.bits .and .i64 a2 31)) = j_:=⟨_,rfl⟩
 (first | rewrite [hji24] at H | simp only [hji24] at H)
 by_cases c25:0 ≤ (ji24)
 rotate_left
 ·rw [if_neg c25] at H
  exact absurd H (by simp)
 rw [if_pos c25] at H
 have c25b0:=eq_true c25
 have c25b1:=decide_eq_true c25
 clear c25
 obtain ⟨ji26,hji26⟩:∃ j_:Int,(shr .i64 a1 (ji24)) = j_:=⟨_,rfl⟩
 (first | rewrite [hji26] at H | simp only [hji26] at H)
 have hji26_:(a1 / 2 ^ min (ji24).toNat 64) = ji26:=hji26
 have hji26z:(ji24) ≤ 64 → (a1 / 2 ^ (ji24).toNat) = ji26:=shr_small hji26
 simp only [Option.some.injEq,Prod.mk.injEq] at H
 obtain ⟨rfl,rfl⟩:=H
 go_enter Try.func31,Try.ntmps31
 go_wp2
 go_ret2
 exact ⟨by first | rfl | (simp;done) | (simp only [← hji24,← hji26] <;> (first | rfl | (simp;done))) | (simp [*];done) | (simp;decide +kernel) | (simp [wrap64];done) | (simp [bne];done),q40_⟩
end Go.Proofs.Ytpghjbikjmnnoaa.QFnEval
