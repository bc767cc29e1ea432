/- The machine's side of a law,written by a program of this session for this claim. -/
import Derived.Test.YtabbdfchibjndaaGreatDoorProg
import Derived.Below
import Derived.Deep.Draws
import Derived.Deep.AppendLies
import Derived.Maps.AppendAt
import Derived.OwnWalk
import Derived.Laws.BytesArg
import Derived.Laws.MakeOwn
import Derived.Laws.OwnMore
import Derived.Deep.OwnRows
import Derived.Tactics
import Derived.Lib.ConvBytes
import Derived.Laws.Slices
import Derived.WalkKit
import Derived.KernelRfl
import Derived.RowKit3
import Derived.Deep.LoopGhost
import Derived.Deep.QuietTactic
import Derived.BigQuiet
import Derived.WideLaws
import Derived.Deep.DeepCutAuto
import Derived.Deep.CutBlock
import Derived.Deep.RegionHeld3
import Derived.Laws.Rows
import Derived.Lib.AppendStr
import Derived.ArgAppend
import Derived.Laws.IdiomCopy
import Derived.OrdersHeld
import Derived.Laws.BitsLemmas
import Derived.RowKit
import Derived.Test.YtabbdfchibjndaaGreatDoorXLibX
import Derived.Test.YtabbdfchibjndaaGreatDoorXWAll
namespace Go.Proofs.YtabbdfchibjndaaGreatDoor.LibG
open Go.RowKit Go.Proofs.YtabbdfchibjndaaGreatDoor.LibX Go.Proofs.YtabbdfchibjndaaGreatDoorW.PrintWords Go.Proofs.YtabbdfchibjndaaGreatDoorW.PrintLast Go.Proofs.YtabbdfchibjndaaGreatDoorW.PrintMore
attribute [local go_sem] max2_int min2_int max_two min_two max_three min_three max_four min_four   -- for this text's walks alone
set_option linter.unusedVariables false
set_option linter.unusedSimpArgs false
def errW:Option Int → Value
 | none => .nilIface
 | some c => .iface 79 (.int .i64 c)
theorem errW_none:errW none = .nilIface:=rfl
theorem errW_some (c:Int):errW (some c) = .iface 79 (.int .i64 c):=rfl
theorem info2:(Tryz.prog.info? 2).map (fun i => (i.zero,i.size,i.bytes)) = some (some (.int .i64 0),1,8):=by kernel_rfl
theorem info5:(Tryz.prog.info? 5).map (fun i => (i.zero,i.size,i.bytes)) = some (some (.int .u8 0),1,1):=by kernel_rfl
theorem info9:(Tryz.prog.info? 9).map (fun i => (i.zero,i.size,i.bytes)) = some (some (.string ⟨#[]⟩),1,16):=by kernel_rfl
theorem info43:(Tryz.prog.info? 43).map (fun i => (i.zero,i.size,i.bytes)) = some (some (.agg #[(.int .i64 0),(.int .i64 0),(.string ⟨#[]⟩)]),3,32):=by kernel_rfl
-- the values' own types
/-! #### struct type 43 -/
structure S43 where
 f0:Int
 f1:Int
 f2:ByteArray
def z43:S43:=⟨(0:Int),(0:Int),(⟨#[]⟩:ByteArray)⟩
def k43:Kd S43:=Kd.iso (Kd.pair (Kd.int .i64) (Kd.pair (Kd.int .i64) Kd.string)) (fun x:S43 => (x.f0,x.f1,x.f2))
theorem k43_open {w:World} {x:S43} {cs:List Value} (h:k43.K w x cs):cs = [.int .i64 x.f0,.int .i64 x.f1,.string x.f2]:=by
 obtain ⟨_,_,rfl,rfl,⟨_,_,rfl,rfl,rfl⟩⟩:=h
 exact rfl
theorem k43_openM {w:World} {base:Nat} {ok:Nat → Prop} {x:S43} {cs:List Value} (h:k43.M w base ok x cs):cs = [.int .i64 x.f0,.int .i64 x.f1,.string x.f2]:=by
 obtain ⟨_,_,rfl,rfl,⟨_,_,rfl,rfl,rfl⟩⟩:=h
 exact rfl
theorem k43_mk (w:World) (x:S43) :k43.K w x [.int .i64 x.f0,.int .i64 x.f1,.string x.f2]:=⟨[.int .i64 x.f0],[.int .i64 x.f1,.string x.f2],rfl,rfl,⟨[.int .i64 x.f1],[.string x.f2],rfl,rfl,rfl⟩⟩
theorem k43_mkM (w:World) (base:Nat) (ok:Nat → Prop) (x:S43) :k43.M w base ok x [.int .i64 x.f0,.int .i64 x.f1,.string x.f2]:=⟨[.int .i64 x.f0],[.int .i64 x.f1,.string x.f2],rfl,rfl,⟨[.int .i64 x.f1],[.string x.f2],rfl,rfl,rfl⟩⟩
def rd_T43 (xs:List S43) (i:Int):S43:=xs.getD i.toNat z43
theorem at_T43 {w:World} {A:Option Addr} {n:Nat} {xs:List S43} (h:Kd.C k43 w A n xs) (i:Int) (h0:0 ≤ i) (h1:i < n):∃ ad ,A = some ad ∧ w.cell? (ad.add (i.toNat * 3)) = some (.int .i64 (rd_T43 xs i).f0) ∧ w.cell? ⟨(ad.add (i.toNat * 3)).block,(ad.add (i.toNat * 3)).off + 1,none⟩ = some (.int .i64 (rd_T43 xs i).f1) ∧ w.cell? ⟨(ad.add (i.toNat * 3)).block,(ad.add (i.toNat * 3)).off + 2,none⟩ = some (.string (rd_T43 xs i).f2):=by
 obtain ⟨ad,c,e,_,hK,hc0⟩:=Kd.C_get h z43 i h0 h1
 have hc:∀ j u,c[j]? = some u → w.cell? (ad.add (i.toNat * 3 + j)) = some u:=hc0
 obtain rfl:=k43_open hK
 exact ⟨ad,e,hc 0 _ rfl,by rw [← add_field _ _ 1 (by omega)];exact hc 1 _ rfl,by rw [← add_field _ _ 2 (by omega)];exact hc 2 _ rfl⟩
/-! ### spec_l1Letter: function 63 -/
def spec_l1Letter.f (a0:Int):Option (Bool):=if a0 ≥ 97 then (if a0 ≤ 122 then (some true) else (if a0 = 95 then (some true) else (some (a0 == 46)))) else (if a0 = 95 then (some true) else (some (a0 == 46)))
set_option maxHeartbeats 8000000 in
set_option maxRecDepth 100000 in
theorem spec_l1Letter.calls (a0:Int) (r:Bool) (w:World) (h:spec_l1Letter.f a0 = some r) :
  Calls Tryz.prog 63 #[.int .u8 a0] w fun e w' => e = .returned (.bool r) ∧ Drawn0 w w':=by
 have H:(if a0 ≥ 97 then (if a0 ≤ 122 then (some true) else (if a0 = 95 then (some true) else (some (a0 == 46)))) else (if a0 = 95 then (some true) else (some (a0 == 46)))) = some r:=h
 clear h
 by_cases c2:a0 ≥ 97
 ·rw [if_pos c2] at H
  have c2b0:decide (97 ≤ a0) = true:=decide_eq_true c2
  clear c2
  by_cases c3:a0 ≤ 122
  ·rw [if_pos c3] at H
   have c3b0:decide (a0 ≤ 122) = true:=decide_eq_true c3
   clear c3
   obtain rfl:=Option.some.inj H
   go_enter Tryz.func63,Tryz.ntmps63
   go_wp2
   go_ret
   exact ⟨by first | rfl | (simp;done) | (simp [*];done) | (simp;decide +kernel) | (simp [wrap64];done) | (simp [bne];done),by repeat (first | exact Drawn0.refl _ | apply Drawn0.step)⟩
  ·rw [if_neg c3] at H
   have c3b0:decide (a0 ≤ 122) = false:=decide_eq_false c3
   clear c3
   by_cases c4:a0 = 95
   ·rw [if_pos c4] at H
    have c4b0:(a0 == 95) = true:=beq_iff_eq.mpr c4
    have c4b1:(a0 != 95) = false:=bne_eq_false_iff_eq.mpr c4
    clear c4
    obtain rfl:=Option.some.inj H
    go_enter Tryz.func63,Tryz.ntmps63
    go_wp2
    go_ret
    exact ⟨by first | rfl | (simp;done) | (simp [*];done) | (simp;decide +kernel) | (simp [wrap64];done) | (simp [bne];done),by repeat (first | exact Drawn0.refl _ | apply Drawn0.step)⟩
   ·rw [if_neg c4] at H
    have c4b0:(a0 == 95) = false:=beq_eq_false_iff_ne.mpr c4
    have c4b1:(a0 != 95) = true:=bne_iff_ne.mpr c4
    obtain rfl:=Option.some.inj H
    go_enter Tryz.func63,Tryz.ntmps63
    go_wp2
    go_ret
    exact ⟨by first | rfl | (simp;done) | (simp [*];done) | (simp;decide +kernel) | (simp [wrap64];done) | (simp [bne];done),by repeat (first | exact Drawn0.refl _ | apply Drawn0.step)⟩
 ·rw [if_neg c2] at H
  have c2b0:decide (97 ≤ a0) = false:=decide_eq_false c2
  clear c2
  by_cases c5:a0 = 95
  ·rw [if_pos c5] at H
   have c5b0:(a0 == 95) = true:=beq_iff_eq.mpr c5
   have c5b1:(a0 != 95) = false:=bne_eq_false_iff_eq.mpr c5
   clear c5
   obtain rfl:=Option.some.inj H
   go_enter Tryz.func63,Tryz.ntmps63
   go_wp2
   go_ret
   exact ⟨by first | rfl | (simp;done) | (simp [*];done) | (simp;decide +kernel) | (simp [wrap64];done) | (simp [bne];done),by repeat (first | exact Drawn0.refl _ | apply Drawn0.step)⟩
  ·rw [if_neg c5] at H
   have c5b0:(a0 == 95) = false:=beq_eq_false_iff_ne.mpr c5
   have c5b1:(a0 != 95) = true:=bne_iff_ne.mpr c5
   obtain rfl:=Option.some.inj H
   go_enter Tryz.func63,Tryz.ntmps63
   go_wp2
   go_ret
   exact ⟨by first | rfl | (simp;done) | (simp [*];done) | (simp;decide +kernel) | (simp [wrap64];done) | (simp [bne];done),by repeat (first | exact Drawn0.refl _ | apply Drawn0.step)⟩
/-! ### spec_NameOk: function 41 -/
mutual
def spec_NameOk.j0:Nat → ByteArray → Bool → Option (Bool)
 | 0,_,_ => none
 | k + 1,x0,x17 => if x17 = true then (some false) else (spec_NameOk.l0 k x0 0)
def spec_NameOk.l0:Nat → ByteArray → Int → Option (Bool)
 | 0,_,_ => none
 | k + 1,x0,x3 => if x3 < (x0.size:Int) then (if 0 ≤ x3 then ((spec_l1Letter.f (bt x0 x3)).bind fun t113 => (if t113 = true then (spec_NameOk.l0 k x0 (wrap64 (x3 + 1))) else (if (bt x0 x3) ≥ 48 then (if ((bt x0 x3) ≤ 57) then (spec_NameOk.l0 k x0 (wrap64 (x3 + 1))) else (some false)) else (some false)))) else (none)) else (some true)
end
def spec_NameOk.f (k:Nat) (a0:ByteArray):Option (Bool):=if (a0.size:Int) < 1 then (spec_NameOk.j0 k a0 true) else (if (a0.size:Int) > 16 then (spec_NameOk.j0 k a0 true) else (if 0 < (a0.size:Int) then ((spec_l1Letter.f (bt a0 0)).bind fun t112 => (spec_NameOk.j0 k a0 (!t112))) else (none)))
theorem spec_NameOk.mono_l:∀ k,(∀ y0 y1,LeO (spec_NameOk.j0 k y0 y1) (spec_NameOk.j0 (k + 1) y0 y1)) ∧ (∀ y0 y1,LeO (spec_NameOk.l0 k y0 y1) (spec_NameOk.l0 (k + 1) y0 y1))
 | 0 => ⟨fun _ _ r h => by simp [spec_NameOk.j0] at h,fun _ _ r h => by simp [spec_NameOk.l0] at h⟩
 | k + 1 => by
  obtain ⟨ih0,ih1⟩:=spec_NameOk.mono_l k
  refine ⟨?_,?_⟩
  ·intro y0 y1
   unfold spec_NameOk.j0
   repeat' first
   | (with_reducible exact ih0 _ _)
   | (with_reducible exact ih1 _ _)
   | (with_reducible exact LeO.refl _)
   | (with_reducible exact LeO.none _)
   | (with_reducible refine LeO.ite ?_ ?_)
   | (with_reducible refine LeO.bind ?_ (fun _ => ?_))
   | exact ih0 _ _
   | exact ih1 _ _
   | exact LeO.none _
   | refine LeO.ite ?_ ?_
   | refine LeO.bind ?_ (fun _ => ?_)
  ·intro y0 y1
   unfold spec_NameOk.l0
   repeat' first
   | (with_reducible exact ih0 _ _)
   | (with_reducible exact ih1 _ _)
   | (with_reducible exact LeO.refl _)
   | (with_reducible exact LeO.none _)
   | (with_reducible refine LeO.ite ?_ ?_)
   | (with_reducible refine LeO.bind ?_ (fun _ => ?_))
   | exact ih0 _ _
   | exact ih1 _ _
   | exact LeO.none _
   | refine LeO.ite ?_ ?_
   | refine LeO.bind ?_ (fun _ => ?_)
theorem spec_NameOk.mono:∀ a0 k,LeO (spec_NameOk.f k a0) (spec_NameOk.f (k + 1) a0):=by
 intro a0 k
 obtain ⟨ih0,ih1⟩:=spec_NameOk.mono_l k
 unfold spec_NameOk.f
 repeat' first
   | (with_reducible exact ih0 _ _)
   | (with_reducible exact ih1 _ _)
   | (with_reducible exact LeO.refl _)
   | (with_reducible exact LeO.none _)
   | (with_reducible refine LeO.ite ?_ ?_)
   | (with_reducible refine LeO.bind ?_ (fun _ => ?_))
   | exact ih0 _ _
   | exact ih1 _ _
   | exact LeO.none _
   | refine LeO.ite ?_ ?_
   | refine LeO.bind ?_ (fun _ => ?_)
set_option maxHeartbeats 8000000 in
set_option maxRecDepth 100000 in
theorem spec_NameOk.calls (k:Nat) (a0:ByteArray) (r:Bool) (w:World) (h:spec_NameOk.f k a0 = some r) :
  Calls Tryz.prog 41 #[.string a0] w fun e w' => e = .returned (.bool r) ∧ Drawn0 w w':=by
 have H:(if (a0.size:Int) < 1 then (spec_NameOk.j0 k a0 true) else (if (a0.size:Int) > 16 then (spec_NameOk.j0 k a0 true) else (if 0 < (a0.size:Int) then ((spec_l1Letter.f (bt a0 0)).bind fun t112 => (spec_NameOk.j0 k a0 (!t112))) else (none)))) = some r:=h
 clear h
 have HC2:=Aside0.mk H
 clear H
 go_enter Tryz.func41,Tryz.ntmps41
 go_upto_region 1 with (fail)
 go_cut [17] (fun v17 wc => ∃ (kq:Nat) (x17_1:Bool),v17 = .bool x17_1 ∧ Aside0 (spec_NameOk.j0 kq a0 x17_1 = some r) ∧ Aside0 (kq ≤ k) ∧ Drawn0 w wc)
 case first =>
  have H:=HC2.out
  clear HC2
  by_cases c3:(a0.size:Int) < 1
  ·rw [if_pos c3] at H
   have c3b0:decide ((a0.size:Int) < 1) = true:=decide_eq_true c3
   have c3b1:decide (a0.size < 1) = true:=decide_eq_true (by omega)
   clear c3
   (first | rw [c3b0] | (simp only [i64_w,i32_w];rw [c3b0]) | rw [c3b9] | skip)
   have H':=Aside0.mk H
   clear H
   go_wp2
   go_meet
   case rel => exact ⟨_,(true),(by first | rfl | (simp;done) | (simp [*];done) | (simp;decide +kernel) | (simp [wrap64];done) | (simp [bne];done)),H',⟨by first | omega | exact Nat.le_refl _⟩,by repeat (first | exact Drawn0.refl _ | apply Drawn0.step)⟩
  ·rw [if_neg c3] at H
   have c3b0:decide ((a0.size:Int) < 1) = false:=decide_eq_false c3
   have c3b1:decide (a0.size < 1) = false:=decide_eq_false (by omega)
   clear c3
   (first | rw [c3b0] | (simp only [i64_w,i32_w];rw [c3b0]) | rw [c3b9] | skip)
   by_cases c4:(a0.size:Int) > 16
   ·rw [if_pos c4] at H
    have c4b0:decide (16 < (a0.size:Int)) = true:=decide_eq_true c4
    have c4b1:decide (16 < a0.size) = true:=decide_eq_true (by omega)
    clear c4
    have H':=Aside0.mk H
    clear H
    go_wp2
    go_meet
    case rel => exact ⟨_,(true),(by first | rfl | (simp;done) | (simp [*];done) | (simp;decide +kernel) | (simp [wrap64];done) | (simp [bne];done)),H',⟨by first | omega | exact Nat.le_refl _⟩,by repeat (first | exact Drawn0.refl _ | apply Drawn0.step)⟩
   ·rw [if_neg c4] at H
    have c4b0:decide (16 < (a0.size:Int)) = false:=decide_eq_false c4
    have c4b1:decide (16 < a0.size) = false:=decide_eq_false (by omega)
    clear c4
    by_cases c5:0 < (a0.size:Int)
    ·rw [if_pos c5] at H
     have c5b0:decide (0 < (a0.size:Int)) = true:=decide_eq_true c5
     have c5b1:decide (0 < a0.size) = true:=decide_eq_true (by omega)
     clear c5
     replace H:=Option.bind_eq_some_iff.mp H
     obtain ⟨t112,A70,H⟩:=H
     replace H:(spec_NameOk.j0 k a0 (!t112)) = some r:=H
     have A7:=Aside0.mk A70
     clear A70
     have H':=Aside0.mk H
     clear H
     have p6:0 ≤ (0:Int):=(by omega)
     have q6:0 < a0.size:=(by have:(0:Int) < (a0.size:Int):=of_decide_eq_true (by first | (with_reducible assumption) | assumption);omega)
     have hx6:∀ h:0 < a0.size,((a0[0]'h).toNat:Int) = bt a0 0:=bt_at a0 0
     clear p6
     have qi6:(0 < (a0.size:Int)) = True:=eq_true (of_decide_eq_true (by first | (with_reducible assumption) | assumption))
     replace q6:=eq_true q6
     go_wp2_with (first | (go_at_call 63;(with_reducible refine (spec_l1Letter.calls (bt a0 0) t112 _ A7.out).mono ?_);rintro e w' ⟨rfl,⟨nd,rfl⟩⟩))
     go_meet
     case rel => exact ⟨_,(!t112),(by first | rfl | (simp;done) | (simp [*];done) | (simp;decide +kernel) | (simp [wrap64];done) | (simp [bne];done)),H',⟨by first | omega | exact Nat.le_refl _⟩,by repeat (first | exact Drawn0.refl _ | apply Drawn0.step)⟩
    ·rw [if_neg c5] at H
     exact absurd H (by simp)
 case rest =>
  clear HC2
  try clear p2
  try clear c3
  try clear c3b0
  try clear c3b1
  try clear c4
  try clear c4b0
  try clear c4b1
  try clear c5
  try clear c5b0
  try clear c5b1
  try clear p6
  try clear q6
  try clear hx6
  try clear qi6
  try clear p6
  try clear q6
  obtain ⟨kq,x17_1,rfl,HA,HJ1,⟨mc1,rfl⟩⟩:=hcut
  cases kq with
  | zero => exact absurd HA.out (by simp [spec_NameOk.j0])
  | succ kj1 =>
   have H:=HA.out
   clear HA
   simp only [spec_NameOk.j0] at H
   by_cases c8:x17_1 = true
   ·subst c8
    have H1:(some false) = some r:=by rw [if_pos rfl] at H;exact H
    clear H
    have H:=H1
    clear H1
    obtain rfl:=Option.some.inj H
    go_wp2
    go_ret
    exact ⟨by first | rfl | (simp;done) | (simp [*];done) | (simp;decide +kernel) | (simp [wrap64];done) | (simp [bne];done),by repeat (first | exact Drawn0.refl _ | apply Drawn0.step)⟩
   ·replace c8:=Bool.eq_false_iff.mpr c8
    subst c8
    have H1:(spec_NameOk.l0 kj1 a0 0) = some r:=by rw [if_neg (show ¬ (false = true) by decide)] at H;exact H
    clear H
    have H:=H1
    clear H1
    have H':=Aside0.mk H
    clear H
    go_wp2
    go_loopg [3] kj1 (fun kq v3 w' => ∃ (x3_2:Int),v3 = .int .i64 x3_2 ∧ Aside0 (spec_NameOk.l0 kq a0 x3_2 = some r) ∧ Aside0 (kq ≤ kj1) ∧ Drawn0 w w')
    case atStart => exact ⟨(0),(by first | rfl | (simp;done) | (simp [*];done) | (simp;decide +kernel) | (simp [wrap64];done) | (simp [bne];done)),H',⟨Nat.le_refl _⟩,by repeat (first | exact Drawn0.refl _ | apply Drawn0.step)⟩
    case round =>
     clear H'
     try clear c1
     try clear p2
     try clear c3
     try clear c3b0
     try clear c3b1
     try clear c4
     try clear c4b0
     try clear c4b1
     try clear c5
     try clear c5b0
     try clear c5b1
     try clear p6
     try clear q6
     try clear hx6
     try clear qi6
     try clear c8
     try clear p2
     try clear p6
     try clear q6
     obtain ⟨x3_2,rfl,HA,HK2,⟨m2,rfl⟩⟩:=hrel
     cases gk with
     | zero => exact absurd HA.out (by simp [spec_NameOk.l0])
     | succ k2 =>
      have H:=HA.out
      clear HA
      simp only [spec_NameOk.l0] at H
      by_cases c9:x3_2 < (a0.size:Int)
      ·rw [if_pos c9] at H
       have c9b0:decide (x3_2 < (a0.size:Int)) = true:=decide_eq_true c9
       clear c9
       by_cases c10:0 ≤ x3_2
       ·rw [if_pos c10] at H
        have c10b0:decide (0 ≤ x3_2) = true:=decide_eq_true c10
        clear c10
        replace H:=Option.bind_eq_some_iff.mp H
        obtain ⟨t113,A120,H⟩:=H
        replace H:(if t113 = true then (spec_NameOk.l0 k2 a0 (wrap64 (x3_2 + 1))) else (if (bt a0 x3_2) ≥ 48 then (if ((bt a0 x3_2) ≤ 57) then (spec_NameOk.l0 k2 a0 (wrap64 (x3_2 + 1))) else (some false)) else (some false))) = some r:=H
        have A12:=Aside0.mk A120
        clear A120
        by_cases c13:t113 = true
        ·subst c13
         have H1:(spec_NameOk.l0 k2 a0 (wrap64 (x3_2 + 1))) = some r:=by rw [if_pos rfl] at H;exact H
         clear H
         have H:=H1
         clear H1
         have H':=Aside0.mk H
         clear H
         have p11:0 ≤ (x3_2:Int):=of_decide_eq_true (by first | (with_reducible assumption) | assumption)
         have q11:x3_2 < (a0.size:Int):=of_decide_eq_true (by first | (with_reducible assumption) | assumption)
         have hx11:=bt_at a0 x3_2
         replace p11:=eq_true p11
         replace q11:=eq_true q11
         go_wp2_with (first | ((with_reducible refine gate_callee (f:=63) rfl ?_);refine goesL_ (some 27) rfl rfl Tryz.func63 (by kernel_rfl) rfl #[.int .u8 (bt a0 x3_2)] rfl (by (try simp only [List.map_toArray,List.map_cons,List.map_nil]);first | done | rfl | (simp only [List.length_drop,List.length_take];rfl)) ?_;(with_reducible refine (spec_l1Letter.calls (bt a0 x3_2) true _ A12.out).mono ?_);rintro e w' ⟨rfl,⟨nd,rfl⟩⟩;refine ⟨_,rfl,?_⟩))
         go_roundg k2
         case measure => have:=HJ1.out;have:=HK2.out;omega
         case rel => exact ⟨(wrap64 (x3_2 + 1)),(by first | rfl | (simp;done) | (simp [*];done) | (simp;decide +kernel) | (simp [wrap64];done) | (simp [bne];done)),H',⟨by have:=HJ1.out;have:=HK2.out;omega⟩,by repeat (first | exact Drawn0.refl _ | apply Drawn0.step)⟩
        ·replace c13:=Bool.eq_false_iff.mpr c13
         subst c13
         have H1:(if (bt a0 x3_2) ≥ 48 then (if ((bt a0 x3_2) ≤ 57) then (spec_NameOk.l0 k2 a0 (wrap64 (x3_2 + 1))) else (some false)) else (some false)) = some r:=by rw [if_neg (show ¬ (false = true) by decide)] at H;exact H
         clear H
         have H:=H1
         clear H1
         by_cases c15:(bt a0 x3_2) ≥ 48
         ·rw [if_pos c15] at H
          have c15b0:decide (48 ≤ (bt a0 x3_2)) = true:=decide_eq_true c15
          clear c15
          by_cases c17:((bt a0 x3_2) ≤ 57)
          ·rw [if_pos c17] at H
           have c17b0:decide ((bt a0 x3_2) ≤ 57) = true:=decide_eq_true c17
           clear c17
           have H':=Aside0.mk H
           clear H
           have p11:0 ≤ (x3_2:Int):=of_decide_eq_true (by first | (with_reducible assumption) | assumption)
           have q11:x3_2 < (a0.size:Int):=of_decide_eq_true (by first | (with_reducible assumption) | assumption)
           have hx11:=bt_at a0 x3_2
           replace p11:=eq_true p11
           replace q11:=eq_true q11
           go_wp2_with (first | ((with_reducible refine gate_callee (f:=63) rfl ?_);refine goesL_ (some 27) rfl rfl Tryz.func63 (by kernel_rfl) rfl #[.int .u8 (bt a0 x3_2)] rfl (by (try simp only [List.map_toArray,List.map_cons,List.map_nil]);first | done | rfl | (simp only [List.length_drop,List.length_take];rfl)) ?_;(with_reducible refine (spec_l1Letter.calls (bt a0 x3_2) false _ A12.out).mono ?_);rintro e w' ⟨rfl,⟨nd,rfl⟩⟩;refine ⟨_,rfl,?_⟩;have p14:0 ≤ (x3_2:Int):=of_decide_eq_true (by first | (with_reducible assumption) | assumption);have q14:x3_2 < (a0.size:Int):=of_decide_eq_true (by first | (with_reducible assumption) | assumption);have hx14:=bt_at a0 x3_2;replace p14:=eq_true p14;replace q14:=eq_true q14;have p16:0 ≤ (x3_2:Int):=of_decide_eq_true (by first | (with_reducible assumption) | assumption);have q16:x3_2 < (a0.size:Int):=of_decide_eq_true (by first | (with_reducible assumption) | assumption);have hx16:=bt_at a0 x3_2;replace p16:=eq_true p16;replace q16:=eq_true q16))
           go_roundg k2
           case measure => have:=HJ1.out;have:=HK2.out;omega
           case rel => exact ⟨(wrap64 (x3_2 + 1)),(by first | rfl | (simp;done) | (simp [*];done) | (simp;decide +kernel) | (simp [wrap64];done) | (simp [bne];done)),H',⟨by have:=HJ1.out;have:=HK2.out;omega⟩,by repeat (first | exact Drawn0.refl _ | apply Drawn0.step)⟩
          ·rw [if_neg c17] at H
           have c17b0:decide ((bt a0 x3_2) ≤ 57) = false:=decide_eq_false c17
           clear c17
           obtain rfl:=Option.some.inj H
           have p11:0 ≤ (x3_2:Int):=of_decide_eq_true (by first | (with_reducible assumption) | assumption)
           have q11:x3_2 < (a0.size:Int):=of_decide_eq_true (by first | (with_reducible assumption) | assumption)
           have hx11:=bt_at a0 x3_2
           replace p11:=eq_true p11
           replace q11:=eq_true q11
           go_wp2_with (first | ((with_reducible refine gate_callee (f:=63) rfl ?_);refine goesL_ (some 27) rfl rfl Tryz.func63 (by kernel_rfl) rfl #[.int .u8 (bt a0 x3_2)] rfl (by (try simp only [List.map_toArray,List.map_cons,List.map_nil]);first | done | rfl | (simp only [List.length_drop,List.length_take];rfl)) ?_;(with_reducible refine (spec_l1Letter.calls (bt a0 x3_2) false _ A12.out).mono ?_);rintro e w' ⟨rfl,⟨nd,rfl⟩⟩;refine ⟨_,rfl,?_⟩;have p14:0 ≤ (x3_2:Int):=of_decide_eq_true (by first | (with_reducible assumption) | assumption);have q14:x3_2 < (a0.size:Int):=of_decide_eq_true (by first | (with_reducible assumption) | assumption);have hx14:=bt_at a0 x3_2;replace p14:=eq_true p14;replace q14:=eq_true q14;have p16:0 ≤ (x3_2:Int):=of_decide_eq_true (by first | (with_reducible assumption) | assumption);have q16:x3_2 < (a0.size:Int):=of_decide_eq_true (by first | (with_reducible assumption) | assumption);have hx16:=bt_at a0 x3_2;replace p16:=eq_true p16;replace q16:=eq_true q16))
           go_ret
           exact ⟨by first | rfl | (simp;done) | (simp [*];done) | (simp;decide +kernel) | (simp [wrap64];done) | (simp [bne];done),by repeat (first | exact Drawn0.refl _ | apply Drawn0.step)⟩
         ·rw [if_neg c15] at H
          have c15b0:decide (48 ≤ (bt a0 x3_2)) = false:=decide_eq_false c15
          clear c15
          obtain rfl:=Option.some.inj H
          have p11:0 ≤ (x3_2:Int):=of_decide_eq_true (by first | (with_reducible assumption) | assumption)
          have q11:x3_2 < (a0.size:Int):=of_decide_eq_true (by first | (with_reducible assumption) | assumption)
          have hx11:=bt_at a0 x3_2
          replace p11:=eq_true p11
          replace q11:=eq_true q11
          go_wp2_with (first | ((with_reducible refine gate_callee (f:=63) rfl ?_);refine goesL_ (some 27) rfl rfl Tryz.func63 (by kernel_rfl) rfl #[.int .u8 (bt a0 x3_2)] rfl (by (try simp only [List.map_toArray,List.map_cons,List.map_nil]);first | done | rfl | (simp only [List.length_drop,List.length_take];rfl)) ?_;(with_reducible refine (spec_l1Letter.calls (bt a0 x3_2) false _ A12.out).mono ?_);rintro e w' ⟨rfl,⟨nd,rfl⟩⟩;refine ⟨_,rfl,?_⟩;have p14:0 ≤ (x3_2:Int):=of_decide_eq_true (by first | (with_reducible assumption) | assumption);have q14:x3_2 < (a0.size:Int):=of_decide_eq_true (by first | (with_reducible assumption) | assumption);have hx14:=bt_at a0 x3_2;replace p14:=eq_true p14;replace q14:=eq_true q14))
          go_ret
          exact ⟨by first | rfl | (simp;done) | (simp [*];done) | (simp;decide +kernel) | (simp [wrap64];done) | (simp [bne];done),by repeat (first | exact Drawn0.refl _ | apply Drawn0.step)⟩
       ·rw [if_neg c10] at H
        exact absurd H (by simp)
      ·rw [if_neg c9] at H
       have c9b0:decide (x3_2 < (a0.size:Int)) = false:=decide_eq_false c9
       clear c9
       obtain rfl:=Option.some.inj H
       go_wp2
       go_ret
       exact ⟨by first | rfl | (simp;done) | (simp [*];done) | (simp;decide +kernel) | (simp [wrap64];done) | (simp [bne];done),by repeat (first | exact Drawn0.refl _ | apply Drawn0.step)⟩
/-! ### spec_l1Digit: function 86 -/
def spec_l1Digit.j0:Nat → Int → Bool → Option (Int)
 | 0,_,_ => none
 | k + 1,x0,x3 => if x3 = true then (some ((x0 - 48) % 256)) else (if x0 ≥ 65 then (if x0 ≤ 70 then (some (((x0 - 65) % 256) + 10)) else (some 99)) else (some 99))
def spec_l1Digit.f (k:Nat) (a0:Int):Option (Int):=if a0 ≥ 48 then (spec_l1Digit.j0 k a0 (decide (a0 ≤ 57))) else (spec_l1Digit.j0 k a0 false)
theorem spec_l1Digit.mono_l:∀ k,(∀ y0 y1,LeO (spec_l1Digit.j0 k y0 y1) (spec_l1Digit.j0 (k + 1) y0 y1))
 | 0 => fun _ _ r h => by simp [spec_l1Digit.j0] at h
 | k + 1 => by
  have ih0:=spec_l1Digit.mono_l k
  ·intro y0 y1
   unfold spec_l1Digit.j0
   repeat' first
   | (with_reducible exact ih0 _ _)
   | (with_reducible exact LeO.refl _)
   | (with_reducible exact LeO.none _)
   | (with_reducible refine LeO.ite ?_ ?_)
   | (with_reducible refine LeO.bind ?_ (fun _ => ?_))
   | exact ih0 _ _
   | exact LeO.none _
   | refine LeO.ite ?_ ?_
   | refine LeO.bind ?_ (fun _ => ?_)
theorem spec_l1Digit.mono:∀ a0 k,LeO (spec_l1Digit.f k a0) (spec_l1Digit.f (k + 1) a0):=by
 intro a0 k
 have ih0:=spec_l1Digit.mono_l k
 unfold spec_l1Digit.f
 repeat' first
   | (with_reducible exact ih0 _ _)
   | (with_reducible exact LeO.refl _)
   | (with_reducible exact LeO.none _)
   | (with_reducible refine LeO.ite ?_ ?_)
   | (with_reducible refine LeO.bind ?_ (fun _ => ?_))
   | exact ih0 _ _
   | exact LeO.none _
   | refine LeO.ite ?_ ?_
   | refine LeO.bind ?_ (fun _ => ?_)
set_option maxHeartbeats 8000000 in
set_option maxRecDepth 100000 in
theorem spec_l1Digit.calls (k:Nat) (a0:Int) (r:Int) (w:World) (h:spec_l1Digit.f k a0 = some r) :
  Calls Tryz.prog 86 #[.int .u8 a0] w fun e w' => e = .returned (.int .i64 r) ∧ Drawn0 w w':=by
 have H:(if a0 ≥ 48 then (spec_l1Digit.j0 k a0 (decide (a0 ≤ 57))) else (spec_l1Digit.j0 k a0 false)) = some r:=h
 clear h
 have HC2:=Aside0.mk H
 clear H
 go_enter Tryz.func86,Tryz.ntmps86
 go_upto_region 1 with (fail)
 go_cut [3] (fun v3 wc => ∃ (kq:Nat) (x3_1:Bool),v3 = .bool x3_1 ∧ Aside0 (spec_l1Digit.j0 kq a0 x3_1 = some r) ∧ Aside0 (kq ≤ k) ∧ Drawn0 w wc)
 case first =>
  have H:=HC2.out
  clear HC2
  by_cases c3:a0 ≥ 48
  ·rw [if_pos c3] at H
   have c3b0:decide (48 ≤ a0) = true:=decide_eq_true c3
   clear c3
   (first | rw [c3b0] | (simp only [i64_w,i32_w];rw [c3b0]) | rw [c3b9] | skip)
   have H':=Aside0.mk H
   clear H
   go_wp2
   go_meet
   case rel => exact ⟨_,(decide (a0 ≤ 57)),(by first | rfl | (simp;done) | (simp [*];done) | (simp;decide +kernel) | (simp [wrap64];done) | (simp [bne];done)),H',⟨by first | omega | exact Nat.le_refl _⟩,by repeat (first | exact Drawn0.refl _ | apply Drawn0.step)⟩
  ·rw [if_neg c3] at H
   have c3b0:decide (48 ≤ a0) = false:=decide_eq_false c3
   clear c3
   (first | rw [c3b0] | (simp only [i64_w,i32_w];rw [c3b0]) | rw [c3b9] | skip)
   have H':=Aside0.mk H
   clear H
   go_wp2
   go_meet
   case rel => exact ⟨_,(false),(by first | rfl | (simp;done) | (simp [*];done) | (simp;decide +kernel) | (simp [wrap64];done) | (simp [bne];done)),H',⟨by first | omega | exact Nat.le_refl _⟩,by repeat (first | exact Drawn0.refl _ | apply Drawn0.step)⟩
 case rest =>
  clear HC2
  try clear p2
  try clear c3
  try clear c3b0
  obtain ⟨kq,x3_1,rfl,HA,HJ1,⟨mc1,rfl⟩⟩:=hcut
  cases kq with
  | zero => exact absurd HA.out (by simp [spec_l1Digit.j0])
  | succ kj1 =>
   have H:=HA.out
   clear HA
   simp only [spec_l1Digit.j0] at H
   by_cases c4:x3_1 = true
   ·subst c4
    have H1:(some ((a0 - 48) % 256)) = some r:=by rw [if_pos rfl] at H;exact H
    clear H
    have H:=H1
    clear H1
    obtain rfl:=Option.some.inj H
    go_wp2
    go_ret
    exact ⟨by first | rfl | (simp;done) | (simp [*];done) | (simp;decide +kernel) | (simp [wrap64];done) | (simp [bne];done),by repeat (first | exact Drawn0.refl _ | apply Drawn0.step)⟩
   ·replace c4:=Bool.eq_false_iff.mpr c4
    subst c4
    have H1:(if a0 ≥ 65 then (if a0 ≤ 70 then (some (((a0 - 65) % 256) + 10)) else (some 99)) else (some 99)) = some r:=by rw [if_neg (show ¬ (false = true) by decide)] at H;exact H
    clear H
    have H:=H1
    clear H1
    by_cases c5:a0 ≥ 65
    ·rw [if_pos c5] at H
     have c5b0:decide (65 ≤ a0) = true:=decide_eq_true c5
     clear c5
     by_cases c6:a0 ≤ 70
     ·rw [if_pos c6] at H
      have c6b0:decide (a0 ≤ 70) = true:=decide_eq_true c6
      clear c6
      obtain rfl:=Option.some.inj H
      go_wp2
      go_ret
      exact ⟨by first | rfl | (simp;done) | (simp [*];done) | (simp;decide +kernel) | (simp [wrap64];done) | (simp [bne];done),by repeat (first | exact Drawn0.refl _ | apply Drawn0.step)⟩
     ·rw [if_neg c6] at H
      have c6b0:decide (a0 ≤ 70) = false:=decide_eq_false c6
      clear c6
      obtain rfl:=Option.some.inj H
      go_wp2
      go_ret
      exact ⟨by first | rfl | (simp;done) | (simp [*];done) | (simp;decide +kernel) | (simp [wrap64];done) | (simp [bne];done),by repeat (first | exact Drawn0.refl _ | apply Drawn0.step)⟩
    ·rw [if_neg c5] at H
     have c5b0:decide (65 ≤ a0) = false:=decide_eq_false c5
     clear c5
     obtain rfl:=Option.some.inj H
     go_wp2
     go_ret
     exact ⟨by first | rfl | (simp;done) | (simp [*];done) | (simp;decide +kernel) | (simp [wrap64];done) | (simp [bne];done),by repeat (first | exact Drawn0.refl _ | apply Drawn0.step)⟩
/-! ### spec_l1Base: function 68 -/
def spec_l1Base.l0:Nat → ByteArray → Int → Int → Int → Option (Int × Bool)
 | 0,_,_,_,_ => none
 | k + 1,x0,x1,x6,x7 => if x7 < (x0.size:Int) then (if 0 ≤ x7 then ((spec_l1Digit.f k (bt x0 x7)).bind fun t127 => (if t127 ≥ x1 then (some (0,false)) else (if (wrap64 ((wrap64 (x6 * x1)) + t127)) > 65535 then (some (0,false)) else (spec_l1Base.l0 k x0 x1 (wrap64 ((wrap64 (x6 * x1)) + t127)) (wrap64 (x7 + 1)))))) else (none)) else (some (x6,(x0.toList != ([]:List UInt8))))
def spec_l1Base.f (k:Nat) (a0:ByteArray) (a1:Int):Option (Int × Bool):=spec_l1Base.l0 k a0 a1 0 0
theorem spec_l1Base.mono_l:∀ k,(∀ y0 y1 y2 y3,LeO (spec_l1Base.l0 k y0 y1 y2 y3) (spec_l1Base.l0 (k + 1) y0 y1 y2 y3))
 | 0 => fun _ _ _ _ r h => by simp [spec_l1Base.l0] at h
 | k + 1 => by
  have ih0:=spec_l1Base.mono_l k
  ·intro y0 y1 y2 y3
   unfold spec_l1Base.l0
   repeat' first
   | (with_reducible exact ih0 _ _ _ _)
   | (with_reducible exact spec_l1Digit.mono _ _)
   | (with_reducible exact LeO.refl _)
   | (with_reducible exact LeO.none _)
   | (with_reducible refine LeO.ite ?_ ?_)
   | (with_reducible refine LeO.bind ?_ (fun _ => ?_))
   | exact ih0 _ _ _ _
   | exact spec_l1Digit.mono _ _
   | exact LeO.none _
   | refine LeO.ite ?_ ?_
   | refine LeO.bind ?_ (fun _ => ?_)
theorem spec_l1Base.mono:∀ a0 a1 k,LeO (spec_l1Base.f k a0 a1) (spec_l1Base.f (k + 1) a0 a1):=by
 intro a0 a1 k
 have ih0:=spec_l1Base.mono_l k
 unfold spec_l1Base.f
 repeat' first
   | (with_reducible exact ih0 _ _ _ _)
   | (with_reducible exact spec_l1Digit.mono _ _)
   | (with_reducible exact LeO.refl _)
   | (with_reducible exact LeO.none _)
   | (with_reducible refine LeO.ite ?_ ?_)
   | (with_reducible refine LeO.bind ?_ (fun _ => ?_))
   | exact ih0 _ _ _ _
   | exact spec_l1Digit.mono _ _
   | exact LeO.none _
   | refine LeO.ite ?_ ?_
   | refine LeO.bind ?_ (fun _ => ?_)
set_option maxHeartbeats 8000000 in
set_option maxRecDepth 100000 in
theorem spec_l1Base.calls (k:Nat) (a0:ByteArray) (a1:Int) (r1:Int) (r2:Bool) (w:World) (h:spec_l1Base.f k a0 a1 = some (r1,r2)) :
  Calls Tryz.prog 68 #[.string a0,.int .i64 a1] w fun e w' => e = .returned (.tuple #[.int .i64 r1,.bool r2]) ∧ Drawn0 w w':=by
 have H:(spec_l1Base.l0 k a0 a1 0 0) = some (r1,r2):=h
 clear h
 have H':=Aside0.mk H
 clear H
 go_enter Tryz.func68,Tryz.ntmps68
 go_wp2
 go_loopg [6,7] k (fun kq v6 v7 w' => ∃ (x6_1:Int) (x7_1:Int),v6 = .int .i64 x6_1 ∧ v7 = .int .i64 x7_1 ∧ Aside0 (spec_l1Base.l0 kq a0 a1 x6_1 x7_1 = some (r1,r2)) ∧ Aside0 (kq ≤ k) ∧ Drawn0 w w')
 case atStart => exact ⟨(0),(0),(by first | rfl | (simp;done) | (simp [*];done) | (simp;decide +kernel) | (simp [wrap64];done) | (simp [bne];done)),(by first | rfl | (simp;done) | (simp [*];done) | (simp;decide +kernel) | (simp [wrap64];done) | (simp [bne];done)),H',⟨Nat.le_refl _⟩,by repeat (first | exact Drawn0.refl _ | apply Drawn0.step)⟩
 case round =>
  clear H'
  try clear p2
  obtain ⟨x6_1,x7_1,rfl,rfl,HA,HK1,⟨m1,rfl⟩⟩:=hrel
  cases gk with
  | zero => exact absurd HA.out (by simp [spec_l1Base.l0])
  | succ k1 =>
   have H:=HA.out
   clear HA
   simp only [spec_l1Base.l0] at H
   by_cases c3:x7_1 < (a0.size:Int)
   ·rw [if_pos c3] at H
    have c3b0:decide (x7_1 < (a0.size:Int)) = true:=decide_eq_true c3
    clear c3
    by_cases c4:0 ≤ x7_1
    ·rw [if_pos c4] at H
     have c4b0:decide (0 ≤ x7_1) = true:=decide_eq_true c4
     clear c4
     replace H:=Option.bind_eq_some_iff.mp H
     obtain ⟨t127,A60,H⟩:=H
     replace H:(if t127 ≥ a1 then (some (0,false)) else (if (wrap64 ((wrap64 (x6_1 * a1)) + t127)) > 65535 then (some (0,false)) else (spec_l1Base.l0 k1 a0 a1 (wrap64 ((wrap64 (x6_1 * a1)) + t127)) (wrap64 (x7_1 + 1))))) = some (r1,r2):=H
     have A6:=Aside0.mk A60
     clear A60
     by_cases c7:t127 ≥ a1
     ·rw [if_pos c7] at H
      have c7b0:decide (a1 ≤ t127) = true:=decide_eq_true c7
      clear c7
      simp only [Option.some.injEq,Prod.mk.injEq] at H
      obtain ⟨rfl,rfl⟩:=H
      have p5:0 ≤ (x7_1:Int):=of_decide_eq_true (by first | (with_reducible assumption) | assumption)
      have q5:x7_1 < (a0.size:Int):=of_decide_eq_true (by first | (with_reducible assumption) | assumption)
      have hx5:=bt_at a0 x7_1
      replace p5:=eq_true p5
      replace q5:=eq_true q5
      go_wp2_with (first | ((with_reducible refine gate_callee (f:=86) rfl ?_);refine goesL_ (some 18) rfl rfl Tryz.func86 (by kernel_rfl) rfl #[.int .u8 (bt a0 x7_1)] rfl (by (try simp only [List.map_toArray,List.map_cons,List.map_nil]);first | done | rfl | (simp only [List.length_drop,List.length_take];rfl)) ?_;(with_reducible refine (spec_l1Digit.calls k1 (bt a0 x7_1) t127 _ A6.out).mono ?_);rintro e w' ⟨rfl,⟨nd,rfl⟩⟩;refine ⟨_,rfl,?_⟩))
      go_ret2
      exact ⟨by first | rfl | (simp;done) | (simp [*];done) | (simp;decide +kernel) | (simp [wrap64];done) | (simp [bne];done),by repeat (first | exact Drawn0.refl _ | apply Drawn0.step)⟩
     ·rw [if_neg c7] at H
      have c7b0:decide (a1 ≤ t127) = false:=decide_eq_false c7
      clear c7
      by_cases c8:(wrap64 ((wrap64 (x6_1 * a1)) + t127)) > 65535
      ·rw [if_pos c8] at H
       have c8b0:decide (65535 < (wrap64 ((wrap64 (x6_1 * a1)) + t127))) = true:=decide_eq_true c8
       clear c8
       simp only [Option.some.injEq,Prod.mk.injEq] at H
       obtain ⟨rfl,rfl⟩:=H
       have p5:0 ≤ (x7_1:Int):=of_decide_eq_true (by first | (with_reducible assumption) | assumption)
       have q5:x7_1 < (a0.size:Int):=of_decide_eq_true (by first | (with_reducible assumption) | assumption)
       have hx5:=bt_at a0 x7_1
       replace p5:=eq_true p5
       replace q5:=eq_true q5
       go_wp2_with (first | ((with_reducible refine gate_callee (f:=86) rfl ?_);refine goesL_ (some 18) rfl rfl Tryz.func86 (by kernel_rfl) rfl #[.int .u8 (bt a0 x7_1)] rfl (by (try simp only [List.map_toArray,List.map_cons,List.map_nil]);first | done | rfl | (simp only [List.length_drop,List.length_take];rfl)) ?_;(with_reducible refine (spec_l1Digit.calls k1 (bt a0 x7_1) t127 _ A6.out).mono ?_);rintro e w' ⟨rfl,⟨nd,rfl⟩⟩;refine ⟨_,rfl,?_⟩))
       go_ret2
       exact ⟨by first | rfl | (simp;done) | (simp [*];done) | (simp;decide +kernel) | (simp [wrap64];done) | (simp [bne];done),by repeat (first | exact Drawn0.refl _ | apply Drawn0.step)⟩
      ·rw [if_neg c8] at H
       have c8b0:decide (65535 < (wrap64 ((wrap64 (x6_1 * a1)) + t127))) = false:=decide_eq_false c8
       clear c8
       have H':=Aside0.mk H
       clear H
       have p5:0 ≤ (x7_1:Int):=of_decide_eq_true (by first | (with_reducible assumption) | assumption)
       have q5:x7_1 < (a0.size:Int):=of_decide_eq_true (by first | (with_reducible assumption) | assumption)
       have hx5:=bt_at a0 x7_1
       replace p5:=eq_true p5
       replace q5:=eq_true q5
       go_wp2_with (first | ((with_reducible refine gate_callee (f:=86) rfl ?_);refine goesL_ (some 18) rfl rfl Tryz.func86 (by kernel_rfl) rfl #[.int .u8 (bt a0 x7_1)] rfl (by (try simp only [List.map_toArray,List.map_cons,List.map_nil]);first | done | rfl | (simp only [List.length_drop,List.length_take];rfl)) ?_;(with_reducible refine (spec_l1Digit.calls k1 (bt a0 x7_1) t127 _ A6.out).mono ?_);rintro e w' ⟨rfl,⟨nd,rfl⟩⟩;refine ⟨_,rfl,?_⟩))
       go_roundg k1
       case measure => have:=HK1.out;omega
       case rel => exact ⟨(wrap64 ((wrap64 (x6_1 * a1)) + t127)),(wrap64 (x7_1 + 1)),(by first | rfl | (simp;done) | (simp [*];done) | (simp;decide +kernel) | (simp [wrap64];done) | (simp [bne];done)),(by first | rfl | (simp;done) | (simp [*];done) | (simp;decide +kernel) | (simp [wrap64];done) | (simp [bne];done)),H',⟨by have:=HK1.out;omega⟩,by repeat (first | exact Drawn0.refl _ | apply Drawn0.step)⟩
    ·rw [if_neg c4] at H
     exact absurd H (by simp)
   ·rw [if_neg c3] at H
    have c3b0:decide (x7_1 < (a0.size:Int)) = false:=decide_eq_false c3
    clear c3
    simp only [Option.some.injEq,Prod.mk.injEq] at H
    obtain ⟨rfl,rfl⟩:=H
    go_wp2
    go_ret2
    exact ⟨by first | rfl | (simp;done) | (simp [*];done) | (simp;decide +kernel) | (simp [wrap64];done) | (simp [bne];done),by repeat (first | exact Drawn0.refl _ | apply Drawn0.step)⟩
/-! ### spec_ReadNum: function 47 -/
def spec_ReadNum.j0:Nat → ByteArray → Bool → Option (Int × Bool)
 | 0,_,_ => none
 | k + 1,x0,x10 => if x10 = true then (some (0,false)) else (if 0 < (x0.size:Int) then (if (bt x0 0) = 36 then (if 1 ≤ (x0.size:Int) then ((spec_l1Base.f k (x0.extract 1 x0.size) 16).bind fun bt128 => (some (bt128.1,bt128.2))) else (none)) else (if (bt x0 0) = 37 then (if 1 ≤ (x0.size:Int) then ((spec_l1Base.f k (x0.extract 1 x0.size) 2).bind fun bt130 => (some (bt130.1,bt130.2))) else (none)) else ((spec_l1Base.f k x0 10).bind fun bt132 => (some (bt132.1,bt132.2))))) else (none))
def spec_ReadNum.f (k:Nat) (a0:ByteArray):Option (Int × Bool):=if (a0.size:Int) > 18 then (spec_ReadNum.j0 k a0 true) else (spec_ReadNum.j0 k a0 (a0.toList == ([]:List UInt8)))
theorem spec_ReadNum.mono_l:∀ k,(∀ y0 y1,LeO (spec_ReadNum.j0 k y0 y1) (spec_ReadNum.j0 (k + 1) y0 y1))
 | 0 => fun _ _ r h => by simp [spec_ReadNum.j0] at h
 | k + 1 => by
  have ih0:=spec_ReadNum.mono_l k
  ·intro y0 y1
   unfold spec_ReadNum.j0
   repeat' first
   | (with_reducible exact ih0 _ _)
   | (with_reducible exact spec_l1Base.mono _ _ _)
   | (with_reducible exact LeO.refl _)
   | (with_reducible exact LeO.none _)
   | (with_reducible refine LeO.ite ?_ ?_)
   | (with_reducible refine LeO.bind ?_ (fun _ => ?_))
   | exact ih0 _ _
   | exact spec_l1Base.mono _ _ _
   | exact LeO.none _
   | refine LeO.ite ?_ ?_
   | refine LeO.bind ?_ (fun _ => ?_)
theorem spec_ReadNum.mono:∀ a0 k,LeO (spec_ReadNum.f k a0) (spec_ReadNum.f (k + 1) a0):=by
 intro a0 k
 have ih0:=spec_ReadNum.mono_l k
 unfold spec_ReadNum.f
 repeat' first
   | (with_reducible exact ih0 _ _)
   | (with_reducible exact spec_l1Base.mono _ _ _)
   | (with_reducible exact LeO.refl _)
   | (with_reducible exact LeO.none _)
   | (with_reducible refine LeO.ite ?_ ?_)
   | (with_reducible refine LeO.bind ?_ (fun _ => ?_))
   | exact ih0 _ _
   | exact spec_l1Base.mono _ _ _
   | exact LeO.none _
   | refine LeO.ite ?_ ?_
   | refine LeO.bind ?_ (fun _ => ?_)
set_option maxHeartbeats 8000000 in
set_option maxRecDepth 100000 in
theorem spec_ReadNum.calls (k:Nat) (a0:ByteArray) (r1:Int) (r2:Bool) (w:World) (h:spec_ReadNum.f k a0 = some (r1,r2)) :
  Calls Tryz.prog 47 #[.string a0] w fun e w' => e = .returned (.tuple #[.int .i64 r1,.bool r2]) ∧ Drawn0 w w':=by
 have H:(if (a0.size:Int) > 18 then (spec_ReadNum.j0 k a0 true) else (spec_ReadNum.j0 k a0 (a0.toList == ([]:List UInt8)))) = some (r1,r2):=h
 clear h
 have HC2:=Aside0.mk H
 clear H
 go_enter Tryz.func47,Tryz.ntmps47
 go_upto_region 1 with (fail)
 go_cut [10] (fun v10 wc => ∃ (kq:Nat) (x10_1:Bool),v10 = .bool x10_1 ∧ Aside0 (spec_ReadNum.j0 kq a0 x10_1 = some (r1,r2)) ∧ Aside0 (kq ≤ k) ∧ Drawn0 w wc)
 case first =>
  have H:=HC2.out
  clear HC2
  by_cases c3:(a0.size:Int) > 18
  ·rw [if_pos c3] at H
   have c3b0:decide (18 < (a0.size:Int)) = true:=decide_eq_true c3
   have c3b1:decide (18 < a0.size) = true:=decide_eq_true (by omega)
   clear c3
   (first | rw [c3b0] | (simp only [i64_w,i32_w];rw [c3b0]) | rw [c3b9] | skip)
   have H':=Aside0.mk H
   clear H
   go_wp2
   go_meet
   case rel => exact ⟨_,(true),(by first | rfl | (simp;done) | (simp [*];done) | (simp;decide +kernel) | (simp [wrap64];done) | (simp [bne];done)),H',⟨by first | omega | exact Nat.le_refl _⟩,by repeat (first | exact Drawn0.refl _ | apply Drawn0.step)⟩
  ·rw [if_neg c3] at H
   have c3b0:decide (18 < (a0.size:Int)) = false:=decide_eq_false c3
   have c3b1:decide (18 < a0.size) = false:=decide_eq_false (by omega)
   clear c3
   (first | rw [c3b0] | (simp only [i64_w,i32_w];rw [c3b0]) | rw [c3b9] | skip)
   have H':=Aside0.mk H
   clear H
   go_wp2
   go_meet
   case rel => exact ⟨_,((a0.toList == ([]:List UInt8))),(by first | rfl | (simp;done) | (simp [*];done) | (simp;decide +kernel) | (simp [wrap64];done) | (simp [bne];done)),H',⟨by first | omega | exact Nat.le_refl _⟩,by repeat (first | exact Drawn0.refl _ | apply Drawn0.step)⟩
 case rest =>
  clear HC2
  try clear p2
  try clear c3
  try clear c3b0
  try clear c3b1
  obtain ⟨kq,x10_1,rfl,HA,HJ1,⟨mc1,rfl⟩⟩:=hcut
  cases kq with
  | zero => exact absurd HA.out (by simp [spec_ReadNum.j0])
  | succ kj1 =>
   have H:=HA.out
   clear HA
   simp only [spec_ReadNum.j0] at H
   by_cases c4:x10_1 = true
   ·subst c4
    have H1:(some (0,false)) = some (r1,r2):=by rw [if_pos rfl] at H;exact H
    clear H
    have H:=H1
    clear H1
    simp only [Option.some.injEq,Prod.mk.injEq] at H
    obtain ⟨rfl,rfl⟩:=H
    go_wp2
    go_ret2
    exact ⟨by first | rfl | (simp;done) | (simp [*];done) | (simp;decide +kernel) | (simp [wrap64];done) | (simp [bne];done),by repeat (first | exact Drawn0.refl _ | apply Drawn0.step)⟩
   ·replace c4:=Bool.eq_false_iff.mpr c4
    subst c4
    have H1:(if 0 < (a0.size:Int) then (if (bt a0 0) = 36 then (if 1 ≤ (a0.size:Int) then ((spec_l1Base.f kj1 (a0.extract 1 a0.size) 16).bind fun bt128 => (some (bt128.1,bt128.2))) else (none)) else (if (bt a0 0) = 37 then (if 1 ≤ (a0.size:Int) then ((spec_l1Base.f kj1 (a0.extract 1 a0.size) 2).bind fun bt130 => (some (bt130.1,bt130.2))) else (none)) else ((spec_l1Base.f kj1 a0 10).bind fun bt132 => (some (bt132.1,bt132.2))))) else (none)) = some (r1,r2):=by rw [if_neg (show ¬ (false = true) by decide)] at H;exact H
    clear H
    have H:=H1
    clear H1
    by_cases c5:0 < (a0.size:Int)
    ·rw [if_pos c5] at H
     have c5b0:decide (0 < (a0.size:Int)) = true:=decide_eq_true c5
     have c5b1:decide (0 < a0.size) = true:=decide_eq_true (by omega)
     clear c5
     by_cases c7:(bt a0 0) = 36
     ·rw [if_pos c7] at H
      have c7b0:((bt a0 0) == 36) = true:=beq_iff_eq.mpr c7
      have c7b1:((bt a0 0) != 36) = false:=bne_eq_false_iff_eq.mpr c7
      clear c7
      by_cases c8:1 ≤ (a0.size:Int)
      ·rw [if_pos c8] at H
       have c8b0:=eq_true c8
       have c8b1:decide (1 ≤ (a0.size:Int)) = true:=decide_eq_true c8
       clear c8
       replace H:=Option.bind_eq_some_iff.mp H
       obtain ⟨⟨t128,t129⟩,A90,H⟩:=H
       replace H:(some (t128,t129)) = some (r1,r2):=H
       have A9:=Aside0.mk A90
       clear A90
       simp only [Option.some.injEq,Prod.mk.injEq] at H
       obtain ⟨rfl,rfl⟩:=H
       have p6:0 ≤ (0:Int):=(by omega)
       have q6:0 < a0.size:=(by have:(0:Int) < (a0.size:Int):=of_decide_eq_true (by first | (with_reducible assumption) | assumption);omega)
       have hx6:∀ h:0 < a0.size,((a0[0]'h).toNat:Int) = bt a0 0:=bt_at a0 0
       clear p6
       have qi6:(0 < (a0.size:Int)) = True:=eq_true (of_decide_eq_true (by first | (with_reducible assumption) | assumption))
       replace q6:=eq_true q6
       go_wp2_with (first | ((with_reducible refine gate_callee (f:=68) rfl ?_);refine goesL_ (some 17) rfl rfl Tryz.func68 (by kernel_rfl) rfl #[.string (a0.extract 1 a0.size),.int .i64 16] rfl (by (try simp only [List.map_toArray,List.map_cons,List.map_nil]);first | done | rfl | (simp only [List.length_drop,List.length_take];rfl)) ?_;(with_reducible refine (spec_l1Base.calls kj1 (a0.extract 1 a0.size) 16 t128 t129 _ A9.out).mono ?_);rintro e w' ⟨rfl,⟨nd,rfl⟩⟩;refine ⟨_,rfl,?_⟩))
       go_ret2
       exact ⟨by first | rfl | (simp;done) | (simp [*];done) | (simp;decide +kernel) | (simp [wrap64];done) | (simp [bne];done),by repeat (first | exact Drawn0.refl _ | apply Drawn0.step)⟩
      ·rw [if_neg c8] at H
       exact absurd H (by simp)
     ·rw [if_neg c7] at H
      have c7b0:((bt a0 0) == 36) = false:=beq_eq_false_iff_ne.mpr c7
      have c7b1:((bt a0 0) != 36) = true:=bne_iff_ne.mpr c7
      by_cases c10:(bt a0 0) = 37
      ·rw [if_pos c10] at H
       have c10b0:((bt a0 0) == 37) = true:=beq_iff_eq.mpr c10
       have c10b1:((bt a0 0) != 37) = false:=bne_eq_false_iff_eq.mpr c10
       clear c10
       by_cases c11:1 ≤ (a0.size:Int)
       ·rw [if_pos c11] at H
        have c11b0:=eq_true c11
        have c11b1:decide (1 ≤ (a0.size:Int)) = true:=decide_eq_true c11
        clear c11
        replace H:=Option.bind_eq_some_iff.mp H
        obtain ⟨⟨t130,t131⟩,A120,H⟩:=H
        replace H:(some (t130,t131)) = some (r1,r2):=H
        have A12:=Aside0.mk A120
        clear A120
        simp only [Option.some.injEq,Prod.mk.injEq] at H
        obtain ⟨rfl,rfl⟩:=H
        have p6:0 ≤ (0:Int):=(by omega)
        have q6:0 < a0.size:=(by have:(0:Int) < (a0.size:Int):=of_decide_eq_true (by first | (with_reducible assumption) | assumption);omega)
        have hx6:∀ h:0 < a0.size,((a0[0]'h).toNat:Int) = bt a0 0:=bt_at a0 0
        clear p6
        have qi6:(0 < (a0.size:Int)) = True:=eq_true (of_decide_eq_true (by first | (with_reducible assumption) | assumption))
        replace q6:=eq_true q6
        go_wp2_with (first | ((with_reducible refine gate_callee (f:=68) rfl ?_);refine goesL_ (some 24) rfl rfl Tryz.func68 (by kernel_rfl) rfl #[.string (a0.extract 1 a0.size),.int .i64 2] rfl (by (try simp only [List.map_toArray,List.map_cons,List.map_nil]);first | done | rfl | (simp only [List.length_drop,List.length_take];rfl)) ?_;(with_reducible refine (spec_l1Base.calls kj1 (a0.extract 1 a0.size) 2 t130 t131 _ A12.out).mono ?_);rintro e w' ⟨rfl,⟨nd,rfl⟩⟩;refine ⟨_,rfl,?_⟩))
        go_ret2
        exact ⟨by first | rfl | (simp;done) | (simp [*];done) | (simp;decide +kernel) | (simp [wrap64];done) | (simp [bne];done),by repeat (first | exact Drawn0.refl _ | apply Drawn0.step)⟩
       ·rw [if_neg c11] at H
        exact absurd H (by simp)
      ·rw [if_neg c10] at H
       have c10b0:((bt a0 0) == 37) = false:=beq_eq_false_iff_ne.mpr c10
       have c10b1:((bt a0 0) != 37) = true:=bne_iff_ne.mpr c10
       replace H:=Option.bind_eq_some_iff.mp H
       obtain ⟨⟨t132,t133⟩,A130,H⟩:=H
       replace H:(some (t132,t133)) = some (r1,r2):=H
       have A13:=Aside0.mk A130
       clear A130
       simp only [Option.some.injEq,Prod.mk.injEq] at H
       obtain ⟨rfl,rfl⟩:=H
       have p6:0 ≤ (0:Int):=(by omega)
       have q6:0 < a0.size:=(by have:(0:Int) < (a0.size:Int):=of_decide_eq_true (by first | (with_reducible assumption) | assumption);omega)
       have hx6:∀ h:0 < a0.size,((a0[0]'h).toNat:Int) = bt a0 0:=bt_at a0 0
       clear p6
       have qi6:(0 < (a0.size:Int)) = True:=eq_true (of_decide_eq_true (by first | (with_reducible assumption) | assumption))
       replace q6:=eq_true q6
       go_wp2_with (first | ((with_reducible refine gate_callee (f:=68) rfl ?_);refine goesL_ (some 28) rfl rfl Tryz.func68 (by kernel_rfl) rfl #[.string a0,.int .i64 10] rfl (by (try simp only [List.map_toArray,List.map_cons,List.map_nil]);first | done | rfl | (simp only [List.length_drop,List.length_take];rfl)) ?_;(with_reducible refine (spec_l1Base.calls kj1 a0 10 t132 t133 _ A13.out).mono ?_);rintro e w' ⟨rfl,⟨nd,rfl⟩⟩;refine ⟨_,rfl,?_⟩))
       go_ret2
       exact ⟨by first | rfl | (simp;done) | (simp [*];done) | (simp;decide +kernel) | (simp [wrap64];done) | (simp [bne];done),by repeat (first | exact Drawn0.refl _ | apply Drawn0.step)⟩
    ·rw [if_neg c5] at H
     exact absurd H (by simp)
-- NOT PRINTED: function 84 (spec_l2P_put)
/-! ### spec_l2Words: function 22 -/
def spec_l2Words.f :Option (List ByteArray):=some (([(⟨#[]⟩:ByteArray),(⟨#[]⟩:ByteArray),(⟨#[]⟩:ByteArray),(⟨#[]⟩:ByteArray),(⟨#[110,101,103]⟩:ByteArray),(⟨#[110,111,116]⟩:ByteArray),(⟨#[104,105,103,104]⟩:ByteArray),(⟨#[108,111,119]⟩:ByteArray),(⟨#[43]⟩:ByteArray),(⟨#[45]⟩:ByteArray),(⟨#[42]⟩:ByteArray),(⟨#[47]⟩:ByteArray),(⟨#[37]⟩:ByteArray),(⟨#[38]⟩:ByteArray),(⟨#[94]⟩:ByteArray),(⟨#[124]⟩:ByteArray),(⟨#[60,60]⟩:ByteArray),(⟨#[62,62]⟩:ByteArray)]:List ByteArray))
set_option maxHeartbeats 8000000 in
set_option maxRecDepth 100000 in
theorem spec_l2Words.calls  (r:List ByteArray) (w:World) (h:spec_l2Words.f  = some r) :
  Calls Tryz.prog 22 #[] w fun e w' => ∃ v0_:Value,e = .returned (v0_) ∧ Kd.R Kd.string 9 w' w.heap.size (fun _ => True) v0_ r ∧ Below w.heap.size w w':=by
 have HB:=Aside0.mk (Below.refl w.heap.size w)
 have H:(some (([(⟨#[]⟩:ByteArray),(⟨#[]⟩:ByteArray),(⟨#[]⟩:ByteArray),(⟨#[]⟩:ByteArray),(⟨#[110,101,103]⟩:ByteArray),(⟨#[110,111,116]⟩:ByteArray),(⟨#[104,105,103,104]⟩:ByteArray),(⟨#[108,111,119]⟩:ByteArray),(⟨#[43]⟩:ByteArray),(⟨#[45]⟩:ByteArray),(⟨#[42]⟩:ByteArray),(⟨#[47]⟩:ByteArray),(⟨#[37]⟩:ByteArray),(⟨#[38]⟩:ByteArray),(⟨#[94]⟩:ByteArray),(⟨#[124]⟩:ByteArray),(⟨#[60,60]⟩:ByteArray),(⟨#[62,62]⟩:ByteArray)]:List ByteArray))) = some r:=h
 clear h
 obtain ⟨y124,hy124⟩:∃ y_:List ByteArray,y_ = (([(⟨#[]⟩:ByteArray),(⟨#[]⟩:ByteArray),(⟨#[]⟩:ByteArray),(⟨#[]⟩:ByteArray),(⟨#[110,101,103]⟩:ByteArray),(⟨#[110,111,116]⟩:ByteArray),(⟨#[104,105,103,104]⟩:ByteArray),(⟨#[108,111,119]⟩:ByteArray),(⟨#[43]⟩:ByteArray),(⟨#[45]⟩:ByteArray),(⟨#[42]⟩:ByteArray),(⟨#[47]⟩:ByteArray),(⟨#[37]⟩:ByteArray),(⟨#[38]⟩:ByteArray),(⟨#[94]⟩:ByteArray),(⟨#[124]⟩:ByteArray),(⟨#[60,60]⟩:ByteArray),(⟨#[62,62]⟩:ByteArray)]:List ByteArray)):=⟨_,rfl⟩
 replace H:(some y124) = some r:=by first | (rw [hy124];with_reducible exact H) | (have H2_:=(Option.bind_some _ _).symm.trans H;rw [hy124];with_reducible exact H2_) | (have H2_:=(Option.bind_some _ _).symm.trans H;with_reducible exact H2_) | with_reducible exact H | (rw [hy124];exact H) | exact H
 have Ny124:=Aside0.mk hy124
 clear hy124
 obtain rfl:=Option.some.inj H
 go_enter Tryz.func22,Tryz.ntmps22
 go_wp2_with (first | ((with_reducible refine gate_dst (N:=1) rfl ?_);refine Kd.R_lit Kd.string _ 9 ?hg (N:=1) ?hd (xs:=([(⟨#[]⟩:ByteArray),(⟨#[]⟩:ByteArray),(⟨#[]⟩:ByteArray),(⟨#[]⟩:ByteArray),(⟨#[110,101,103]⟩:ByteArray),(⟨#[110,111,116]⟩:ByteArray),(⟨#[104,105,103,104]⟩:ByteArray),(⟨#[108,111,119]⟩:ByteArray),(⟨#[43]⟩:ByteArray),(⟨#[45]⟩:ByteArray),(⟨#[42]⟩:ByteArray),(⟨#[47]⟩:ByteArray),(⟨#[37]⟩:ByteArray),(⟨#[38]⟩:ByteArray),(⟨#[94]⟩:ByteArray),(⟨#[124]⟩:ByteArray),(⟨#[60,60]⟩:ByteArray),(⟨#[62,62]⟩:ByteArray)]:List ByteArray)) (inner:=[.string (⟨#[]⟩:ByteArray),.string (⟨#[]⟩:ByteArray),.string (⟨#[]⟩:ByteArray),.string (⟨#[]⟩:ByteArray),.string (⟨#[110,101,103]⟩:ByteArray),.string (⟨#[110,111,116]⟩:ByteArray),.string (⟨#[104,105,103,104]⟩:ByteArray),.string (⟨#[108,111,119]⟩:ByteArray),.string (⟨#[43]⟩:ByteArray),.string (⟨#[45]⟩:ByteArray),.string (⟨#[42]⟩:ByteArray),.string (⟨#[47]⟩:ByteArray),.string (⟨#[37]⟩:ByteArray),.string (⟨#[38]⟩:ByteArray),.string (⟨#[94]⟩:ByteArray),.string (⟨#[124]⟩:ByteArray),.string (⟨#[60,60]⟩:ByteArray),.string (⟨#[62,62]⟩:ByteArray)]) (ok:=fun _ => True) (okp:=fun _ => True) ?hr ?hp (fun _ hk => hk) trivial (Below.refl _ _) (Nat.le_refl _) (by simp) ?_;(case hd => rfl);(case hg => rfl);(case hr => first | (go_simp;done) | (go_simp;rfl));(case hp => exact (Reps.one (show Kd.M Kd.string _ _ _ (⟨#[]⟩:ByteArray) [.string (⟨#[]⟩:ByteArray)] from rfl) (Reps.one (show Kd.M Kd.string _ _ _ (⟨#[]⟩:ByteArray) [.string (⟨#[]⟩:ByteArray)] from rfl) (Reps.one (show Kd.M Kd.string _ _ _ (⟨#[]⟩:ByteArray) [.string (⟨#[]⟩:ByteArray)] from rfl) (Reps.one (show Kd.M Kd.string _ _ _ (⟨#[]⟩:ByteArray) [.string (⟨#[]⟩:ByteArray)] from rfl) (Reps.one (show Kd.M Kd.string _ _ _ (⟨#[110,101,103]⟩:ByteArray) [.string (⟨#[110,101,103]⟩:ByteArray)] from rfl) (Reps.one (show Kd.M Kd.string _ _ _ (⟨#[110,111,116]⟩:ByteArray) [.string (⟨#[110,111,116]⟩:ByteArray)] from rfl) (Reps.one (show Kd.M Kd.string _ _ _ (⟨#[104,105,103,104]⟩:ByteArray) [.string (⟨#[104,105,103,104]⟩:ByteArray)] from rfl) (Reps.one (show Kd.M Kd.string _ _ _ (⟨#[108,111,119]⟩:ByteArray) [.string (⟨#[108,111,119]⟩:ByteArray)] from rfl) (Reps.one (show Kd.M Kd.string _ _ _ (⟨#[43]⟩:ByteArray) [.string (⟨#[43]⟩:ByteArray)] from rfl) (Reps.one (show Kd.M Kd.string _ _ _ (⟨#[45]⟩:ByteArray) [.string (⟨#[45]⟩:ByteArray)] from rfl) (Reps.one (show Kd.M Kd.string _ _ _ (⟨#[42]⟩:ByteArray) [.string (⟨#[42]⟩:ByteArray)] from rfl) (Reps.one (show Kd.M Kd.string _ _ _ (⟨#[47]⟩:ByteArray) [.string (⟨#[47]⟩:ByteArray)] from rfl) (Reps.one (show Kd.M Kd.string _ _ _ (⟨#[37]⟩:ByteArray) [.string (⟨#[37]⟩:ByteArray)] from rfl) (Reps.one (show Kd.M Kd.string _ _ _ (⟨#[38]⟩:ByteArray) [.string (⟨#[38]⟩:ByteArray)] from rfl) (Reps.one (show Kd.M Kd.string _ _ _ (⟨#[94]⟩:ByteArray) [.string (⟨#[94]⟩:ByteArray)] from rfl) (Reps.one (show Kd.M Kd.string _ _ _ (⟨#[124]⟩:ByteArray) [.string (⟨#[124]⟩:ByteArray)] from rfl) (Reps.one (show Kd.M Kd.string _ _ _ (⟨#[60,60]⟩:ByteArray) [.string (⟨#[60,60]⟩:ByteArray)] from rfl) (Reps.one (show Kd.M Kd.string _ _ _ (⟨#[62,62]⟩:ByteArray) [.string (⟨#[62,62]⟩:ByteArray)] from rfl) (Reps.none _ _))))))))))))))))))));intro v125 w1 ho2 hb hg_ hnew_;clear hg_ hnew_;(first | rw [← Ny124.out] at ho2 | (simp only [Int.reduceToNat] at ho2;rw [← Ny124.out] at ho2));have n0_:=Aside0.mk (Kd.R_lower ho2 (below_size (by repeat (first | (with_reducible first | exact HB.out | apply below_alloc | apply pw_below_drewN | apply below_drew1) | exact HB.out))));have n1_:=Aside0.mk (below_step (by repeat (first | (with_reducible first | exact HB.out | apply below_alloc | apply pw_below_drewN | apply below_drew1) | exact HB.out)) hb);clear HB;have HO126:=n0_;have HB:=n1_;clear n0_ n1_;clear hb ho2))
 go_ret
 exact ⟨_,by first | rfl | (simp [errW_none,errW_some] <;> rfl) | (simp [*,errW_none,errW_some] <;> rfl) | (exfalso;simp_all;done),by (with_reducible repeat (first | apply Kd.R_alloc | apply Kd.R_drewN | apply Kd.R_drew));exact HO126.out,by repeat (first | (with_reducible first | exact HB.out | apply below_alloc | apply pw_below_drewN | apply below_drew1) | exact HB.out)⟩
/-! ### spec_l2Level: function 83 -/
mutual
def spec_l2Level.j0:Nat → Int → Bool → Option (Int)
 | 0,_,_ => none
 | k + 1,x3,x4 => if x4 = true then (some 6) else (if x3 = 8 then (spec_l2Level.j1 k x3 (x3 == 8)) else (spec_l2Level.j1 k x3 (x3 == 9)))
def spec_l2Level.j1:Nat → Int → Bool → Option (Int)
 | 0,_,_ => none
 | k + 1,x3,x8 => if x8 = true then (some 5) else (if x3 = 16 then (spec_l2Level.j2 k x3 (x3 == 16)) else (spec_l2Level.j2 k x3 (x3 == 17)))
def spec_l2Level.j2:Nat → Int → Bool → Option (Int)
 | 0,_,_ => none
 | k + 1,x3,x11 => if x11 = true then (some 4) else (if x3 = 13 then (some 3) else (if x3 = 14 then (some 2) else (some 1)))
end
def spec_l2Level.f (k:Nat) (a0:Int):Option (Int):=if a0 = 10 then (spec_l2Level.j0 k a0 (a0 == 10)) else (if a0 = 11 then (spec_l2Level.j0 k a0 (a0 == 11)) else (spec_l2Level.j0 k a0 (a0 == 12)))
theorem spec_l2Level.mono_l:∀ k,(∀ y0 y1,LeO (spec_l2Level.j0 k y0 y1) (spec_l2Level.j0 (k + 1) y0 y1)) ∧ (∀ y0 y1,LeO (spec_l2Level.j1 k y0 y1) (spec_l2Level.j1 (k + 1) y0 y1)) ∧ (∀ y0 y1,LeO (spec_l2Level.j2 k y0 y1) (spec_l2Level.j2 (k + 1) y0 y1))
 | 0 => ⟨fun _ _ r h => by simp [spec_l2Level.j0] at h,fun _ _ r h => by simp [spec_l2Level.j1] at h,fun _ _ r h => by simp [spec_l2Level.j2] at h⟩
 | k + 1 => by
  obtain ⟨ih0,ih1,ih2⟩:=spec_l2Level.mono_l k
  refine ⟨?_,?_,?_⟩
  ·intro y0 y1
   unfold spec_l2Level.j0
   repeat' first
   | (with_reducible exact ih0 _ _)
   | (with_reducible exact ih1 _ _)
   | (with_reducible exact ih2 _ _)
   | (with_reducible exact LeO.refl _)
   | (with_reducible exact LeO.none _)
   | (with_reducible refine LeO.ite ?_ ?_)
   | (with_reducible refine LeO.bind ?_ (fun _ => ?_))
   | exact ih0 _ _
   | exact ih1 _ _
   | exact ih2 _ _
   | exact LeO.none _
   | refine LeO.ite ?_ ?_
   | refine LeO.bind ?_ (fun _ => ?_)
  ·intro y0 y1
   unfold spec_l2Level.j1
   repeat' first
   | (with_reducible exact ih0 _ _)
   | (with_reducible exact ih1 _ _)
   | (with_reducible exact ih2 _ _)
   | (with_reducible exact LeO.refl _)
   | (with_reducible exact LeO.none _)
   | (with_reducible refine LeO.ite ?_ ?_)
   | (with_reducible refine LeO.bind ?_ (fun _ => ?_))
   | exact ih0 _ _
   | exact ih1 _ _
   | exact ih2 _ _
   | exact LeO.none _
   | refine LeO.ite ?_ ?_
   | refine LeO.bind ?_ (fun _ => ?_)
  ·intro y0 y1
   unfold spec_l2Level.j2
   repeat' first
   | (with_reducible exact ih0 _ _)
   | (with_reducible exact ih1 _ _)
   | (with_reducible exact ih2 _ _)
   | (with_reducible exact LeO.refl _)
   | (with_reducible exact LeO.none _)
   | (with_reducible refine LeO.ite ?_ ?_)
   | (with_reducible refine LeO.bind ?_ (fun _ => ?_))
   | exact ih0 _ _
   | exact ih1 _ _
   | exact ih2 _ _
   | exact LeO.none _
   | refine LeO.ite ?_ ?_
   | refine LeO.bind ?_ (fun _ => ?_)
theorem spec_l2Level.mono:∀ a0 k,LeO (spec_l2Level.f k a0) (spec_l2Level.f (k + 1) a0):=by
 intro a0 k
 obtain ⟨ih0,ih1,ih2⟩:=spec_l2Level.mono_l k
 unfold spec_l2Level.f
 repeat' first
   | (with_reducible exact ih0 _ _)
   | (with_reducible exact ih1 _ _)
   | (with_reducible exact ih2 _ _)
   | (with_reducible exact LeO.refl _)
   | (with_reducible exact LeO.none _)
   | (with_reducible refine LeO.ite ?_ ?_)
   | (with_reducible refine LeO.bind ?_ (fun _ => ?_))
   | exact ih0 _ _
   | exact ih1 _ _
   | exact ih2 _ _
   | exact LeO.none _
   | refine LeO.ite ?_ ?_
   | refine LeO.bind ?_ (fun _ => ?_)
set_option maxHeartbeats 8000000 in
set_option maxRecDepth 100000 in
theorem spec_l2Level.calls (k:Nat) (a0:Int) (r:Int) (w:World) (h:spec_l2Level.f k a0 = some r) :
  Calls Tryz.prog 83 #[.int .i64 a0] w fun e w' => e = .returned (.int .i64 r) ∧ Drawn0 w w':=by
 have H:(if a0 = 10 then (spec_l2Level.j0 k a0 (a0 == 10)) else (if a0 = 11 then (spec_l2Level.j0 k a0 (a0 == 11)) else (spec_l2Level.j0 k a0 (a0 == 12)))) = some r:=h
 clear h
 have HC2:=Aside0.mk H
 clear H
 go_enter Tryz.func83,Tryz.ntmps83
 go_upto_if 4 with (fail)
 go_cut [4] (fun v4 wc => ∃ (kq:Nat) (x4_1:Bool),v4 = .bool x4_1 ∧ Aside0 (spec_l2Level.j0 kq a0 x4_1 = some r) ∧ Aside0 (kq ≤ k) ∧ Drawn0 w wc)
 case first =>
  have H:=HC2.out
  clear HC2
  by_cases c3:a0 = 10
  ·rw [if_pos c3] at H
   have c3b0:(a0 == 10) = true:=beq_iff_eq.mpr c3
   have c3b1:(a0 != 10) = false:=bne_eq_false_iff_eq.mpr c3
   clear c3
   (first | rw [c3b0] | (simp only [i64_w,i32_w];rw [c3b0]) | rw [c3b9] | skip)
   have H':=Aside0.mk H
   clear H
   go_wp2
   go_meet
   case rel => exact ⟨_,((a0 == 10)),(by first | rfl | (simp;done) | (simp [*];done) | (simp;decide +kernel) | (simp [wrap64];done) | (simp [bne];done)),H',⟨by first | omega | exact Nat.le_refl _⟩,by repeat (first | exact Drawn0.refl _ | apply Drawn0.step)⟩
  ·rw [if_neg c3] at H
   have c3b0:(a0 == 10) = false:=beq_eq_false_iff_ne.mpr c3
   have c3b1:(a0 != 10) = true:=bne_iff_ne.mpr c3
   (first | rw [c3b0] | (simp only [i64_w,i32_w];rw [c3b0]) | rw [c3b9] | skip)
   by_cases c4:a0 = 11
   ·rw [if_pos c4] at H
    have c4b0:(a0 == 11) = true:=beq_iff_eq.mpr c4
    have c4b1:(a0 != 11) = false:=bne_eq_false_iff_eq.mpr c4
    clear c4
    have H':=Aside0.mk H
    clear H
    go_wp2
    go_meet
    case rel => exact ⟨_,((a0 == 11)),(by first | rfl | (simp;done) | (simp [*];done) | (simp;decide +kernel) | (simp [wrap64];done) | (simp [bne];done)),H',⟨by first | omega | exact Nat.le_refl _⟩,by repeat (first | exact Drawn0.refl _ | apply Drawn0.step)⟩
   ·rw [if_neg c4] at H
    have c4b0:(a0 == 11) = false:=beq_eq_false_iff_ne.mpr c4
    have c4b1:(a0 != 11) = true:=bne_iff_ne.mpr c4
    have H':=Aside0.mk H
    clear H
    go_wp2
    go_meet
    case rel => exact ⟨_,((a0 == 12)),(by first | rfl | (simp;done) | (simp [*];done) | (simp;decide +kernel) | (simp [wrap64];done) | (simp [bne];done)),H',⟨by first | omega | exact Nat.le_refl _⟩,by repeat (first | exact Drawn0.refl _ | apply Drawn0.step)⟩
 case rest =>
  clear HC2
  try clear p2
  try clear c3
  try clear c3b0
  try clear c3b1
  try clear c4
  try clear c4b0
  try clear c4b1
  obtain ⟨kq,x4_1,rfl,HA,HJ1,⟨mc1,rfl⟩⟩:=hcut
  cases kq with
  | zero => exact absurd HA.out (by simp [spec_l2Level.j0])
  | succ kj1 =>
   have H:=HA.out
   clear HA
   simp only [spec_l2Level.j0] at H
   by_cases c5:x4_1 = true
   ·subst c5
    have H1:(some 6) = some r:=by rw [if_pos rfl] at H;exact H
    clear H
    have H:=H1
    clear H1
    obtain rfl:=Option.some.inj H
    go_wp2
    go_ret
    exact ⟨by first | rfl | (simp;done) | (simp [*];done) | (simp;decide +kernel) | (simp [wrap64];done) | (simp [bne];done),by repeat (first | exact Drawn0.refl _ | apply Drawn0.step)⟩
   ·replace c5:=Bool.eq_false_iff.mpr c5
    subst c5
    have H1:(if a0 = 8 then (spec_l2Level.j1 kj1 a0 (a0 == 8)) else (spec_l2Level.j1 kj1 a0 (a0 == 9))) = some r:=by rw [if_neg (show ¬ (false = true) by decide)] at H;exact H
    clear H
    have H:=H1
    clear H1
    have HC6:=Aside0.mk H
    clear H
    go_upto_if 8 with (fail)
    go_cut [8] (fun v8 wc => ∃ (kq:Nat) (x8_5:Bool),v8 = .bool x8_5 ∧ Aside0 (spec_l2Level.j1 kq a0 x8_5 = some r) ∧ Aside0 (kq ≤ kj1) ∧ Drawn0 w wc)
    case first =>
     have H:=HC6.out
     clear HC6
     by_cases c7:a0 = 8
     ·rw [if_pos c7] at H
      have c7b0:(a0 == 8) = true:=beq_iff_eq.mpr c7
      have c7b1:(a0 != 8) = false:=bne_eq_false_iff_eq.mpr c7
      clear c7
      (first | rw [c7b0] | (simp only [i64_w,i32_w];rw [c7b0]) | rw [c7b9] | skip)
      have H':=Aside0.mk H
      clear H
      go_wp2
      go_meet
      case rel => exact ⟨_,((a0 == 8)),(by first | rfl | (simp;done) | (simp [*];done) | (simp;decide +kernel) | (simp [wrap64];done) | (simp [bne];done)),H',⟨by have:=HJ1.out;first | omega | exact Nat.le_refl _⟩,by repeat (first | exact Drawn0.refl _ | apply Drawn0.step)⟩
     ·rw [if_neg c7] at H
      have c7b0:(a0 == 8) = false:=beq_eq_false_iff_ne.mpr c7
      have c7b1:(a0 != 8) = true:=bne_iff_ne.mpr c7
      (first | rw [c7b0] | (simp only [i64_w,i32_w];rw [c7b0]) | rw [c7b9] | skip)
      have H':=Aside0.mk H
      clear H
      go_wp2
      go_meet
      case rel => exact ⟨_,((a0 == 9)),(by first | rfl | (simp;done) | (simp [*];done) | (simp;decide +kernel) | (simp [wrap64];done) | (simp [bne];done)),H',⟨by have:=HJ1.out;first | omega | exact Nat.le_refl _⟩,by repeat (first | exact Drawn0.refl _ | apply Drawn0.step)⟩
    case rest =>
     clear HC6
     try clear c1
     try clear p2
     try clear c3
     try clear c3b0
     try clear c3b1
     try clear c4
     try clear c4b0
     try clear c4b1
     try clear c5
     try clear p6
     try clear c7
     try clear c7b0
     try clear c7b1
     try clear p2
     obtain ⟨kq,x8_5,rfl,HA,HJ5,⟨mc5,rfl⟩⟩:=hcut
     cases kq with
     | zero => exact absurd HA.out (by simp [spec_l2Level.j1])
     | succ kj5 =>
      have H:=HA.out
      clear HA
      simp only [spec_l2Level.j1] at H
      by_cases c8:x8_5 = true
      ·subst c8
       have H1:(some 5) = some r:=by rw [if_pos rfl] at H;exact H
       clear H
       have H:=H1
       clear H1
       obtain rfl:=Option.some.inj H
       go_wp2
       go_ret
       exact ⟨by first | rfl | (simp;done) | (simp [*];done) | (simp;decide +kernel) | (simp [wrap64];done) | (simp [bne];done),by repeat (first | exact Drawn0.refl _ | apply Drawn0.step)⟩
      ·replace c8:=Bool.eq_false_iff.mpr c8
       subst c8
       have H1:(if a0 = 16 then (spec_l2Level.j2 kj5 a0 (a0 == 16)) else (spec_l2Level.j2 kj5 a0 (a0 == 17))) = some r:=by rw [if_neg (show ¬ (false = true) by decide)] at H;exact H
       clear H
       have H:=H1
       clear H1
       have HC9:=Aside0.mk H
       clear H
       go_upto_if 11 with (fail)
       go_cut [11] (fun v11 wc => ∃ (kq:Nat) (x11_8:Bool),v11 = .bool x11_8 ∧ Aside0 (spec_l2Level.j2 kq a0 x11_8 = some r) ∧ Aside0 (kq ≤ kj5) ∧ Drawn0 w wc)
       case first =>
        have H:=HC9.out
        clear HC9
        by_cases c10:a0 = 16
        ·rw [if_pos c10] at H
         have c10b0:(a0 == 16) = true:=beq_iff_eq.mpr c10
         have c10b1:(a0 != 16) = false:=bne_eq_false_iff_eq.mpr c10
         clear c10
         (first | rw [c10b0] | (simp only [i64_w,i32_w];rw [c10b0]) | rw [c10b9] | skip)
         have H':=Aside0.mk H
         clear H
         go_wp2
         go_meet
         case rel => exact ⟨_,((a0 == 16)),(by first | rfl | (simp;done) | (simp [*];done) | (simp;decide +kernel) | (simp [wrap64];done) | (simp [bne];done)),H',⟨by have:=HJ1.out;have:=HJ5.out;first | omega | exact Nat.le_refl _⟩,by repeat (first | exact Drawn0.refl _ | apply Drawn0.step)⟩
        ·rw [if_neg c10] at H
         have c10b0:(a0 == 16) = false:=beq_eq_false_iff_ne.mpr c10
         have c10b1:(a0 != 16) = true:=bne_iff_ne.mpr c10
         (first | rw [c10b0] | (simp only [i64_w,i32_w];rw [c10b0]) | rw [c10b9] | skip)
         have H':=Aside0.mk H
         clear H
         go_wp2
         go_meet
         case rel => exact ⟨_,((a0 == 17)),(by first | rfl | (simp;done) | (simp [*];done) | (simp;decide +kernel) | (simp [wrap64];done) | (simp [bne];done)),H',⟨by have:=HJ1.out;have:=HJ5.out;first | omega | exact Nat.le_refl _⟩,by repeat (first | exact Drawn0.refl _ | apply Drawn0.step)⟩
       case rest =>
        clear HC9
        try clear c1
        try clear p2
        try clear c3
        try clear c3b0
        try clear c3b1
        try clear c4
        try clear c4b0
        try clear c4b1
        try clear c5
        try clear p6
        try clear c7
        try clear c7b0
        try clear c7b1
        try clear c8
        try clear c10
        try clear c10b0
        try clear c10b1
        try clear p2
        try clear p6
        obtain ⟨kq,x11_8,rfl,HA,HJ8,⟨mc8,rfl⟩⟩:=hcut
        cases kq with
        | zero => exact absurd HA.out (by simp [spec_l2Level.j2])
        | succ kj8 =>
         have H:=HA.out
         clear HA
         simp only [spec_l2Level.j2] at H
         by_cases c11:x11_8 = true
         ·subst c11
          have H1:(some 4) = some r:=by rw [if_pos rfl] at H;exact H
          clear H
          have H:=H1
          clear H1
          obtain rfl:=Option.some.inj H
          go_wp2
          go_ret
          exact ⟨by first | rfl | (simp;done) | (simp [*];done) | (simp;decide +kernel) | (simp [wrap64];done) | (simp [bne];done),by repeat (first | exact Drawn0.refl _ | apply Drawn0.step)⟩
         ·replace c11:=Bool.eq_false_iff.mpr c11
          subst c11
          have H1:(if a0 = 13 then (some 3) else (if a0 = 14 then (some 2) else (some 1))) = some r:=by rw [if_neg (show ¬ (false = true) by decide)] at H;exact H
          clear H
          have H:=H1
          clear H1
          by_cases c12:a0 = 13
          ·rw [if_pos c12] at H
           have c12b0:(a0 == 13) = true:=beq_iff_eq.mpr c12
           have c12b1:(a0 != 13) = false:=bne_eq_false_iff_eq.mpr c12
           clear c12
           obtain rfl:=Option.some.inj H
           go_wp2
           go_ret
           exact ⟨by first | rfl | (simp;done) | (simp [*];done) | (simp;decide +kernel) | (simp [wrap64];done) | (simp [bne];done),by repeat (first | exact Drawn0.refl _ | apply Drawn0.step)⟩
          ·rw [if_neg c12] at H
           have c12b0:(a0 == 13) = false:=beq_eq_false_iff_ne.mpr c12
           have c12b1:(a0 != 13) = true:=bne_iff_ne.mpr c12
           by_cases c13:a0 = 14
           ·rw [if_pos c13] at H
            have c13b0:(a0 == 14) = true:=beq_iff_eq.mpr c13
            have c13b1:(a0 != 14) = false:=bne_eq_false_iff_eq.mpr c13
            clear c13
            obtain rfl:=Option.some.inj H
            go_wp2
            go_ret
            exact ⟨by first | rfl | (simp;done) | (simp [*];done) | (simp;decide +kernel) | (simp [wrap64];done) | (simp [bne];done),by repeat (first | exact Drawn0.refl _ | apply Drawn0.step)⟩
           ·rw [if_neg c13] at H
            have c13b0:(a0 == 14) = false:=beq_eq_false_iff_ne.mpr c13
            have c13b1:(a0 != 14) = true:=bne_iff_ne.mpr c13
            obtain rfl:=Option.some.inj H
            go_wp2
            go_ret
            exact ⟨by first | rfl | (simp;done) | (simp [*];done) | (simp;decide +kernel) | (simp [wrap64];done) | (simp [bne];done),by repeat (first | exact Drawn0.refl _ | apply Drawn0.step)⟩
-- NOT PRINTED: function 65 (spec_l2P_level)
-- NOT PRINTED: function 43 (spec_Compiled)
/-! ### spec_l1In: function 40 -/
def spec_l1In.f (a0:Int) (a1:Int) (a2:Int):Option (Bool):=if a0 ≥ a1 then (some (decide (a0 ≤ a2))) else (some false)
set_option maxHeartbeats 8000000 in
set_option maxRecDepth 100000 in
theorem spec_l1In.calls (a0:Int) (a1:Int) (a2:Int) (r:Bool) (w:World) (h:spec_l1In.f a0 a1 a2 = some r) :
  Calls Tryz.prog 40 #[.int .i64 a0,.int .i64 a1,.int .i64 a2] w fun e w' => e = .returned (.bool r) ∧ Drawn0 w w':=by
 have H:(if a0 ≥ a1 then (some (decide (a0 ≤ a2))) else (some false)) = some r:=h
 clear h
 by_cases c4:a0 ≥ a1
 ·rw [if_pos c4] at H
  have c4b0:decide (a1 ≤ a0) = true:=decide_eq_true c4
  clear c4
  obtain rfl:=Option.some.inj H
  go_enter Tryz.func40,Tryz.ntmps40
  go_wp2
  go_ret
  exact ⟨by first | rfl | (simp;done) | (simp [*];done) | (simp;decide +kernel) | (simp [wrap64];done) | (simp [bne];done),by repeat (first | exact Drawn0.refl _ | apply Drawn0.step)⟩
 ·rw [if_neg c4] at H
  have c4b0:decide (a1 ≤ a0) = false:=decide_eq_false c4
  clear c4
  obtain rfl:=Option.some.inj H
  go_enter Tryz.func40,Tryz.ntmps40
  go_wp2
  go_ret
  exact ⟨by first | rfl | (simp;done) | (simp [*];done) | (simp;decide +kernel) | (simp [wrap64];done) | (simp [bne];done),by repeat (first | exact Drawn0.refl _ | apply Drawn0.step)⟩
/-! ### spec_l2Takes: function 25 -/
def spec_l2Takes.f (a0:Int):Option (Int):=(spec_l1In.f a0 1 3).bind fun t109 => (if t109 = true then (some 0) else ((spec_l1In.f a0 4 7).bind fun t110 => (if t110 = true then (some 1) else ((spec_l1In.f a0 8 17).bind fun t111 => (if t111 = true then (some 2) else (some (-1)))))))
set_option maxHeartbeats 8000000 in
set_option maxRecDepth 100000 in
theorem spec_l2Takes.calls (a0:Int) (r:Int) (w:World) (h:spec_l2Takes.f a0 = some r) :
  Calls Tryz.prog 25 #[.int .i64 a0] w fun e w' => e = .returned (.int .i64 r) ∧ Drawn0 w w':=by
 have H:((spec_l1In.f a0 1 3).bind fun t109 => (if t109 = true then (some 0) else ((spec_l1In.f a0 4 7).bind fun t110 => (if t110 = true then (some 1) else ((spec_l1In.f a0 8 17).bind fun t111 => (if t111 = true then (some 2) else (some (-1)))))))) = some r:=h
 clear h
 replace H:=Option.bind_eq_some_iff.mp H
 obtain ⟨t109,A20,H⟩:=H
 replace H:(if t109 = true then (some 0) else ((spec_l1In.f a0 4 7).bind fun t110 => (if t110 = true then (some 1) else ((spec_l1In.f a0 8 17).bind fun t111 => (if t111 = true then (some 2) else (some (-1))))))) = some r:=H
 have A2:=Aside0.mk A20
 clear A20
 by_cases c3:t109 = true
 ·subst c3
  have H1:(some 0) = some r:=by rw [if_pos rfl] at H;exact H
  clear H
  have H:=H1
  clear H1
  obtain rfl:=Option.some.inj H
  go_enter Tryz.func25,Tryz.ntmps25
  go_wp2_with (first | ((with_reducible refine gate_callee (f:=40) rfl ?_);refine goesL_ (some 5) rfl rfl Tryz.func40 (by kernel_rfl) rfl #[.int .i64 a0,.int .i64 1,.int .i64 3] rfl (by (try simp only [List.map_toArray,List.map_cons,List.map_nil]);first | done | rfl | (simp only [List.length_drop,List.length_take];rfl)) ?_;(with_reducible refine (spec_l1In.calls a0 1 3 true _ A2.out).mono ?_);rintro e w' ⟨rfl,⟨nd,rfl⟩⟩;refine ⟨_,rfl,?_⟩))
  go_ret
  exact ⟨by first | rfl | (simp;done) | (simp [*];done) | (simp;decide +kernel) | (simp [wrap64];done) | (simp [bne];done),by repeat (first | exact Drawn0.refl _ | apply Drawn0.step)⟩
 ·replace c3:=Bool.eq_false_iff.mpr c3
  subst c3
  have H1:((spec_l1In.f a0 4 7).bind fun t110 => (if t110 = true then (some 1) else ((spec_l1In.f a0 8 17).bind fun t111 => (if t111 = true then (some 2) else (some (-1)))))) = some r:=by rw [if_neg (show ¬ (false = true) by decide)] at H;exact H
  clear H
  have H:=H1
  clear H1
  replace H:=Option.bind_eq_some_iff.mp H
  obtain ⟨t110,A40,H⟩:=H
  replace H:(if t110 = true then (some 1) else ((spec_l1In.f a0 8 17).bind fun t111 => (if t111 = true then (some 2) else (some (-1))))) = some r:=H
  have A4:=Aside0.mk A40
  clear A40
  by_cases c5:t110 = true
  ·subst c5
   have H1:(some 1) = some r:=by rw [if_pos rfl] at H;exact H
   clear H
   have H:=H1
   clear H1
   obtain rfl:=Option.some.inj H
   go_enter Tryz.func25,Tryz.ntmps25
   go_wp2_with (first | ((with_reducible refine gate_callee (f:=40) rfl ?_);refine goesL_ (some 5) rfl rfl Tryz.func40 (by kernel_rfl) rfl #[.int .i64 a0,.int .i64 1,.int .i64 3] rfl (by (try simp only [List.map_toArray,List.map_cons,List.map_nil]);first | done | rfl | (simp only [List.length_drop,List.length_take];rfl)) ?_;(with_reducible refine (spec_l1In.calls a0 1 3 false _ A2.out).mono ?_);rintro e w' ⟨rfl,⟨nd,rfl⟩⟩;refine ⟨_,rfl,?_⟩) | ((with_reducible refine gate_callee (f:=40) rfl ?_);refine goesL_ (some 8) rfl rfl Tryz.func40 (by kernel_rfl) rfl #[.int .i64 a0,.int .i64 4,.int .i64 7] rfl (by (try simp only [List.map_toArray,List.map_cons,List.map_nil]);first | done | rfl | (simp only [List.length_drop,List.length_take];rfl)) ?_;(with_reducible refine (spec_l1In.calls a0 4 7 true _ A4.out).mono ?_);rintro e w' ⟨rfl,⟨nd,rfl⟩⟩;refine ⟨_,rfl,?_⟩))
   go_ret
   exact ⟨by first | rfl | (simp;done) | (simp [*];done) | (simp;decide +kernel) | (simp [wrap64];done) | (simp [bne];done),by repeat (first | exact Drawn0.refl _ | apply Drawn0.step)⟩
  ·replace c5:=Bool.eq_false_iff.mpr c5
   subst c5
   have H1:((spec_l1In.f a0 8 17).bind fun t111 => (if t111 = true then (some 2) else (some (-1)))) = some r:=by rw [if_neg (show ¬ (false = true) by decide)] at H;exact H
   clear H
   have H:=H1
   clear H1
   replace H:=Option.bind_eq_some_iff.mp H
   obtain ⟨t111,A60,H⟩:=H
   replace H:(if t111 = true then (some 2) else (some (-1))) = some r:=H
   have A6:=Aside0.mk A60
   clear A60
   by_cases c7:t111 = true
   ·subst c7
    have H1:(some 2) = some r:=by rw [if_pos rfl] at H;exact H
    clear H
    have H:=H1
    clear H1
    obtain rfl:=Option.some.inj H
    go_enter Tryz.func25,Tryz.ntmps25
    go_wp2_with (first | ((with_reducible refine gate_callee (f:=40) rfl ?_);refine goesL_ (some 5) rfl rfl Tryz.func40 (by kernel_rfl) rfl #[.int .i64 a0,.int .i64 1,.int .i64 3] rfl (by (try simp only [List.map_toArray,List.map_cons,List.map_nil]);first | done | rfl | (simp only [List.length_drop,List.length_take];rfl)) ?_;(with_reducible refine (spec_l1In.calls a0 1 3 false _ A2.out).mono ?_);rintro e w' ⟨rfl,⟨nd,rfl⟩⟩;refine ⟨_,rfl,?_⟩) | ((with_reducible refine gate_callee (f:=40) rfl ?_);refine goesL_ (some 8) rfl rfl Tryz.func40 (by kernel_rfl) rfl #[.int .i64 a0,.int .i64 4,.int .i64 7] rfl (by (try simp only [List.map_toArray,List.map_cons,List.map_nil]);first | done | rfl | (simp only [List.length_drop,List.length_take];rfl)) ?_;(with_reducible refine (spec_l1In.calls a0 4 7 false _ A4.out).mono ?_);rintro e w' ⟨rfl,⟨nd,rfl⟩⟩;refine ⟨_,rfl,?_⟩) | ((with_reducible refine gate_callee (f:=40) rfl ?_);refine goesL_ (some 11) rfl rfl Tryz.func40 (by kernel_rfl) rfl #[.int .i64 a0,.int .i64 8,.int .i64 17] rfl (by (try simp only [List.map_toArray,List.map_cons,List.map_nil]);first | done | rfl | (simp only [List.length_drop,List.length_take];rfl)) ?_;(with_reducible refine (spec_l1In.calls a0 8 17 true _ A6.out).mono ?_);rintro e w' ⟨rfl,⟨nd,rfl⟩⟩;refine ⟨_,rfl,?_⟩))
    go_ret
    exact ⟨by first | rfl | (simp;done) | (simp [*];done) | (simp;decide +kernel) | (simp [wrap64];done) | (simp [bne];done),by repeat (first | exact Drawn0.refl _ | apply Drawn0.step)⟩
   ·replace c7:=Bool.eq_false_iff.mpr c7
    subst c7
    have H1:(some (-1)) = some r:=by rw [if_neg (show ¬ (false = true) by decide)] at H;exact H
    clear H
    have H:=H1
    clear H1
    obtain rfl:=Option.some.inj H
    go_enter Tryz.func25,Tryz.ntmps25
    go_wp2_with (first | ((with_reducible refine gate_callee (f:=40) rfl ?_);refine goesL_ (some 5) rfl rfl Tryz.func40 (by kernel_rfl) rfl #[.int .i64 a0,.int .i64 1,.int .i64 3] rfl (by (try simp only [List.map_toArray,List.map_cons,List.map_nil]);first | done | rfl | (simp only [List.length_drop,List.length_take];rfl)) ?_;(with_reducible refine (spec_l1In.calls a0 1 3 false _ A2.out).mono ?_);rintro e w' ⟨rfl,⟨nd,rfl⟩⟩;refine ⟨_,rfl,?_⟩) | ((with_reducible refine gate_callee (f:=40) rfl ?_);refine goesL_ (some 8) rfl rfl Tryz.func40 (by kernel_rfl) rfl #[.int .i64 a0,.int .i64 4,.int .i64 7] rfl (by (try simp only [List.map_toArray,List.map_cons,List.map_nil]);first | done | rfl | (simp only [List.length_drop,List.length_take];rfl)) ?_;(with_reducible refine (spec_l1In.calls a0 4 7 false _ A4.out).mono ?_);rintro e w' ⟨rfl,⟨nd,rfl⟩⟩;refine ⟨_,rfl,?_⟩) | ((with_reducible refine gate_callee (f:=40) rfl ?_);refine goesL_ (some 11) rfl rfl Tryz.func40 (by kernel_rfl) rfl #[.int .i64 a0,.int .i64 8,.int .i64 17] rfl (by (try simp only [List.map_toArray,List.map_cons,List.map_nil]);first | done | rfl | (simp only [List.length_drop,List.length_take];rfl)) ?_;(with_reducible refine (spec_l1In.calls a0 8 17 false _ A6.out).mono ?_);rintro e w' ⟨rfl,⟨nd,rfl⟩⟩;refine ⟨_,rfl,?_⟩))
    go_ret
    exact ⟨by first | rfl | (simp;done) | (simp [*];done) | (simp;decide +kernel) | (simp [wrap64];done) | (simp [bne];done),by repeat (first | exact Drawn0.refl _ | apply Drawn0.step)⟩
/-! ### spec_l2Node: function 24 -/
def spec_l2Node.j0:Nat → Bool → Int → Int → ByteArray → Option (Bool)
 | 0,_,_,_,_ => none
 | k + 1,x15,x115000,x115001,x115002 => if x15 = true then (if x115001 = 0 then ((spec_NameOk.f k x115002).bind fun t116 => (some t116)) else (some false)) else (if x115001 = 0 then (if x115002.toList = ([]:List UInt8) then ((spec_l2Takes.f x115000).bind fun t117 => (some (decide (t117 > 0)))) else (some false)) else (some false))
def spec_l2Node.f (k:Nat) (a0_0:Int) (a0_1:Int) (a0_2:ByteArray):Option (Bool):=if a0_0 = 1 then ((spec_l1In.f a0_1 0 65535).bind fun t115 => (if t115 = true then (some (a0_2.toList == ([]:List UInt8))) else (some false))) else (if a0_0 = 2 then (spec_l2Node.j0 k (a0_0 == 2) a0_0 a0_1 a0_2) else (spec_l2Node.j0 k (a0_0 == 3) a0_0 a0_1 a0_2))
theorem spec_l2Node.mono_l:∀ k,(∀ y0 y1 y2 y3,LeO (spec_l2Node.j0 k y0 y1 y2 y3) (spec_l2Node.j0 (k + 1) y0 y1 y2 y3))
 | 0 => fun _ _ _ _ r h => by simp [spec_l2Node.j0] at h
 | k + 1 => by
  have ih0:=spec_l2Node.mono_l k
  ·intro y0 y1 y2 y3
   unfold spec_l2Node.j0
   repeat' first
   | (with_reducible exact ih0 _ _ _ _)
   | (with_reducible exact spec_NameOk.mono _ _)
   | (with_reducible exact LeO.refl _)
   | (with_reducible exact LeO.none _)
   | (with_reducible refine LeO.ite ?_ ?_)
   | (with_reducible refine LeO.bind ?_ (fun _ => ?_))
   | exact ih0 _ _ _ _
   | exact spec_NameOk.mono _ _
   | exact LeO.none _
   | refine LeO.ite ?_ ?_
   | refine LeO.bind ?_ (fun _ => ?_)
theorem spec_l2Node.mono:∀ a0 a1 a2 k,LeO (spec_l2Node.f k a0 a1 a2) (spec_l2Node.f (k + 1) a0 a1 a2):=by
 intro a0 a1 a2 k
 have ih0:=spec_l2Node.mono_l k
 unfold spec_l2Node.f
 repeat' first
   | (with_reducible exact ih0 _ _ _ _)
   | (with_reducible exact spec_NameOk.mono _ _)
   | (with_reducible exact LeO.refl _)
   | (with_reducible exact LeO.none _)
   | (with_reducible refine LeO.ite ?_ ?_)
   | (with_reducible refine LeO.bind ?_ (fun _ => ?_))
   | exact ih0 _ _ _ _
   | exact spec_NameOk.mono _ _
   | exact LeO.none _
   | refine LeO.ite ?_ ?_
   | refine LeO.bind ?_ (fun _ => ?_)
set_option maxHeartbeats 8000000 in
set_option maxRecDepth 100000 in
theorem spec_l2Node.calls (k:Nat) (a0_0:Int) (a0_1:Int) (a0_2:ByteArray) (r:Bool) (w:World) (h:spec_l2Node.f k a0_0 a0_1 a0_2 = some r) :
  Calls Tryz.prog 24 #[.agg #[.int .i64 a0_0,.int .i64 a0_1,.string a0_2]] w fun e w' => e = .returned (.bool r) ∧ Below w.heap.size w w':=by
 have hu43:=Tryz.underlying43
 have HB:=Aside0.mk (Below.refl w.heap.size w)
 have H:(if a0_0 = 1 then ((spec_l1In.f a0_1 0 65535).bind fun t115 => (if t115 = true then (some (a0_2.toList == ([]:List UInt8))) else (some false))) else (if a0_0 = 2 then (spec_l2Node.j0 k (a0_0 == 2) a0_0 a0_1 a0_2) else (spec_l2Node.j0 k (a0_0 == 3) a0_0 a0_1 a0_2))) = some r:=h
 clear h
 by_cases c2:a0_0 = 1
 ·rw [if_pos c2] at H
  have c2b0:(a0_0 == 1) = true:=beq_iff_eq.mpr c2
  have c2b1:(a0_0 != 1) = false:=bne_eq_false_iff_eq.mpr c2
  clear c2
  replace H:=Option.bind_eq_some_iff.mp H
  obtain ⟨t115,A30,H⟩:=H
  replace H:(if t115 = true then (some (a0_2.toList == ([]:List UInt8))) else (some false)) = some r:=H
  have A3:=Aside0.mk A30
  clear A30
  by_cases c4:t115 = true
  ·subst c4
   have H1:(some (a0_2.toList == ([]:List UInt8))) = some r:=by rw [if_pos rfl] at H;exact H
   clear H
   have H:=H1
   clear H1
   obtain rfl:=Option.some.inj H
   go_enter Tryz.func24,Tryz.ntmps24
   go_wp2_with (first | ((with_reducible refine gate_dst (N:=1) rfl ?_);refine box_event ?hg (N:=1) ?hd (cs:=#[.int .i64 a0_0,.int .i64 a0_1,.string a0_2]) (t:=43) ?hr ?_;(case hd => rfl);(case hg => rfl);(case hr => first | (go_simp;done) | (go_simp;rfl));intro gb114 hg w5 hbox hb;have n0_:=Aside0.mk (below_step (by repeat (first | (with_reducible first | exact HB.out | apply below_alloc | apply pw_below_drewN | apply below_drew1) | exact HB.out)) hb);have n1_:=Aside0.mk (hbox);have n2_:=Aside0.mk ((by rw [hg];exact (below_size (by repeat (first | (with_reducible first | exact HB.out | apply below_alloc | apply pw_below_drewN | apply below_drew1) | exact HB.out))):w.heap.size ≤ gb114));have n3_:=Aside0.mk ((by rw [hg];exact (below_size (by repeat (first | (with_reducible first | exact HB.out | apply below_alloc | apply pw_below_drewN | apply below_drew1) | exact HB.out))):w.heap.size ≤ gb114));clear HB;have HB:=n0_;have BK114:=n1_;have GW114:=n2_;have GE114:=n3_;clear n0_ n1_ n2_ n3_;clear hb hbox hg;have hcz6_0:w5.cell? ⟨gb114,0,none⟩ = some (.int .i64 a0_0):=(blk_cell BK114.out 0).trans rfl;have hcz6_1:w5.cell? ⟨gb114,1,none⟩ = some (.int .i64 a0_1):=(blk_cell BK114.out 1).trans rfl;have hcz6_2:w5.cell? ⟨gb114,2,none⟩ = some (.string a0_2):=(blk_cell BK114.out 2).trans rfl;have hfz6_0:=blk_frozen BK114.out 0;have hfz6_1:=blk_frozen BK114.out 1;have hfz6_2:=blk_frozen BK114.out 2) | ((with_reducible refine gate_callee (f:=40) rfl ?_);refine goesL_ (some 9) rfl rfl Tryz.func40 (by kernel_rfl) rfl #[.int .i64 a0_1,.int .i64 0,.int .i64 65535] rfl (by (try simp only [List.map_toArray,List.map_cons,List.map_nil]);first | done | rfl | (simp only [List.length_drop,List.length_take];rfl)) ?_;(with_reducible refine (spec_l1In.calls a0_1 0 65535 true _ A3.out).mono ?_);rintro e w' ⟨rfl,⟨nd,rfl⟩⟩;refine ⟨_,rfl,?_⟩))
   go_ret
   exact ⟨by first | rfl | (simp [errW_none,errW_some] <;> rfl) | (simp [*,errW_none,errW_some] <;> rfl) | (exfalso;simp_all;done),by repeat (first | (with_reducible first | exact HB.out | apply below_alloc | apply pw_below_drewN | apply below_drew1 | refine below_set ?_ GE114.out) | exact HB.out)⟩
  ·replace c4:=Bool.eq_false_iff.mpr c4
   subst c4
   have H1:(some false) = some r:=by rw [if_neg (show ¬ (false = true) by decide)] at H;exact H
   clear H
   have H:=H1
   clear H1
   obtain rfl:=Option.some.inj H
   go_enter Tryz.func24,Tryz.ntmps24
   go_wp2_with (first | ((with_reducible refine gate_dst (N:=1) rfl ?_);refine box_event ?hg (N:=1) ?hd (cs:=#[.int .i64 a0_0,.int .i64 a0_1,.string a0_2]) (t:=43) ?hr ?_;(case hd => rfl);(case hg => rfl);(case hr => first | (go_simp;done) | (go_simp;rfl));intro gb114 hg w7 hbox hb;have n0_:=Aside0.mk (below_step (by repeat (first | (with_reducible first | exact HB.out | apply below_alloc | apply pw_below_drewN | apply below_drew1) | exact HB.out)) hb);have n1_:=Aside0.mk (hbox);have n2_:=Aside0.mk ((by rw [hg];exact (below_size (by repeat (first | (with_reducible first | exact HB.out | apply below_alloc | apply pw_below_drewN | apply below_drew1) | exact HB.out))):w.heap.size ≤ gb114));have n3_:=Aside0.mk ((by rw [hg];exact (below_size (by repeat (first | (with_reducible first | exact HB.out | apply below_alloc | apply pw_below_drewN | apply below_drew1) | exact HB.out))):w.heap.size ≤ gb114));clear HB;have HB:=n0_;have BK114:=n1_;have GW114:=n2_;have GE114:=n3_;clear n0_ n1_ n2_ n3_;clear hb hbox hg;have hcz8_0:w7.cell? ⟨gb114,0,none⟩ = some (.int .i64 a0_0):=(blk_cell BK114.out 0).trans rfl;have hcz8_1:w7.cell? ⟨gb114,1,none⟩ = some (.int .i64 a0_1):=(blk_cell BK114.out 1).trans rfl;have hcz8_2:w7.cell? ⟨gb114,2,none⟩ = some (.string a0_2):=(blk_cell BK114.out 2).trans rfl;have hfz8_0:=blk_frozen BK114.out 0;have hfz8_1:=blk_frozen BK114.out 1;have hfz8_2:=blk_frozen BK114.out 2) | ((with_reducible refine gate_callee (f:=40) rfl ?_);refine goesL_ (some 9) rfl rfl Tryz.func40 (by kernel_rfl) rfl #[.int .i64 a0_1,.int .i64 0,.int .i64 65535] rfl (by (try simp only [List.map_toArray,List.map_cons,List.map_nil]);first | done | rfl | (simp only [List.length_drop,List.length_take];rfl)) ?_;(with_reducible refine (spec_l1In.calls a0_1 0 65535 false _ A3.out).mono ?_);rintro e w' ⟨rfl,⟨nd,rfl⟩⟩;refine ⟨_,rfl,?_⟩))
   go_ret
   exact ⟨by first | rfl | (simp [errW_none,errW_some] <;> rfl) | (simp [*,errW_none,errW_some] <;> rfl) | (exfalso;simp_all;done),by repeat (first | (with_reducible first | exact HB.out | apply below_alloc | apply pw_below_drewN | apply below_drew1 | refine below_set ?_ GE114.out) | exact HB.out)⟩
 ·rw [if_neg c2] at H
  have c2b0:(a0_0 == 1) = false:=beq_eq_false_iff_ne.mpr c2
  have c2b1:(a0_0 != 1) = true:=bne_iff_ne.mpr c2
  have HC9:=Aside0.mk H
  clear H
  go_enter Tryz.func24,Tryz.ntmps24
  go_upto_if 15 with (first | ((with_reducible refine gate_dst (N:=1) rfl ?_);refine box_event ?hg (N:=1) ?hd (cs:=#[.int .i64 a0_0,.int .i64 a0_1,.string a0_2]) (t:=43) ?hr ?_;(case hd => rfl);(case hg => rfl);(case hr => first | (go_simp;done) | (go_simp;rfl));intro gb114 hg w10 hbox hb;have n0_:=Aside0.mk (below_step (by repeat (first | (with_reducible first | exact HB.out | apply below_alloc | apply pw_below_drewN | apply below_drew1) | exact HB.out)) hb);have n1_:=Aside0.mk (hbox);have n2_:=Aside0.mk ((by rw [hg];exact (below_size (by repeat (first | (with_reducible first | exact HB.out | apply below_alloc | apply pw_below_drewN | apply below_drew1) | exact HB.out))):w.heap.size ≤ gb114));have n3_:=Aside0.mk ((by rw [hg];exact (below_size (by repeat (first | (with_reducible first | exact HB.out | apply below_alloc | apply pw_below_drewN | apply below_drew1) | exact HB.out))):w.heap.size ≤ gb114));clear HB;have HB:=n0_;have BK114:=n1_;have GW114:=n2_;have GE114:=n3_;clear n0_ n1_ n2_ n3_;clear hb hbox hg;have hcz11_0:w10.cell? ⟨gb114,0,none⟩ = some (.int .i64 a0_0):=(blk_cell BK114.out 0).trans rfl;have hcz11_1:w10.cell? ⟨gb114,1,none⟩ = some (.int .i64 a0_1):=(blk_cell BK114.out 1).trans rfl;have hcz11_2:w10.cell? ⟨gb114,2,none⟩ = some (.string a0_2):=(blk_cell BK114.out 2).trans rfl;have hfz11_0:=blk_frozen BK114.out 0;have hfz11_1:=blk_frozen BK114.out 1;have hfz11_2:=blk_frozen BK114.out 2))
  (try simp only [Act.put,List.setIfInBounds_toArray,List.set_cons_zero,List.set_cons_succ])
  go_cut [15] (fun v15 wc => ∃ (kq:Nat) (x15_8:Bool),v15 = .bool x15_8 ∧ Aside0 (spec_l2Node.j0 kq x15_8 a0_0 a0_1 a0_2 = some r) ∧ Aside0 (kq ≤ k) ∧ Aside0 (wc.heap[gb114]? = some (.cells #[.int .i64 a0_0,.int .i64 a0_1,.string a0_2] 43 (0,0))) ∧ Aside0 (Below w.heap.size w wc))
  case first =>
   have H:=HC9.out
   clear HC9
   by_cases c12:a0_0 = 2
   ·rw [if_pos c12] at H
    have c12b0:(a0_0 == 2) = true:=beq_iff_eq.mpr c12
    have c12b1:(a0_0 != 2) = false:=bne_eq_false_iff_eq.mpr c12
    clear c12
    (first | rw [c12b0] | (simp only [i64_w,i32_w];rw [c12b0]) | rw [c12b9] | skip)
    have H':=Aside0.mk H
    clear H
    go_wp2
    go_meet
    case rel => exact ⟨_,((a0_0 == 2)),(by first | rfl | (simp;done) | (simp [*];done) | (simp;decide +kernel) | (simp [wrap64];done) | (simp [bne];done)),H',⟨by first | omega | exact Nat.le_refl _⟩,⟨by (with_reducible repeat (first | refine blk_drewN ?_ _ | refine blk_drew ?_ | refine blk_alloc ?_ _));exact BK114.out⟩,⟨by repeat (first | (with_reducible first | exact HB.out | apply below_alloc | apply pw_below_drewN | apply below_drew1 | refine below_set ?_ GE114.out) | exact HB.out)⟩⟩
   ·rw [if_neg c12] at H
    have c12b0:(a0_0 == 2) = false:=beq_eq_false_iff_ne.mpr c12
    have c12b1:(a0_0 != 2) = true:=bne_iff_ne.mpr c12
    (first | rw [c12b0] | (simp only [i64_w,i32_w];rw [c12b0]) | rw [c12b9] | skip)
    have H':=Aside0.mk H
    clear H
    go_wp2
    go_meet
    case rel => exact ⟨_,((a0_0 == 3)),(by first | rfl | (simp;done) | (simp [*];done) | (simp;decide +kernel) | (simp [wrap64];done) | (simp [bne];done)),H',⟨by first | omega | exact Nat.le_refl _⟩,⟨by (with_reducible repeat (first | refine blk_drewN ?_ _ | refine blk_drew ?_ | refine blk_alloc ?_ _));exact BK114.out⟩,⟨by repeat (first | (with_reducible first | exact HB.out | apply below_alloc | apply pw_below_drewN | apply below_drew1 | refine below_set ?_ GE114.out) | exact HB.out)⟩⟩
  case rest =>
   clear HC9
   try clear c1
   try clear c2
   try clear c2b0
   try clear c2b1
   try clear p2
   try clear c4
   try clear p6
   try clear c12
   try clear c12b0
   try clear c12b1
   try clear hcz11_0
   try clear hcz11_1
   try clear hcz11_2
   try clear hcz6_0
   try clear hcz6_1
   try clear hcz6_2
   try clear hcz8_0
   try clear hcz8_1
   try clear hcz8_2
   try clear hfz11_0
   try clear hfz11_1
   try clear hfz11_2
   try clear hfz6_0
   try clear hfz6_1
   try clear hfz6_2
   try clear hfz8_0
   try clear hfz8_1
   try clear hfz8_2
   obtain ⟨kq,x15_8,rfl,HA,HJ8,BK114,HB⟩:=hcut
   cases kq with
   | zero => exact absurd HA.out (by simp [spec_l2Node.j0])
   | succ kj8 =>
    have H:=HA.out
    clear HA
    simp only [spec_l2Node.j0] at H
    by_cases c13:x15_8 = true
    ·subst c13
     have H1:(if a0_1 = 0 then ((spec_NameOk.f kj8 a0_2).bind fun t116 => (some t116)) else (some false)) = some r:=by rw [if_pos rfl] at H;exact H
     clear H
     have H:=H1
     clear H1
     by_cases c14:a0_1 = 0
     ·rw [if_pos c14] at H
      have c14b0:(a0_1 == 0) = true:=beq_iff_eq.mpr c14
      have c14b1:(a0_1 != 0) = false:=bne_eq_false_iff_eq.mpr c14
      clear c14
      replace H:=Option.bind_eq_some_iff.mp H
      obtain ⟨t116,A150,H⟩:=H
      replace H:(some t116) = some r:=H
      have A15:=Aside0.mk A150
      clear A150
      obtain rfl:=Option.some.inj H
      have hcz16_0:wc.cell? ⟨gb114,0,none⟩ = some (.int .i64 a0_0):=(blk_cell BK114.out 0).trans rfl
      have hcz16_1:wc.cell? ⟨gb114,1,none⟩ = some (.int .i64 a0_1):=(blk_cell BK114.out 1).trans rfl
      have hcz16_2:wc.cell? ⟨gb114,2,none⟩ = some (.string a0_2):=(blk_cell BK114.out 2).trans rfl
      have hfz16_0:=blk_frozen BK114.out 0
      have hfz16_1:=blk_frozen BK114.out 1
      have hfz16_2:=blk_frozen BK114.out 2
      go_wp2_with (first | (go_at_call 41;(with_reducible refine (spec_NameOk.calls kj8 a0_2 t116 _ A15.out).mono ?_);rintro e w' ⟨rfl,⟨nd,rfl⟩⟩))
      go_ret
      exact ⟨by first | rfl | (simp [errW_none,errW_some] <;> rfl) | (simp [*,errW_none,errW_some] <;> rfl) | (exfalso;simp_all;done),by repeat (first | (with_reducible first | exact HB.out | apply below_alloc | apply pw_below_drewN | apply below_drew1 | refine below_set ?_ GE114.out) | exact HB.out)⟩
     ·rw [if_neg c14] at H
      have c14b0:(a0_1 == 0) = false:=beq_eq_false_iff_ne.mpr c14
      have c14b1:(a0_1 != 0) = true:=bne_iff_ne.mpr c14
      obtain rfl:=Option.some.inj H
      have hcz17_0:wc.cell? ⟨gb114,0,none⟩ = some (.int .i64 a0_0):=(blk_cell BK114.out 0).trans rfl
      have hcz17_1:wc.cell? ⟨gb114,1,none⟩ = some (.int .i64 a0_1):=(blk_cell BK114.out 1).trans rfl
      have hcz17_2:wc.cell? ⟨gb114,2,none⟩ = some (.string a0_2):=(blk_cell BK114.out 2).trans rfl
      have hfz17_0:=blk_frozen BK114.out 0
      have hfz17_1:=blk_frozen BK114.out 1
      have hfz17_2:=blk_frozen BK114.out 2
      go_wp2
      go_ret
      exact ⟨by first | rfl | (simp [errW_none,errW_some] <;> rfl) | (simp [*,errW_none,errW_some] <;> rfl) | (exfalso;simp_all;done),by repeat (first | (with_reducible first | exact HB.out | apply below_alloc | apply pw_below_drewN | apply below_drew1 | refine below_set ?_ GE114.out) | exact HB.out)⟩
    ·replace c13:=Bool.eq_false_iff.mpr c13
     subst c13
     have H1:(if a0_1 = 0 then (if a0_2.toList = ([]:List UInt8) then ((spec_l2Takes.f a0_0).bind fun t117 => (some (decide (t117 > 0)))) else (some false)) else (some false)) = some r:=by rw [if_neg (show ¬ (false = true) by decide)] at H;exact H
     clear H
     have H:=H1
     clear H1
     by_cases c18:a0_1 = 0
     ·rw [if_pos c18] at H
      have c18b0:(a0_1 == 0) = true:=beq_iff_eq.mpr c18
      have c18b1:(a0_1 != 0) = false:=bne_eq_false_iff_eq.mpr c18
      clear c18
      by_cases c19:a0_2.toList = ([]:List UInt8)
      ·rw [if_pos c19] at H
       have c19b0:(a0_2.toList == ([]:List UInt8)) = true:=beq_iff_eq.mpr c19
       have c19b1:(a0_2.toList != ([]:List UInt8)) = false:=bne_eq_false_iff_eq.mpr c19
       have c19b9:a0_2.toList.isEmpty = true:=(isEmpty_beq _).trans c19b0
       clear c19
       replace H:=Option.bind_eq_some_iff.mp H
       obtain ⟨t117,A200,H⟩:=H
       replace H:(some (decide (t117 > 0))) = some r:=H
       have A20:=Aside0.mk A200
       clear A200
       obtain rfl:=Option.some.inj H
       have hcz21_0:wc.cell? ⟨gb114,0,none⟩ = some (.int .i64 a0_0):=(blk_cell BK114.out 0).trans rfl
       have hcz21_1:wc.cell? ⟨gb114,1,none⟩ = some (.int .i64 a0_1):=(blk_cell BK114.out 1).trans rfl
       have hcz21_2:wc.cell? ⟨gb114,2,none⟩ = some (.string a0_2):=(blk_cell BK114.out 2).trans rfl
       have hfz21_0:=blk_frozen BK114.out 0
       have hfz21_1:=blk_frozen BK114.out 1
       have hfz21_2:=blk_frozen BK114.out 2
       go_wp2_with (first | (go_at_call 25;(with_reducible refine (spec_l2Takes.calls a0_0 t117 _ A20.out).mono ?_);rintro e w' ⟨rfl,⟨nd,rfl⟩⟩))
       go_ret
       exact ⟨by first | rfl | (simp [errW_none,errW_some] <;> rfl) | (simp [*,errW_none,errW_some] <;> rfl) | (exfalso;simp_all;done),by repeat (first | (with_reducible first | exact HB.out | apply below_alloc | apply pw_below_drewN | apply below_drew1 | refine below_set ?_ GE114.out) | exact HB.out)⟩
      ·rw [if_neg c19] at H
       have c19b0:(a0_2.toList == ([]:List UInt8)) = false:=beq_eq_false_iff_ne.mpr c19
       have c19b1:(a0_2.toList != ([]:List UInt8)) = true:=bne_iff_ne.mpr c19
       have c19b9:a0_2.toList.isEmpty = false:=(isEmpty_beq _).trans c19b0
       obtain rfl:=Option.some.inj H
       have hcz22_0:wc.cell? ⟨gb114,0,none⟩ = some (.int .i64 a0_0):=(blk_cell BK114.out 0).trans rfl
       have hcz22_1:wc.cell? ⟨gb114,1,none⟩ = some (.int .i64 a0_1):=(blk_cell BK114.out 1).trans rfl
       have hcz22_2:wc.cell? ⟨gb114,2,none⟩ = some (.string a0_2):=(blk_cell BK114.out 2).trans rfl
       have hfz22_0:=blk_frozen BK114.out 0
       have hfz22_1:=blk_frozen BK114.out 1
       have hfz22_2:=blk_frozen BK114.out 2
       go_wp2
       go_ret
       exact ⟨by first | rfl | (simp [errW_none,errW_some] <;> rfl) | (simp [*,errW_none,errW_some] <;> rfl) | (exfalso;simp_all;done),by repeat (first | (with_reducible first | exact HB.out | apply below_alloc | apply pw_below_drewN | apply below_drew1 | refine below_set ?_ GE114.out) | exact HB.out)⟩
     ·rw [if_neg c18] at H
      have c18b0:(a0_1 == 0) = false:=beq_eq_false_iff_ne.mpr c18
      have c18b1:(a0_1 != 0) = true:=bne_iff_ne.mpr c18
      obtain rfl:=Option.some.inj H
      have hcz23_0:wc.cell? ⟨gb114,0,none⟩ = some (.int .i64 a0_0):=(blk_cell BK114.out 0).trans rfl
      have hcz23_1:wc.cell? ⟨gb114,1,none⟩ = some (.int .i64 a0_1):=(blk_cell BK114.out 1).trans rfl
      have hcz23_2:wc.cell? ⟨gb114,2,none⟩ = some (.string a0_2):=(blk_cell BK114.out 2).trans rfl
      have hfz23_0:=blk_frozen BK114.out 0
      have hfz23_1:=blk_frozen BK114.out 1
      have hfz23_2:=blk_frozen BK114.out 2
      go_wp2
      go_ret
      exact ⟨by first | rfl | (simp [errW_none,errW_some] <;> rfl) | (simp [*,errW_none,errW_some] <;> rfl) | (exfalso;simp_all;done),by repeat (first | (with_reducible first | exact HB.out | apply below_alloc | apply pw_below_drewN | apply below_drew1 | refine below_set ?_ GE114.out) | exact HB.out)⟩
/-! ### spec_ExprOk: function 10 -/
def spec_ExprOk.l0:Nat → List (S43) → Int → Int → Option (Bool)
 | 0,_,_,_ => none
 | k + 1,x0,x3,x4 => if x4 < (x0.length:Int) then (if 0 ≤ x4 then ((spec_l2Node.f k ((rd_T43 x0 x4).f0) ((rd_T43 x0 x4).f1) ((rd_T43 x0 x4).f2)).bind fun t119 => (if t119 = true then ((spec_l2Takes.f ((rd_T43 x0 x4).f0)).bind fun t121 => (if t121 > x3 then (some false) else ((spec_l2Takes.f ((rd_T43 x0 x4).f0)).bind fun t123 => (spec_ExprOk.l0 k x0 (wrap64 ((wrap64 (x3 - t123)) + 1)) (wrap64 (x4 + 1)))))) else (some false))) else (none)) else (if (x0.length:Int) ≤ 30 then (some (x3 == 1)) else (some false))
def spec_ExprOk.f (k:Nat) (l0:List (S43)):Option (Bool):=spec_ExprOk.l0 k l0 0 0
theorem spec_ExprOk.mono_l:∀ k,(∀ y0 y1 y2,LeO (spec_ExprOk.l0 k y0 y1 y2) (spec_ExprOk.l0 (k + 1) y0 y1 y2))
 | 0 => fun _ _ _ r h => by simp [spec_ExprOk.l0] at h
 | k + 1 => by
  have ih0:=spec_ExprOk.mono_l k
  ·intro y0 y1 y2
   unfold spec_ExprOk.l0
   repeat' first
   | (with_reducible exact ih0 _ _ _)
   | (with_reducible exact spec_l2Node.mono _ _ _ _)
   | (with_reducible exact LeO.refl _)
   | (with_reducible exact LeO.none _)
   | (with_reducible refine LeO.ite ?_ ?_)
   | (with_reducible refine LeO.bind ?_ (fun _ => ?_))
   | exact ih0 _ _ _
   | exact spec_l2Node.mono _ _ _ _
   | exact LeO.none _
   | refine LeO.ite ?_ ?_
   | refine LeO.bind ?_ (fun _ => ?_)
theorem spec_ExprOk.mono:∀ a0 k,LeO (spec_ExprOk.f k a0) (spec_ExprOk.f (k + 1) a0):=by
 intro a0 k
 have ih0:=spec_ExprOk.mono_l k
 unfold spec_ExprOk.f
 repeat' first
   | (with_reducible exact ih0 _ _ _)
   | (with_reducible exact spec_l2Node.mono _ _ _ _)
   | (with_reducible exact LeO.refl _)
   | (with_reducible exact LeO.none _)
   | (with_reducible refine LeO.ite ?_ ?_)
   | (with_reducible refine LeO.bind ?_ (fun _ => ?_))
   | exact ih0 _ _ _
   | exact spec_l2Node.mono _ _ _ _
   | exact LeO.none _
   | refine LeO.ite ?_ ?_
   | refine LeO.bind ?_ (fun _ => ?_)
set_option maxHeartbeats 8000000 in
set_option maxRecDepth 100000 in
theorem spec_ExprOk.calls (k:Nat) (A0:Option Addr) (c0:Nat) (l0:List (S43)) (r:Bool) (w:World) (hr0:Kd.C k43 w A0 l0.length l0) (hc0:l0.length ≤ c0) (h:spec_ExprOk.f k l0 = some r) :
  Calls Tryz.prog 10 #[.slice A0 l0.length c0] w fun e w' => e = .returned (.bool r) ∧ Below w.heap.size w w':=by
 have hu43:=Tryz.underlying43
 have HR0:=Aside0.mk hr0
 have HC0:=Aside0.mk hc0
 clear hr0 hc0
 have HB:=Aside0.mk (Below.refl w.heap.size w)
 have H:(spec_ExprOk.l0 k l0 0 0) = some r:=h
 clear h
 have H':=Aside0.mk H
 clear H
 go_enter Tryz.func10,Tryz.ntmps10
 go_wp2
 go_loopg [3,4] k (fun kq v3 v4 w' => ∃ (x3_1:Int) (x4_1:Int),v3 = .int .i64 x3_1 ∧ v4 = .int .i64 x4_1 ∧ Aside0 (spec_ExprOk.l0 kq l0 x3_1 x4_1 = some r) ∧ Aside0 (kq ≤ k) ∧ Aside0 (Below w.heap.size w w'))
 case atStart => exact ⟨(0),(0),(by first | rfl | (simp;done) | (simp [*];done) | (simp;decide +kernel) | (simp [wrap64];done) | (simp [bne];done)),(by first | rfl | (simp;done) | (simp [*];done) | (simp;decide +kernel) | (simp [wrap64];done) | (simp [bne];done)),H',⟨Nat.le_refl _⟩,⟨by repeat (first | (with_reducible first | exact HB.out | apply below_alloc | apply pw_below_drewN | apply below_drew1) | exact HB.out)⟩⟩
 case round =>
  clear H'
  try clear c1
  obtain ⟨x3_1,x4_1,rfl,rfl,HA,HK1,HB⟩:=hrel
  cases gk with
  | zero => exact absurd HA.out (by simp [spec_ExprOk.l0])
  | succ k1 =>
   have H:=HA.out
   clear HA
   simp only [spec_ExprOk.l0] at H
   by_cases c2:x4_1 < (l0.length:Int)
   ·rw [if_pos c2] at H
    have c2b0:decide (x4_1 < (l0.length:Int)) = true:=decide_eq_true c2
    clear c2
    by_cases c3:0 ≤ x4_1
    ·rw [if_pos c3] at H
     have c3b0:decide (0 ≤ x4_1) = true:=decide_eq_true c3
     clear c3
     replace H:=Option.bind_eq_some_iff.mp H
     obtain ⟨t119,A40,H⟩:=H
     replace H:(if t119 = true then ((spec_l2Takes.f ((rd_T43 l0 x4_1).f0)).bind fun t121 => (if t121 > x3_1 then (some false) else ((spec_l2Takes.f ((rd_T43 l0 x4_1).f0)).bind fun t123 => (spec_ExprOk.l0 k1 l0 (wrap64 ((wrap64 (x3_1 - t123)) + 1)) (wrap64 (x4_1 + 1)))))) else (some false)) = some r:=H
     have A4:=Aside0.mk A40
     clear A40
     by_cases c5:t119 = true
     ·subst c5
      have H1:((spec_l2Takes.f ((rd_T43 l0 x4_1).f0)).bind fun t121 => (if t121 > x3_1 then (some false) else ((spec_l2Takes.f ((rd_T43 l0 x4_1).f0)).bind fun t123 => (spec_ExprOk.l0 k1 l0 (wrap64 ((wrap64 (x3_1 - t123)) + 1)) (wrap64 (x4_1 + 1)))))) = some r:=by rw [if_pos rfl] at H;exact H
      clear H
      have H:=H1
      clear H1
      replace H:=Option.bind_eq_some_iff.mp H
      obtain ⟨t121,A60,H⟩:=H
      replace H:(if t121 > x3_1 then (some false) else ((spec_l2Takes.f ((rd_T43 l0 x4_1).f0)).bind fun t123 => (spec_ExprOk.l0 k1 l0 (wrap64 ((wrap64 (x3_1 - t123)) + 1)) (wrap64 (x4_1 + 1))))) = some r:=H
      have A6:=Aside0.mk A60
      clear A60
      by_cases c7:t121 > x3_1
      ·rw [if_pos c7] at H
       have c7b0:decide (x3_1 < t121) = true:=decide_eq_true c7
       clear c7
       obtain rfl:=Option.some.inj H
       have p118:0 ≤ (x4_1:Int):=of_decide_eq_true (by first | (with_reducible assumption) | assumption)
       have q118:x4_1 < (l0.length:Int):=of_decide_eq_true (by first | (with_reducible assumption) | assumption)
       obtain ⟨ad118,e118,hx118_0,hx118_1,hx118_2⟩:=at_T43 HR0.out x4_1 p118 q118
       cases e118
       replace hx118_0:=(HB.out.cell (World.block_lt_of_cell? w _ hx118_0)).trans hx118_0
       replace hx118_1:=(HB.out.cell (World.block_lt_of_cell? w _ hx118_1)).trans hx118_1
       replace hx118_2:=(HB.out.cell (World.block_lt_of_cell? w _ hx118_2)).trans hx118_2
       replace p118:=eq_true p118
       replace q118:=eq_true q118
       go_wp2_with (first | ((with_reducible refine gate_callee (f:=24) rfl ?_);refine goesL_ (some 15) rfl rfl Tryz.func24 (by kernel_rfl) rfl #[.agg #[.int .i64 ((rd_T43 l0 x4_1).f0),.int .i64 ((rd_T43 l0 x4_1).f1),.string ((rd_T43 l0 x4_1).f2)]] rfl (by (try simp only [List.map_toArray,List.map_cons,List.map_nil]);first | done | rfl | (simp only [List.length_drop,List.length_take];rfl)) ?_;(with_reducible refine (spec_l2Node.calls k1 ((rd_T43 l0 x4_1).f0) ((rd_T43 l0 x4_1).f1) ((rd_T43 l0 x4_1).f2) true _ A4.out).mono ?_);rintro e w8 ⟨rfl,hb⟩;refine ⟨_,rfl,?_⟩;have n0_:=Aside0.mk (below_step (by repeat (first | (with_reducible first | exact HB.out | apply below_alloc | apply pw_below_drewN | apply below_drew1) | exact HB.out)) hb);clear HB;have HB:=n0_;clear n0_;(try clear hb);(try clear hb2);(try clear hk);(try clear hi);have p120:0 ≤ (x4_1:Int):=of_decide_eq_true (by first | (with_reducible assumption) | assumption);have q120:x4_1 < (l0.length:Int):=of_decide_eq_true (by first | (with_reducible assumption) | assumption);obtain ⟨ad120,e120,hx120_0,hx120_1,hx120_2⟩:=at_T43 HR0.out x4_1 p120 q120;obtain rfl:ad118 = ad120:=(by injection e120);replace hx120_0:=(HB.out.cell (World.block_lt_of_cell? w _ hx120_0)).trans hx120_0;replace hx120_1:=(HB.out.cell (World.block_lt_of_cell? w _ hx120_1)).trans hx120_1;replace hx120_2:=(HB.out.cell (World.block_lt_of_cell? w _ hx120_2)).trans hx120_2;replace p120:=eq_true p120;replace q120:=eq_true q120) | (go_at_call 25;(with_reducible refine (spec_l2Takes.calls ((rd_T43 l0 x4_1).f0) t121 _ A6.out).mono ?_);rintro e w' ⟨rfl,⟨nd,rfl⟩⟩))
       go_ret
       exact ⟨by first | rfl | (simp [errW_none,errW_some] <;> rfl) | (simp [*,errW_none,errW_some] <;> rfl) | (exfalso;simp_all;done),by repeat (first | (with_reducible first | exact HB.out | apply below_alloc | apply pw_below_drewN | apply below_drew1) | exact HB.out)⟩
      ·rw [if_neg c7] at H
       have c7b0:decide (x3_1 < t121) = false:=decide_eq_false c7
       clear c7
       replace H:=Option.bind_eq_some_iff.mp H
       obtain ⟨t123,A90,H⟩:=H
       replace H:(spec_ExprOk.l0 k1 l0 (wrap64 ((wrap64 (x3_1 - t123)) + 1)) (wrap64 (x4_1 + 1))) = some r:=H
       have A9:=Aside0.mk A90
       clear A90
       have H':=Aside0.mk H
       clear H
       have p118:0 ≤ (x4_1:Int):=of_decide_eq_true (by first | (with_reducible assumption) | assumption)
       have q118:x4_1 < (l0.length:Int):=of_decide_eq_true (by first | (with_reducible assumption) | assumption)
       obtain ⟨ad118,e118,hx118_0,hx118_1,hx118_2⟩:=at_T43 HR0.out x4_1 p118 q118
       cases e118
       replace hx118_0:=(HB.out.cell (World.block_lt_of_cell? w _ hx118_0)).trans hx118_0
       replace hx118_1:=(HB.out.cell (World.block_lt_of_cell? w _ hx118_1)).trans hx118_1
       replace hx118_2:=(HB.out.cell (World.block_lt_of_cell? w _ hx118_2)).trans hx118_2
       replace p118:=eq_true p118
       replace q118:=eq_true q118
       go_wp2_with (first | ((with_reducible refine gate_callee (f:=24) rfl ?_);refine goesL_ (some 15) rfl rfl Tryz.func24 (by kernel_rfl) rfl #[.agg #[.int .i64 ((rd_T43 l0 x4_1).f0),.int .i64 ((rd_T43 l0 x4_1).f1),.string ((rd_T43 l0 x4_1).f2)]] rfl (by (try simp only [List.map_toArray,List.map_cons,List.map_nil]);first | done | rfl | (simp only [List.length_drop,List.length_take];rfl)) ?_;(with_reducible refine (spec_l2Node.calls k1 ((rd_T43 l0 x4_1).f0) ((rd_T43 l0 x4_1).f1) ((rd_T43 l0 x4_1).f2) true _ A4.out).mono ?_);rintro e w10 ⟨rfl,hb⟩;refine ⟨_,rfl,?_⟩;have n0_:=Aside0.mk (below_step (by repeat (first | (with_reducible first | exact HB.out | apply below_alloc | apply pw_below_drewN | apply below_drew1) | exact HB.out)) hb);clear HB;have HB:=n0_;clear n0_;(try clear hb);(try clear hb2);(try clear hk);(try clear hi);have p120:0 ≤ (x4_1:Int):=of_decide_eq_true (by first | (with_reducible assumption) | assumption);have q120:x4_1 < (l0.length:Int):=of_decide_eq_true (by first | (with_reducible assumption) | assumption);obtain ⟨ad120,e120,hx120_0,hx120_1,hx120_2⟩:=at_T43 HR0.out x4_1 p120 q120;obtain rfl:ad118 = ad120:=(by injection e120);replace hx120_0:=(HB.out.cell (World.block_lt_of_cell? w _ hx120_0)).trans hx120_0;replace hx120_1:=(HB.out.cell (World.block_lt_of_cell? w _ hx120_1)).trans hx120_1;replace hx120_2:=(HB.out.cell (World.block_lt_of_cell? w _ hx120_2)).trans hx120_2;replace p120:=eq_true p120;replace q120:=eq_true q120) | (go_at_call 25;(with_reducible refine (spec_l2Takes.calls ((rd_T43 l0 x4_1).f0) t121 _ A6.out).mono ?_);rintro e w' ⟨rfl,⟨nd,rfl⟩⟩;have p122:0 ≤ (x4_1:Int):=of_decide_eq_true (by first | (with_reducible assumption) | assumption);have q122:x4_1 < (l0.length:Int):=of_decide_eq_true (by first | (with_reducible assumption) | assumption);obtain ⟨ad122,e122,hx122_0,hx122_1,hx122_2⟩:=at_T43 HR0.out x4_1 p122 q122;obtain rfl:ad118 = ad122:=(by injection e122);replace hx122_0:=(HB.out.cell (World.block_lt_of_cell? w _ hx122_0)).trans hx122_0;replace hx122_1:=(HB.out.cell (World.block_lt_of_cell? w _ hx122_1)).trans hx122_1;replace hx122_2:=(HB.out.cell (World.block_lt_of_cell? w _ hx122_2)).trans hx122_2;replace p122:=eq_true p122;replace q122:=eq_true q122) | ((with_reducible refine gate_callee (f:=25) rfl ?_);refine goesL_ (some 33) rfl rfl Tryz.func25 (by kernel_rfl) rfl #[.int .i64 ((rd_T43 l0 x4_1).f0)] rfl (by (try simp only [List.map_toArray,List.map_cons,List.map_nil]);first | done | rfl | (simp only [List.length_drop,List.length_take];rfl)) ?_;(with_reducible refine (spec_l2Takes.calls ((rd_T43 l0 x4_1).f0) t123 _ A9.out).mono ?_);rintro e w' ⟨rfl,⟨nd,rfl⟩⟩;refine ⟨_,rfl,?_⟩))
       go_roundg k1
       case measure => have:=HK1.out;omega
       case rel => exact ⟨(wrap64 ((wrap64 (x3_1 - t123)) + 1)),(wrap64 (x4_1 + 1)),(by first | rfl | (simp;done) | (simp [*];done) | (simp;decide +kernel) | (simp [wrap64];done) | (simp [bne];done)),(by first | rfl | (simp;done) | (simp [*];done) | (simp;decide +kernel) | (simp [wrap64];done) | (simp [bne];done)),H',⟨by have:=HK1.out;omega⟩,⟨by repeat (first | (with_reducible first | exact HB.out | apply below_alloc | apply pw_below_drewN | apply below_drew1) | exact HB.out)⟩⟩
     ·replace c5:=Bool.eq_false_iff.mpr c5
      subst c5
      have H1:(some false) = some r:=by rw [if_neg (show ¬ (false = true) by decide)] at H;exact H
      clear H
      have H:=H1
      clear H1
      obtain rfl:=Option.some.inj H
      have p118:0 ≤ (x4_1:Int):=of_decide_eq_true (by first | (with_reducible assumption) | assumption)
      have q118:x4_1 < (l0.length:Int):=of_decide_eq_true (by first | (with_reducible assumption) | assumption)
      obtain ⟨ad118,e118,hx118_0,hx118_1,hx118_2⟩:=at_T43 HR0.out x4_1 p118 q118
      cases e118
      replace hx118_0:=(HB.out.cell (World.block_lt_of_cell? w _ hx118_0)).trans hx118_0
      replace hx118_1:=(HB.out.cell (World.block_lt_of_cell? w _ hx118_1)).trans hx118_1
      replace hx118_2:=(HB.out.cell (World.block_lt_of_cell? w _ hx118_2)).trans hx118_2
      replace p118:=eq_true p118
      replace q118:=eq_true q118
      go_wp2_with (first | ((with_reducible refine gate_callee (f:=24) rfl ?_);refine goesL_ (some 15) rfl rfl Tryz.func24 (by kernel_rfl) rfl #[.agg #[.int .i64 ((rd_T43 l0 x4_1).f0),.int .i64 ((rd_T43 l0 x4_1).f1),.string ((rd_T43 l0 x4_1).f2)]] rfl (by (try simp only [List.map_toArray,List.map_cons,List.map_nil]);first | done | rfl | (simp only [List.length_drop,List.length_take];rfl)) ?_;(with_reducible refine (spec_l2Node.calls k1 ((rd_T43 l0 x4_1).f0) ((rd_T43 l0 x4_1).f1) ((rd_T43 l0 x4_1).f2) false _ A4.out).mono ?_);rintro e w11 ⟨rfl,hb⟩;refine ⟨_,rfl,?_⟩;have n0_:=Aside0.mk (below_step (by repeat (first | (with_reducible first | exact HB.out | apply below_alloc | apply pw_below_drewN | apply below_drew1) | exact HB.out)) hb);clear HB;have HB:=n0_;clear n0_;(try clear hb);(try clear hb2);(try clear hk);(try clear hi)))
      go_ret
      exact ⟨by first | rfl | (simp [errW_none,errW_some] <;> rfl) | (simp [*,errW_none,errW_some] <;> rfl) | (exfalso;simp_all;done),by repeat (first | (with_reducible first | exact HB.out | apply below_alloc | apply pw_below_drewN | apply below_drew1) | exact HB.out)⟩
    ·rw [if_neg c3] at H
     exact absurd H (by simp)
   ·rw [if_neg c2] at H
    have c2b0:decide (x4_1 < (l0.length:Int)) = false:=decide_eq_false c2
    clear c2
    by_cases c12:(l0.length:Int) ≤ 30
    ·rw [if_pos c12] at H
     have c12b0:decide ((l0.length:Int) ≤ 30) = true:=decide_eq_true c12
     have c12b1:decide (l0.length ≤ 30) = true:=decide_eq_true (by omega)
     clear c12
     obtain rfl:=Option.some.inj H
     go_wp2
     go_ret
     exact ⟨by first | rfl | (simp [errW_none,errW_some] <;> rfl) | (simp [*,errW_none,errW_some] <;> rfl) | (exfalso;simp_all;done),by repeat (first | (with_reducible first | exact HB.out | apply below_alloc | apply pw_below_drewN | apply below_drew1) | exact HB.out)⟩
    ·rw [if_neg c12] at H
     have c12b0:decide ((l0.length:Int) ≤ 30) = false:=decide_eq_false c12
     have c12b1:decide (l0.length ≤ 30) = false:=decide_eq_false (by omega)
     clear c12
     obtain rfl:=Option.some.inj H
     go_wp2
     go_ret
     exact ⟨by first | rfl | (simp [errW_none,errW_some] <;> rfl) | (simp [*,errW_none,errW_some] <;> rfl) | (exfalso;simp_all;done),by repeat (first | (with_reducible first | exact HB.out | apply below_alloc | apply pw_below_drewN | apply below_drew1) | exact HB.out)⟩
end Go.Proofs.YtabbdfchibjndaaGreatDoor.LibG
