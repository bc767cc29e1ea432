/- The machine's side of a law,written by a program of this session for this claim. -/
import Derived.Test.YtpghjbikjmnnoaaProg
import Derived.Below
import Derived.Deep.Draws
import Derived.Deep.AppendLies
import Derived.Maps.AppendAt
import Derived.OwnWalk
import Derived.Laws.BytesArg
import Derived.Laws.MakeOwn
import Derived.Laws.OwnMore
import Derived.Deep.OwnRows
import Derived.Tactics
import Derived.Lib.ConvBytes
import Derived.Laws.Slices
import Derived.WalkKit
import Derived.KernelRfl
import Derived.RowKit3
import Derived.Deep.LoopGhost
import Derived.Deep.QuietTactic
import Derived.BigQuiet
import Derived.WideLaws
import Derived.Deep.DeepCutAuto
import Derived.Deep.CutBlock
import Derived.Deep.RegionHeld3
import Derived.Laws.Rows
import Derived.Lib.AppendStr
import Derived.ArgAppend
import Derived.Laws.IdiomCopy
import Derived.OrdersHeld
import Derived.Laws.BitsLemmas
import Derived.RowKit
import Derived.Test.YtpghjbikjmnnoaaSFnEvalLibX
import Derived.Test.YtpghjbikjmnnoaaSFnEvalWAll
namespace Go.Proofs.Ytpghjbikjmnnoaa.LibG
open Go.RowKit Go.Proofs.Ytpghjbikjmnnoaa.LibX Go.Proofs.YtpghjbikjmnnoaaW.PrintWords Go.Proofs.YtpghjbikjmnnoaaW.PrintLast Go.Proofs.YtpghjbikjmnnoaaW.PrintMore
attribute [local go_sem] max2_int min2_int max_two min_two max_three min_three max_four min_four   -- for this text's walks alone
set_option linter.unusedVariables false
set_option linter.unusedSimpArgs false
def errW:Option Int → Value
 | none => .nilIface
 | some c => .iface 0 (.int .i64 c)
theorem errW_none:errW none = .nilIface:=rfl
theorem errW_some (c:Int):errW (some c) = .iface 0 (.int .i64 c):=rfl
theorem info2:(Try.prog.info? 2).map (fun i => (i.zero,i.size,i.bytes)) = some (some (.int .i64 0),1,8):=by kernel_rfl
theorem info9:(Try.prog.info? 9).map (fun i => (i.zero,i.size,i.bytes)) = some (some (.string ⟨#[]⟩),1,16):=by kernel_rfl
theorem info33:(Try.prog.info? 33).map (fun i => (i.zero,i.size,i.bytes)) = some (some (.agg #[(.string ⟨#[]⟩),(.int .i64 0),(.int .i64 0)]),3,32):=by kernel_rfl
-- the values' own types
/-! #### struct type 45 -/
structure S45 where
 f0:Int
 f1:Int
 f2:ByteArray
def z45:S45:=⟨(0:Int),(0:Int),(⟨#[]⟩:ByteArray)⟩
def k45:Kd S45:=Kd.iso (Kd.pair (Kd.int .i64) (Kd.pair (Kd.int .i64) Kd.string)) (fun x:S45 => (x.f0,x.f1,x.f2))
theorem k45_open {w:World} {x:S45} {cs:List Value} (h:k45.K w x cs):cs = [.int .i64 x.f0,.int .i64 x.f1,.string x.f2]:=by
 obtain ⟨_,_,rfl,rfl,⟨_,_,rfl,rfl,rfl⟩⟩:=h
 exact rfl
theorem k45_openM {w:World} {base:Nat} {ok:Nat → Prop} {x:S45} {cs:List Value} (h:k45.M w base ok x cs):cs = [.int .i64 x.f0,.int .i64 x.f1,.string x.f2]:=by
 obtain ⟨_,_,rfl,rfl,⟨_,_,rfl,rfl,rfl⟩⟩:=h
 exact rfl
theorem k45_mk (w:World) (x:S45) :k45.K w x [.int .i64 x.f0,.int .i64 x.f1,.string x.f2]:=⟨[.int .i64 x.f0],[.int .i64 x.f1,.string x.f2],rfl,rfl,⟨[.int .i64 x.f1],[.string x.f2],rfl,rfl,rfl⟩⟩
theorem k45_mkM (w:World) (base:Nat) (ok:Nat → Prop) (x:S45) :k45.M w base ok x [.int .i64 x.f0,.int .i64 x.f1,.string x.f2]:=⟨[.int .i64 x.f0],[.int .i64 x.f1,.string x.f2],rfl,rfl,⟨[.int .i64 x.f1],[.string x.f2],rfl,rfl,rfl⟩⟩
def rd_T45 (xs:List S45) (i:Int):S45:=xs.getD i.toNat z45
theorem at_T45 {w:World} {A:Option Addr} {n:Nat} {xs:List S45} (h:Kd.C k45 w A n xs) (i:Int) (h0:0 ≤ i) (h1:i < n):∃ ad ,A = some ad ∧ w.cell? (ad.add (i.toNat * 3)) = some (.int .i64 (rd_T45 xs i).f0) ∧ w.cell? ⟨(ad.add (i.toNat * 3)).block,(ad.add (i.toNat * 3)).off + 1,none⟩ = some (.int .i64 (rd_T45 xs i).f1) ∧ w.cell? ⟨(ad.add (i.toNat * 3)).block,(ad.add (i.toNat * 3)).off + 2,none⟩ = some (.string (rd_T45 xs i).f2):=by
 obtain ⟨ad,c,e,_,hK,hc0⟩:=Kd.C_get h z45 i h0 h1
 have hc:∀ j u,c[j]? = some u → w.cell? (ad.add (i.toNat * 3 + j)) = some u:=hc0
 obtain rfl:=k45_open hK
 exact ⟨ad,e,hc 0 _ rfl,by rw [← add_field _ _ 1 (by omega)];exact hc 1 _ rfl,by rw [← add_field _ _ 2 (by omega)];exact hc 2 _ rfl⟩
/-! #### struct type 33 -/
structure S33 where
 f0:ByteArray
 f1:Int
 f2:Int
def z33:S33:=⟨(⟨#[]⟩:ByteArray),(0:Int),(0:Int)⟩
def k33:Kd S33:=Kd.iso (Kd.pair Kd.string (Kd.pair (Kd.int .i64) (Kd.int .i64))) (fun x:S33 => (x.f0,x.f1,x.f2))
theorem k33_open {w:World} {x:S33} {cs:List Value} (h:k33.K w x cs):cs = [.string x.f0,.int .i64 x.f1,.int .i64 x.f2]:=by
 obtain ⟨_,_,rfl,rfl,⟨_,_,rfl,rfl,rfl⟩⟩:=h
 exact rfl
theorem k33_openM {w:World} {base:Nat} {ok:Nat → Prop} {x:S33} {cs:List Value} (h:k33.M w base ok x cs):cs = [.string x.f0,.int .i64 x.f1,.int .i64 x.f2]:=by
 obtain ⟨_,_,rfl,rfl,⟨_,_,rfl,rfl,rfl⟩⟩:=h
 exact rfl
theorem k33_mk (w:World) (x:S33) :k33.K w x [.string x.f0,.int .i64 x.f1,.int .i64 x.f2]:=⟨[.string x.f0],[.int .i64 x.f1,.int .i64 x.f2],rfl,rfl,⟨[.int .i64 x.f1],[.int .i64 x.f2],rfl,rfl,rfl⟩⟩
theorem k33_mkM (w:World) (base:Nat) (ok:Nat → Prop) (x:S33) :k33.M w base ok x [.string x.f0,.int .i64 x.f1,.int .i64 x.f2]:=⟨[.string x.f0],[.int .i64 x.f1,.int .i64 x.f2],rfl,rfl,⟨[.int .i64 x.f1],[.int .i64 x.f2],rfl,rfl,rfl⟩⟩
def rd_T33 (xs:List S33) (i:Int):S33:=xs.getD i.toNat z33
theorem at_T33 {w:World} {A:Option Addr} {n:Nat} {xs:List S33} (h:Kd.C k33 w A n xs) (i:Int) (h0:0 ≤ i) (h1:i < n):∃ ad ,A = some ad ∧ w.cell? (ad.add (i.toNat * 3)) = some (.string (rd_T33 xs i).f0) ∧ w.cell? ⟨(ad.add (i.toNat * 3)).block,(ad.add (i.toNat * 3)).off + 1,none⟩ = some (.int .i64 (rd_T33 xs i).f1) ∧ w.cell? ⟨(ad.add (i.toNat * 3)).block,(ad.add (i.toNat * 3)).off + 2,none⟩ = some (.int .i64 (rd_T33 xs i).f2):=by
 obtain ⟨ad,c,e,_,hK,hc0⟩:=Kd.C_get h z33 i h0 h1
 have hc:∀ j u,c[j]? = some u → w.cell? (ad.add (i.toNat * 3 + j)) = some u:=hc0
 obtain rfl:=k33_open hK
 exact ⟨ad,e,hc 0 _ rfl,by rw [← add_field _ _ 1 (by omega)];exact hc 1 _ rfl,by rw [← add_field _ _ 2 (by omega)];exact hc 2 _ rfl⟩
/-! ### spec_l1Letter: function 53 -/
def spec_l1Letter.f (a0:Int):Option (Bool):=if a0 ≥ 97 then (if a0 ≤ 122 then (some true) else (if a0 = 95 then (some true) else (some (a0 == 46)))) else (if a0 = 95 then (some true) else (some (a0 == 46)))
set_option maxHeartbeats 8000000 in
set_option maxRecDepth 100000 in
theorem spec_l1Letter.calls (a0:Int) (r:Bool) (w:World) (h:spec_l1Letter.f a0 = some r) :
  Calls Try.prog 53 #[.int .u8 a0] w fun e w' => e = .returned (.bool r) ∧ Drawn0 w w':=by
 have H:(if a0 ≥ 97 then (if a0 ≤ 122 then (some true) else (if a0 = 95 then (some true) else (some (a0 == 46)))) else (if a0 = 95 then (some true) else (some (a0 == 46)))) = some r:=h
 clear h
 by_cases c2:a0 ≥ 97
 ·rw [if_pos c2] at H
  have c2b0:decide (97 ≤ a0) = true:=decide_eq_true c2
  clear c2
  by_cases c3:a0 ≤ 122
  ·rw [if_pos c3] at H
   have c3b0:decide (a0 ≤ 122) = true:=decide_eq_true c3
   clear c3
   obtain rfl:=Option.some.inj H
   go_enter Try.func53,Try.ntmps53
   go_wp2
   go_ret
   exact ⟨by first | rfl | (simp;done) | (simp [*];done) | (simp;decide +kernel) | (simp [wrap64];done) | (simp [bne];done),by repeat (first | exact Drawn0.refl _ | apply Drawn0.step)⟩
  ·rw [if_neg c3] at H
   have c3b0:decide (a0 ≤ 122) = false:=decide_eq_false c3
   clear c3
   by_cases c4:a0 = 95
   ·rw [if_pos c4] at H
    have c4b0:(a0 == 95) = true:=beq_iff_eq.mpr c4
    have c4b1:(a0 != 95) = false:=bne_eq_false_iff_eq.mpr c4
    clear c4
    obtain rfl:=Option.some.inj H
    go_enter Try.func53,Try.ntmps53
    go_wp2
    go_ret
    exact ⟨by first | rfl | (simp;done) | (simp [*];done) | (simp;decide +kernel) | (simp [wrap64];done) | (simp [bne];done),by repeat (first | exact Drawn0.refl _ | apply Drawn0.step)⟩
   ·rw [if_neg c4] at H
    have c4b0:(a0 == 95) = false:=beq_eq_false_iff_ne.mpr c4
    have c4b1:(a0 != 95) = true:=bne_iff_ne.mpr c4
    obtain rfl:=Option.some.inj H
    go_enter Try.func53,Try.ntmps53
    go_wp2
    go_ret
    exact ⟨by first | rfl | (simp;done) | (simp [*];done) | (simp;decide +kernel) | (simp [wrap64];done) | (simp [bne];done),by repeat (first | exact Drawn0.refl _ | apply Drawn0.step)⟩
 ·rw [if_neg c2] at H
  have c2b0:decide (97 ≤ a0) = false:=decide_eq_false c2
  clear c2
  by_cases c5:a0 = 95
  ·rw [if_pos c5] at H
   have c5b0:(a0 == 95) = true:=beq_iff_eq.mpr c5
   have c5b1:(a0 != 95) = false:=bne_eq_false_iff_eq.mpr c5
   clear c5
   obtain rfl:=Option.some.inj H
   go_enter Try.func53,Try.ntmps53
   go_wp2
   go_ret
   exact ⟨by first | rfl | (simp;done) | (simp [*];done) | (simp;decide +kernel) | (simp [wrap64];done) | (simp [bne];done),by repeat (first | exact Drawn0.refl _ | apply Drawn0.step)⟩
  ·rw [if_neg c5] at H
   have c5b0:(a0 == 95) = false:=beq_eq_false_iff_ne.mpr c5
   have c5b1:(a0 != 95) = true:=bne_iff_ne.mpr c5
   obtain rfl:=Option.some.inj H
   go_enter Try.func53,Try.ntmps53
   go_wp2
   go_ret
   exact ⟨by first | rfl | (simp;done) | (simp [*];done) | (simp;decide +kernel) | (simp [wrap64];done) | (simp [bne];done),by repeat (first | exact Drawn0.refl _ | apply Drawn0.step)⟩
/-! ### spec_NameOk: function 42 -/
mutual
def spec_NameOk.j0:Nat → ByteArray → Bool → Option (Bool)
 | 0,_,_ => none
 | k + 1,x0,x17 => if x17 = true then (some false) else (spec_NameOk.l0 k x0 0)
def spec_NameOk.l0:Nat → ByteArray → Int → Option (Bool)
 | 0,_,_ => none
 | k + 1,x0,x3 => if x3 < (x0.size:Int) then (if 0 ≤ x3 then ((spec_l1Letter.f (bt x0 x3)).bind fun t106 => (if t106 = true then (spec_NameOk.j2 k x0 x3 false) else (if (bt x0 x3) ≥ 48 then (spec_NameOk.j2 k x0 x3 (!(decide ((bt x0 x3) ≤ 57)))) else (spec_NameOk.j2 k x0 x3 (!false))))) else (none)) else (some true)
def spec_NameOk.j2:Nat → ByteArray → Int → Bool → Option (Bool)
 | 0,_,_,_ => none
 | k + 1,x0,x3,x41 => if x41 = true then (some false) else (spec_NameOk.l0 k x0 (wrap64 (x3 + 1)))
end
def spec_NameOk.f (k:Nat) (a0:ByteArray):Option (Bool):=if (a0.size:Int) < 1 then (spec_NameOk.j0 k a0 true) else (if (a0.size:Int) > 16 then (spec_NameOk.j0 k a0 true) else (if 0 < (a0.size:Int) then ((spec_l1Letter.f (bt a0 0)).bind fun t105 => (spec_NameOk.j0 k a0 (!t105))) else (none)))
theorem spec_NameOk.mono_l:∀ k,(∀ y0 y1,LeO (spec_NameOk.j0 k y0 y1) (spec_NameOk.j0 (k + 1) y0 y1)) ∧ (∀ y0 y1,LeO (spec_NameOk.l0 k y0 y1) (spec_NameOk.l0 (k + 1) y0 y1)) ∧ (∀ y0 y1 y2,LeO (spec_NameOk.j2 k y0 y1 y2) (spec_NameOk.j2 (k + 1) y0 y1 y2))
 | 0 => ⟨fun _ _ r h => by simp [spec_NameOk.j0] at h,fun _ _ r h => by simp [spec_NameOk.l0] at h,fun _ _ _ r h => by simp [spec_NameOk.j2] at h⟩
 | k + 1 => by
  obtain ⟨ih0,ih1,ih2⟩:=spec_NameOk.mono_l k
  refine ⟨?_,?_,?_⟩
  ·intro y0 y1
   unfold spec_NameOk.j0
   repeat' first
   | (with_reducible exact ih0 _ _)
   | (with_reducible exact ih1 _ _)
   | (with_reducible exact ih2 _ _ _)
   | (with_reducible exact LeO.refl _)
   | (with_reducible exact LeO.none _)
   | (with_reducible refine LeO.ite ?_ ?_)
   | (with_reducible refine LeO.bind ?_ (fun _ => ?_))
   | exact ih0 _ _
   | exact ih1 _ _
   | exact ih2 _ _ _
   | exact LeO.none _
   | refine LeO.ite ?_ ?_
   | refine LeO.bind ?_ (fun _ => ?_)
  ·intro y0 y1
   unfold spec_NameOk.l0
   repeat' first
   | (with_reducible exact ih0 _ _)
   | (with_reducible exact ih1 _ _)
   | (with_reducible exact ih2 _ _ _)
   | (with_reducible exact LeO.refl _)
   | (with_reducible exact LeO.none _)
   | (with_reducible refine LeO.ite ?_ ?_)
   | (with_reducible refine LeO.bind ?_ (fun _ => ?_))
   | exact ih0 _ _
   | exact ih1 _ _
   | exact ih2 _ _ _
   | exact LeO.none _
   | refine LeO.ite ?_ ?_
   | refine LeO.bind ?_ (fun _ => ?_)
  ·intro y0 y1 y2
   unfold spec_NameOk.j2
   repeat' first
   | (with_reducible exact ih0 _ _)
   | (with_reducible exact ih1 _ _)
   | (with_reducible exact ih2 _ _ _)
   | (with_reducible exact LeO.refl _)
   | (with_reducible exact LeO.none _)
   | (with_reducible refine LeO.ite ?_ ?_)
   | (with_reducible refine LeO.bind ?_ (fun _ => ?_))
   | exact ih0 _ _
   | exact ih1 _ _
   | exact ih2 _ _ _
   | exact LeO.none _
   | refine LeO.ite ?_ ?_
   | refine LeO.bind ?_ (fun _ => ?_)
theorem spec_NameOk.mono:∀ a0 k,LeO (spec_NameOk.f k a0) (spec_NameOk.f (k + 1) a0):=by
 intro a0 k
 obtain ⟨ih0,ih1,ih2⟩:=spec_NameOk.mono_l k
 unfold spec_NameOk.f
 repeat' first
   | (with_reducible exact ih0 _ _)
   | (with_reducible exact ih1 _ _)
   | (with_reducible exact ih2 _ _ _)
   | (with_reducible exact LeO.refl _)
   | (with_reducible exact LeO.none _)
   | (with_reducible refine LeO.ite ?_ ?_)
   | (with_reducible refine LeO.bind ?_ (fun _ => ?_))
   | exact ih0 _ _
   | exact ih1 _ _
   | exact ih2 _ _ _
   | exact LeO.none _
   | refine LeO.ite ?_ ?_
   | refine LeO.bind ?_ (fun _ => ?_)
set_option maxHeartbeats 8000000 in
set_option maxRecDepth 100000 in
theorem spec_NameOk.calls (k:Nat) (a0:ByteArray) (r:Bool) (w:World) (h:spec_NameOk.f k a0 = some r) :
  Calls Try.prog 42 #[.string a0] w fun e w' => e = .returned (.bool r) ∧ Drawn0 w w':=by
 have H:(if (a0.size:Int) < 1 then (spec_NameOk.j0 k a0 true) else (if (a0.size:Int) > 16 then (spec_NameOk.j0 k a0 true) else (if 0 < (a0.size:Int) then ((spec_l1Letter.f (bt a0 0)).bind fun t105 => (spec_NameOk.j0 k a0 (!t105))) else (none)))) = some r:=h
 clear h
 have HC2:=Aside0.mk H
 clear H
 go_enter Try.func42,Try.ntmps42
 go_upto_region 1 with (fail)
 go_cut [17] (fun v17 wc => ∃ (kq:Nat) (x17_1:Bool),v17 = .bool x17_1 ∧ Aside0 (spec_NameOk.j0 kq a0 x17_1 = some r) ∧ Aside0 (kq ≤ k) ∧ Drawn0 w wc)
 case first =>
  have H:=HC2.out
  clear HC2
  by_cases c3:(a0.size:Int) < 1
  ·rw [if_pos c3] at H
   have c3b0:decide ((a0.size:Int) < 1) = true:=decide_eq_true c3
   have c3b1:decide (a0.size < 1) = true:=decide_eq_true (by omega)
   clear c3
   (first | rw [c3b0] | (simp only [i64_w,i32_w];rw [c3b0]) | rw [c3b9] | skip)
   have H':=Aside0.mk H
   clear H
   go_wp2
   go_meet
   case rel => exact ⟨_,(true),(by first | rfl | (simp;done) | (simp [*];done) | (simp;decide +kernel) | (simp [wrap64];done) | (simp [bne];done)),H',⟨by first | omega | exact Nat.le_refl _⟩,by repeat (first | exact Drawn0.refl _ | apply Drawn0.step)⟩
  ·rw [if_neg c3] at H
   have c3b0:decide ((a0.size:Int) < 1) = false:=decide_eq_false c3
   have c3b1:decide (a0.size < 1) = false:=decide_eq_false (by omega)
   clear c3
   (first | rw [c3b0] | (simp only [i64_w,i32_w];rw [c3b0]) | rw [c3b9] | skip)
   by_cases c4:(a0.size:Int) > 16
   ·rw [if_pos c4] at H
    have c4b0:decide (16 < (a0.size:Int)) = true:=decide_eq_true c4
    have c4b1:decide (16 < a0.size) = true:=decide_eq_true (by omega)
    clear c4
    have H':=Aside0.mk H
    clear H
    go_wp2
    go_meet
    case rel => exact ⟨_,(true),(by first | rfl | (simp;done) | (simp [*];done) | (simp;decide +kernel) | (simp [wrap64];done) | (simp [bne];done)),H',⟨by first | omega | exact Nat.le_refl _⟩,by repeat (first | exact Drawn0.refl _ | apply Drawn0.step)⟩
   ·rw [if_neg c4] at H
    have c4b0:decide (16 < (a0.size:Int)) = false:=decide_eq_false c4
    have c4b1:decide (16 < a0.size) = false:=decide_eq_false (by omega)
    clear c4
    by_cases c5:0 < (a0.size:Int)
    ·rw [if_pos c5] at H
     have c5b0:decide (0 < (a0.size:Int)) = true:=decide_eq_true c5
     have c5b1:decide (0 < a0.size) = true:=decide_eq_true (by omega)
     clear c5
     replace H:=Option.bind_eq_some_iff.mp H
     obtain ⟨t105,A70,H⟩:=H
     replace H:(spec_NameOk.j0 k a0 (!t105)) = some r:=H
     have A7:=Aside0.mk A70
     clear A70
     have H':=Aside0.mk H
     clear H
     have p6:0 ≤ (0:Int):=(by omega)
     have q6:0 < a0.size:=(by have:(0:Int) < (a0.size:Int):=of_decide_eq_true (by first | (with_reducible assumption) | assumption);omega)
     have hx6:∀ h:0 < a0.size,((a0[0]'h).toNat:Int) = bt a0 0:=bt_at a0 0
     clear p6
     have qi6:(0 < (a0.size:Int)) = True:=eq_true (of_decide_eq_true (by first | (with_reducible assumption) | assumption))
     replace q6:=eq_true q6
     go_wp2_with (first | (go_at_call 53;(with_reducible refine (spec_l1Letter.calls (bt a0 0) t105 _ A7.out).mono ?_);rintro e w' ⟨rfl,⟨nd,rfl⟩⟩))
     go_meet
     case rel => exact ⟨_,(!t105),(by first | rfl | (simp;done) | (simp [*];done) | (simp;decide +kernel) | (simp [wrap64];done) | (simp [bne];done)),H',⟨by first | omega | exact Nat.le_refl _⟩,by repeat (first | exact Drawn0.refl _ | apply Drawn0.step)⟩
    ·rw [if_neg c5] at H
     exact absurd H (by simp)
 case rest =>
  clear HC2
  try clear p2
  try clear c3
  try clear c3b0
  try clear c3b1
  try clear c4
  try clear c4b0
  try clear c4b1
  try clear c5
  try clear c5b0
  try clear c5b1
  try clear p6
  try clear q6
  try clear hx6
  try clear qi6
  try clear p6
  try clear q6
  obtain ⟨kq,x17_1,rfl,HA,HJ1,⟨mc1,rfl⟩⟩:=hcut
  cases kq with
  | zero => exact absurd HA.out (by simp [spec_NameOk.j0])
  | succ kj1 =>
   have H:=HA.out
   clear HA
   simp only [spec_NameOk.j0] at H
   by_cases c8:x17_1 = true
   ·subst c8
    have H1:(some false) = some r:=by rw [if_pos rfl] at H;exact H
    clear H
    have H:=H1
    clear H1
    obtain rfl:=Option.some.inj H
    go_wp2
    go_ret
    exact ⟨by first | rfl | (simp;done) | (simp [*];done) | (simp;decide +kernel) | (simp [wrap64];done) | (simp [bne];done),by repeat (first | exact Drawn0.refl _ | apply Drawn0.step)⟩
   ·replace c8:=Bool.eq_false_iff.mpr c8
    subst c8
    have H1:(spec_NameOk.l0 kj1 a0 0) = some r:=by rw [if_neg (show ¬ (false = true) by decide)] at H;exact H
    clear H
    have H:=H1
    clear H1
    have H':=Aside0.mk H
    clear H
    go_wp2
    go_loopg [3] kj1 (fun kq v3 w' => ∃ (x3_2:Int),v3 = .int .i64 x3_2 ∧ Aside0 (spec_NameOk.l0 kq a0 x3_2 = some r) ∧ Aside0 (kq ≤ kj1) ∧ Drawn0 w w')
    case atStart => exact ⟨(0),(by first | rfl | (simp;done) | (simp [*];done) | (simp;decide +kernel) | (simp [wrap64];done) | (simp [bne];done)),H',⟨Nat.le_refl _⟩,by repeat (first | exact Drawn0.refl _ | apply Drawn0.step)⟩
    case round =>
     clear H'
     try clear c1
     try clear p2
     try clear c3
     try clear c3b0
     try clear c3b1
     try clear c4
     try clear c4b0
     try clear c4b1
     try clear c5
     try clear c5b0
     try clear c5b1
     try clear p6
     try clear q6
     try clear hx6
     try clear qi6
     try clear c8
     try clear p2
     try clear p6
     try clear q6
     obtain ⟨x3_2,rfl,HA,HK2,⟨m2,rfl⟩⟩:=hrel
     cases gk with
     | zero => exact absurd HA.out (by simp [spec_NameOk.l0])
     | succ k2 =>
      have H:=HA.out
      clear HA
      simp only [spec_NameOk.l0] at H
      by_cases c9:x3_2 < (a0.size:Int)
      ·rw [if_pos c9] at H
       have c9b0:decide (x3_2 < (a0.size:Int)) = true:=decide_eq_true c9
       clear c9
       have HC10:=Aside0.mk H
       clear H
       go_upto_region 6 with (fail)
       go_cut [41] (fun v41 wc => ∃ (kq:Nat) (x41_9:Bool),v41 = .bool x41_9 ∧ Aside0 (spec_NameOk.j2 kq a0 x3_2 x41_9 = some r) ∧ Aside0 (kq ≤ k2) ∧ Drawn0 w wc)
       case first =>
        have H:=HC10.out
        clear HC10
        by_cases c11:0 ≤ x3_2
        ·rw [if_pos c11] at H
         have c11b0:decide (0 ≤ x3_2) = true:=decide_eq_true c11
         clear c11
         (first | rw [c11b0] | (simp only [i64_w,i32_w];rw [c11b0]) | rw [c11b9] | skip)
         replace H:=Option.bind_eq_some_iff.mp H
         obtain ⟨t106,A130,H⟩:=H
         replace H:(if t106 = true then (spec_NameOk.j2 k2 a0 x3_2 false) else (if (bt a0 x3_2) ≥ 48 then (spec_NameOk.j2 k2 a0 x3_2 (!(decide ((bt a0 x3_2) ≤ 57)))) else (spec_NameOk.j2 k2 a0 x3_2 (!false)))) = some r:=H
         have A13:=Aside0.mk A130
         clear A130
         by_cases c14:t106 = true
         ·subst c14
          have H1:(spec_NameOk.j2 k2 a0 x3_2 false) = some r:=by rw [if_pos rfl] at H;exact H
          clear H
          have H:=H1
          clear H1
          have H':=Aside0.mk H
          clear H
          have p12:0 ≤ (x3_2:Int):=of_decide_eq_true (by first | (with_reducible assumption) | assumption)
          have q12:x3_2 < (a0.size:Int):=of_decide_eq_true (by first | (with_reducible assumption) | assumption)
          have hx12:=bt_at a0 x3_2
          replace p12:=eq_true p12
          replace q12:=eq_true q12
          go_wp2_with (first | ((with_reducible refine gate_callee (f:=53) rfl ?_);refine goesL_ (some 27) rfl rfl Try.func53 (by kernel_rfl) rfl #[.int .u8 (bt a0 x3_2)] rfl (by (try simp only [List.map_toArray,List.map_cons,List.map_nil]);first | done | rfl | (simp only [List.length_drop,List.length_take];rfl)) ?_;(with_reducible refine (spec_l1Letter.calls (bt a0 x3_2) true _ A13.out).mono ?_);rintro e w' ⟨rfl,⟨nd,rfl⟩⟩;refine ⟨_,rfl,?_⟩))
          go_meet
          case rel => exact ⟨_,(false),(by first | rfl | (simp;done) | (simp [*];done) | (simp;decide +kernel) | (simp [wrap64];done) | (simp [bne];done)),H',⟨by have:=HJ1.out;have:=HK2.out;first | omega | exact Nat.le_refl _⟩,by repeat (first | exact Drawn0.refl _ | apply Drawn0.step)⟩
         ·replace c14:=Bool.eq_false_iff.mpr c14
          subst c14
          have H1:(if (bt a0 x3_2) ≥ 48 then (spec_NameOk.j2 k2 a0 x3_2 (!(decide ((bt a0 x3_2) ≤ 57)))) else (spec_NameOk.j2 k2 a0 x3_2 (!false))) = some r:=by rw [if_neg (show ¬ (false = true) by decide)] at H;exact H
          clear H
          have H:=H1
          clear H1
          by_cases c16:(bt a0 x3_2) ≥ 48
          ·rw [if_pos c16] at H
           have c16b0:decide (48 ≤ (bt a0 x3_2)) = true:=decide_eq_true c16
           clear c16
           have H':=Aside0.mk H
           clear H
           have p12:0 ≤ (x3_2:Int):=of_decide_eq_true (by first | (with_reducible assumption) | assumption)
           have q12:x3_2 < (a0.size:Int):=of_decide_eq_true (by first | (with_reducible assumption) | assumption)
           have hx12:=bt_at a0 x3_2
           replace p12:=eq_true p12
           replace q12:=eq_true q12
           go_wp2_with (first | ((with_reducible refine gate_callee (f:=53) rfl ?_);refine goesL_ (some 27) rfl rfl Try.func53 (by kernel_rfl) rfl #[.int .u8 (bt a0 x3_2)] rfl (by (try simp only [List.map_toArray,List.map_cons,List.map_nil]);first | done | rfl | (simp only [List.length_drop,List.length_take];rfl)) ?_;(with_reducible refine (spec_l1Letter.calls (bt a0 x3_2) false _ A13.out).mono ?_);rintro e w' ⟨rfl,⟨nd,rfl⟩⟩;refine ⟨_,rfl,?_⟩;have p15:0 ≤ (x3_2:Int):=of_decide_eq_true (by first | (with_reducible assumption) | assumption);have q15:x3_2 < (a0.size:Int):=of_decide_eq_true (by first | (with_reducible assumption) | assumption);have hx15:=bt_at a0 x3_2;replace p15:=eq_true p15;replace q15:=eq_true q15;have p17:0 ≤ (x3_2:Int):=of_decide_eq_true (by first | (with_reducible assumption) | assumption);have q17:x3_2 < (a0.size:Int):=of_decide_eq_true (by first | (with_reducible assumption) | assumption);have hx17:=bt_at a0 x3_2;replace p17:=eq_true p17;replace q17:=eq_true q17))
           go_meet
           case rel => exact ⟨_,(!(decide ((bt a0 x3_2) ≤ 57))),(by first | rfl | (simp;done) | (simp [*];done) | (simp;decide +kernel) | (simp [wrap64];done) | (simp [bne];done)),H',⟨by have:=HJ1.out;have:=HK2.out;first | omega | exact Nat.le_refl _⟩,by repeat (first | exact Drawn0.refl _ | apply Drawn0.step)⟩
          ·rw [if_neg c16] at H
           have c16b0:decide (48 ≤ (bt a0 x3_2)) = false:=decide_eq_false c16
           clear c16
           have H':=Aside0.mk H
           clear H
           have p12:0 ≤ (x3_2:Int):=of_decide_eq_true (by first | (with_reducible assumption) | assumption)
           have q12:x3_2 < (a0.size:Int):=of_decide_eq_true (by first | (with_reducible assumption) | assumption)
           have hx12:=bt_at a0 x3_2
           replace p12:=eq_true p12
           replace q12:=eq_true q12
           go_wp2_with (first | ((with_reducible refine gate_callee (f:=53) rfl ?_);refine goesL_ (some 27) rfl rfl Try.func53 (by kernel_rfl) rfl #[.int .u8 (bt a0 x3_2)] rfl (by (try simp only [List.map_toArray,List.map_cons,List.map_nil]);first | done | rfl | (simp only [List.length_drop,List.length_take];rfl)) ?_;(with_reducible refine (spec_l1Letter.calls (bt a0 x3_2) false _ A13.out).mono ?_);rintro e w' ⟨rfl,⟨nd,rfl⟩⟩;refine ⟨_,rfl,?_⟩;have p15:0 ≤ (x3_2:Int):=of_decide_eq_true (by first | (with_reducible assumption) | assumption);have q15:x3_2 < (a0.size:Int):=of_decide_eq_true (by first | (with_reducible assumption) | assumption);have hx15:=bt_at a0 x3_2;replace p15:=eq_true p15;replace q15:=eq_true q15))
           go_meet
           case rel => exact ⟨_,(!false),(by first | rfl | (simp;done) | (simp [*];done) | (simp;decide +kernel) | (simp [wrap64];done) | (simp [bne];done)),H',⟨by have:=HJ1.out;have:=HK2.out;first | omega | exact Nat.le_refl _⟩,by repeat (first | exact Drawn0.refl _ | apply Drawn0.step)⟩
        ·rw [if_neg c11] at H
         exact absurd H (by simp)
       case rest =>
        clear HC10
        try clear c1
        try clear p1
        try clear q1
        try clear hx1
        try clear p2
        try clear c3
        try clear c3b0
        try clear c3b1
        try clear c4
        try clear c4b0
        try clear c4b1
        try clear c5
        try clear c5b0
        try clear c5b1
        try clear p6
        try clear q6
        try clear hx6
        try clear qi6
        try clear c8
        try clear c9
        try clear c9b0
        try clear c11
        try clear c11b0
        try clear p12
        try clear q12
        try clear hx12
        try clear c14
        try clear p15
        try clear q15
        try clear hx15
        try clear c16
        try clear c16b0
        try clear p17
        try clear q17
        try clear hx17
        try clear p12
        try clear p15
        try clear p17
        try clear p2
        try clear p6
        try clear q12
        try clear q15
        try clear q17
        try clear q6
        obtain ⟨kq,x41_9,rfl,HA,HJ9,⟨mc9,rfl⟩⟩:=hcut
        cases kq with
        | zero => exact absurd HA.out (by simp [spec_NameOk.j2])
        | succ kj9 =>
         have H:=HA.out
         clear HA
         simp only [spec_NameOk.j2] at H
         by_cases c18:x41_9 = true
         ·subst c18
          have H1:(some false) = some r:=by rw [if_pos rfl] at H;exact H
          clear H
          have H:=H1
          clear H1
          obtain rfl:=Option.some.inj H
          go_wp2
          go_ret
          exact ⟨by first | rfl | (simp;done) | (simp [*];done) | (simp;decide +kernel) | (simp [wrap64];done) | (simp [bne];done),by repeat (first | exact Drawn0.refl _ | apply Drawn0.step)⟩
         ·replace c18:=Bool.eq_false_iff.mpr c18
          subst c18
          have H1:(spec_NameOk.l0 kj9 a0 (wrap64 (x3_2 + 1))) = some r:=by rw [if_neg (show ¬ (false = true) by decide)] at H;exact H
          clear H
          have H:=H1
          clear H1
          have H':=Aside0.mk H
          clear H
          go_wp2
          go_roundg kj9
          case measure => have:=HJ1.out;have:=HK2.out;have:=HJ9.out;omega
          case rel => exact ⟨(wrap64 (x3_2 + 1)),(by first | rfl | (simp;done) | (simp [*];done) | (simp;decide +kernel) | (simp [wrap64];done) | (simp [bne];done)),H',⟨by have:=HJ1.out;have:=HK2.out;have:=HJ9.out;omega⟩,by repeat (first | exact Drawn0.refl _ | apply Drawn0.step)⟩
      ·rw [if_neg c9] at H
       have c9b0:decide (x3_2 < (a0.size:Int)) = false:=decide_eq_false c9
       clear c9
       obtain rfl:=Option.some.inj H
       go_wp2
       go_ret
       exact ⟨by first | rfl | (simp;done) | (simp [*];done) | (simp;decide +kernel) | (simp [wrap64];done) | (simp [bne];done),by repeat (first | exact Drawn0.refl _ | apply Drawn0.step)⟩
/-! ### spec_l1Digit: function 76 -/
def spec_l1Digit.j0:Nat → Int → Bool → Option (Int)
 | 0,_,_ => none
 | k + 1,x0,x3 => if x3 = true then (some ((x0 - 48) % 256)) else (if x0 ≥ 65 then (if x0 ≤ 70 then (some (((x0 - 65) % 256) + 10)) else (some 99)) else (some 99))
def spec_l1Digit.f (k:Nat) (a0:Int):Option (Int):=if a0 ≥ 48 then (spec_l1Digit.j0 k a0 (decide (a0 ≤ 57))) else (spec_l1Digit.j0 k a0 false)
theorem spec_l1Digit.mono_l:∀ k,(∀ y0 y1,LeO (spec_l1Digit.j0 k y0 y1) (spec_l1Digit.j0 (k + 1) y0 y1))
 | 0 => fun _ _ r h => by simp [spec_l1Digit.j0] at h
 | k + 1 => by
  have ih0:=spec_l1Digit.mono_l k
  ·intro y0 y1
   unfold spec_l1Digit.j0
   repeat' first
   | (with_reducible exact ih0 _ _)
   | (with_reducible exact LeO.refl _)
   | (with_reducible exact LeO.none _)
   | (with_reducible refine LeO.ite ?_ ?_)
   | (with_reducible refine LeO.bind ?_ (fun _ => ?_))
   | exact ih0 _ _
   | exact LeO.none _
   | refine LeO.ite ?_ ?_
   | refine LeO.bind ?_ (fun _ => ?_)
theorem spec_l1Digit.mono:∀ a0 k,LeO (spec_l1Digit.f k a0) (spec_l1Digit.f (k + 1) a0):=by
 intro a0 k
 have ih0:=spec_l1Digit.mono_l k
 unfold spec_l1Digit.f
 repeat' first
   | (with_reducible exact ih0 _ _)
   | (with_reducible exact LeO.refl _)
   | (with_reducible exact LeO.none _)
   | (with_reducible refine LeO.ite ?_ ?_)
   | (with_reducible refine LeO.bind ?_ (fun _ => ?_))
   | exact ih0 _ _
   | exact LeO.none _
   | refine LeO.ite ?_ ?_
   | refine LeO.bind ?_ (fun _ => ?_)
set_option maxHeartbeats 8000000 in
set_option maxRecDepth 100000 in
theorem spec_l1Digit.calls (k:Nat) (a0:Int) (r:Int) (w:World) (h:spec_l1Digit.f k a0 = some r) :
  Calls Try.prog 76 #[.int .u8 a0] w fun e w' => e = .returned (.int .i64 r) ∧ Drawn0 w w':=by
 have H:(if a0 ≥ 48 then (spec_l1Digit.j0 k a0 (decide (a0 ≤ 57))) else (spec_l1Digit.j0 k a0 false)) = some r:=h
 clear h
 have HC2:=Aside0.mk H
 clear H
 go_enter Try.func76,Try.ntmps76
 go_upto_region 1 with (fail)
 go_cut [3] (fun v3 wc => ∃ (kq:Nat) (x3_1:Bool),v3 = .bool x3_1 ∧ Aside0 (spec_l1Digit.j0 kq a0 x3_1 = some r) ∧ Aside0 (kq ≤ k) ∧ Drawn0 w wc)
 case first =>
  have H:=HC2.out
  clear HC2
  by_cases c3:a0 ≥ 48
  ·rw [if_pos c3] at H
   have c3b0:decide (48 ≤ a0) = true:=decide_eq_true c3
   clear c3
   (first | rw [c3b0] | (simp only [i64_w,i32_w];rw [c3b0]) | rw [c3b9] | skip)
   have H':=Aside0.mk H
   clear H
   go_wp2
   go_meet
   case rel => exact ⟨_,(decide (a0 ≤ 57)),(by first | rfl | (simp;done) | (simp [*];done) | (simp;decide +kernel) | (simp [wrap64];done) | (simp [bne];done)),H',⟨by first | omega | exact Nat.le_refl _⟩,by repeat (first | exact Drawn0.refl _ | apply Drawn0.step)⟩
  ·rw [if_neg c3] at H
   have c3b0:decide (48 ≤ a0) = false:=decide_eq_false c3
   clear c3
   (first | rw [c3b0] | (simp only [i64_w,i32_w];rw [c3b0]) | rw [c3b9] | skip)
   have H':=Aside0.mk H
   clear H
   go_wp2
   go_meet
   case rel => exact ⟨_,(false),(by first | rfl | (simp;done) | (simp [*];done) | (simp;decide +kernel) | (simp [wrap64];done) | (simp [bne];done)),H',⟨by first | omega | exact Nat.le_refl _⟩,by repeat (first | exact Drawn0.refl _ | apply Drawn0.step)⟩
 case rest =>
  clear HC2
  try clear p2
  try clear c3
  try clear c3b0
  obtain ⟨kq,x3_1,rfl,HA,HJ1,⟨mc1,rfl⟩⟩:=hcut
  cases kq with
  | zero => exact absurd HA.out (by simp [spec_l1Digit.j0])
  | succ kj1 =>
   have H:=HA.out
   clear HA
   simp only [spec_l1Digit.j0] at H
   by_cases c4:x3_1 = true
   ·subst c4
    have H1:(some ((a0 - 48) % 256)) = some r:=by rw [if_pos rfl] at H;exact H
    clear H
    have H:=H1
    clear H1
    obtain rfl:=Option.some.inj H
    go_wp2
    go_ret
    exact ⟨by first | rfl | (simp;done) | (simp [*];done) | (simp;decide +kernel) | (simp [wrap64];done) | (simp [bne];done),by repeat (first | exact Drawn0.refl _ | apply Drawn0.step)⟩
   ·replace c4:=Bool.eq_false_iff.mpr c4
    subst c4
    have H1:(if a0 ≥ 65 then (if a0 ≤ 70 then (some (((a0 - 65) % 256) + 10)) else (some 99)) else (some 99)) = some r:=by rw [if_neg (show ¬ (false = true) by decide)] at H;exact H
    clear H
    have H:=H1
    clear H1
    by_cases c5:a0 ≥ 65
    ·rw [if_pos c5] at H
     have c5b0:decide (65 ≤ a0) = true:=decide_eq_true c5
     clear c5
     by_cases c6:a0 ≤ 70
     ·rw [if_pos c6] at H
      have c6b0:decide (a0 ≤ 70) = true:=decide_eq_true c6
      clear c6
      obtain rfl:=Option.some.inj H
      go_wp2
      go_ret
      exact ⟨by first | rfl | (simp;done) | (simp [*];done) | (simp;decide +kernel) | (simp [wrap64];done) | (simp [bne];done),by repeat (first | exact Drawn0.refl _ | apply Drawn0.step)⟩
     ·rw [if_neg c6] at H
      have c6b0:decide (a0 ≤ 70) = false:=decide_eq_false c6
      clear c6
      obtain rfl:=Option.some.inj H
      go_wp2
      go_ret
      exact ⟨by first | rfl | (simp;done) | (simp [*];done) | (simp;decide +kernel) | (simp [wrap64];done) | (simp [bne];done),by repeat (first | exact Drawn0.refl _ | apply Drawn0.step)⟩
    ·rw [if_neg c5] at H
     have c5b0:decide (65 ≤ a0) = false:=decide_eq_false c5
     clear c5
     obtain rfl:=Option.some.inj H
     go_wp2
     go_ret
     exact ⟨by first | rfl | (simp;done) | (simp [*];done) | (simp;decide +kernel) | (simp [wrap64];done) | (simp [bne];done),by repeat (first | exact Drawn0.refl _ | apply Drawn0.step)⟩
/-! ### spec_l1Base: function 74 -/
def spec_l1Base.l0:Nat → ByteArray → Int → Int → Int → Option (Int × Bool)
 | 0,_,_,_,_ => none
 | k + 1,x0,x1,x6,x7 => if x7 < (x0.size:Int) then (if 0 ≤ x7 then ((spec_l1Digit.f k (bt x0 x7)).bind fun t118 => (if t118 ≥ x1 then (some (0,false)) else (if (wrap64 ((wrap64 (x6 * x1)) + t118)) > 65535 then (some (0,false)) else (spec_l1Base.l0 k x0 x1 (wrap64 ((wrap64 (x6 * x1)) + t118)) (wrap64 (x7 + 1)))))) else (none)) else (some (x6,(x0.toList != ([]:List UInt8))))
def spec_l1Base.f (k:Nat) (a0:ByteArray) (a1:Int):Option (Int × Bool):=spec_l1Base.l0 k a0 a1 0 0
theorem spec_l1Base.mono_l:∀ k,(∀ y0 y1 y2 y3,LeO (spec_l1Base.l0 k y0 y1 y2 y3) (spec_l1Base.l0 (k + 1) y0 y1 y2 y3))
 | 0 => fun _ _ _ _ r h => by simp [spec_l1Base.l0] at h
 | k + 1 => by
  have ih0:=spec_l1Base.mono_l k
  ·intro y0 y1 y2 y3
   unfold spec_l1Base.l0
   repeat' first
   | (with_reducible exact ih0 _ _ _ _)
   | (with_reducible exact spec_l1Digit.mono _ _)
   | (with_reducible exact LeO.refl _)
   | (with_reducible exact LeO.none _)
   | (with_reducible refine LeO.ite ?_ ?_)
   | (with_reducible refine LeO.bind ?_ (fun _ => ?_))
   | exact ih0 _ _ _ _
   | exact spec_l1Digit.mono _ _
   | exact LeO.none _
   | refine LeO.ite ?_ ?_
   | refine LeO.bind ?_ (fun _ => ?_)
theorem spec_l1Base.mono:∀ a0 a1 k,LeO (spec_l1Base.f k a0 a1) (spec_l1Base.f (k + 1) a0 a1):=by
 intro a0 a1 k
 have ih0:=spec_l1Base.mono_l k
 unfold spec_l1Base.f
 repeat' first
   | (with_reducible exact ih0 _ _ _ _)
   | (with_reducible exact spec_l1Digit.mono _ _)
   | (with_reducible exact LeO.refl _)
   | (with_reducible exact LeO.none _)
   | (with_reducible refine LeO.ite ?_ ?_)
   | (with_reducible refine LeO.bind ?_ (fun _ => ?_))
   | exact ih0 _ _ _ _
   | exact spec_l1Digit.mono _ _
   | exact LeO.none _
   | refine LeO.ite ?_ ?_
   | refine LeO.bind ?_ (fun _ => ?_)
set_option maxHeartbeats 8000000 in
set_option maxRecDepth 100000 in
theorem spec_l1Base.calls (k:Nat) (a0:ByteArray) (a1:Int) (r1:Int) (r2:Bool) (w:World) (h:spec_l1Base.f k a0 a1 = some (r1,r2)) :
  Calls Try.prog 74 #[.string a0,.int .i64 a1] w fun e w' => e = .returned (.tuple #[.int .i64 r1,.bool r2]) ∧ Drawn0 w w':=by
 have H:(spec_l1Base.l0 k a0 a1 0 0) = some (r1,r2):=h
 clear h
 have H':=Aside0.mk H
 clear H
 go_enter Try.func74,Try.ntmps74
 go_wp2
 go_loopg [6,7] k (fun kq v6 v7 w' => ∃ (x6_1:Int) (x7_1:Int),v6 = .int .i64 x6_1 ∧ v7 = .int .i64 x7_1 ∧ Aside0 (spec_l1Base.l0 kq a0 a1 x6_1 x7_1 = some (r1,r2)) ∧ Aside0 (kq ≤ k) ∧ Drawn0 w w')
 case atStart => exact ⟨(0),(0),(by first | rfl | (simp;done) | (simp [*];done) | (simp;decide +kernel) | (simp [wrap64];done) | (simp [bne];done)),(by first | rfl | (simp;done) | (simp [*];done) | (simp;decide +kernel) | (simp [wrap64];done) | (simp [bne];done)),H',⟨Nat.le_refl _⟩,by repeat (first | exact Drawn0.refl _ | apply Drawn0.step)⟩
 case round =>
  clear H'
  try clear p2
  obtain ⟨x6_1,x7_1,rfl,rfl,HA,HK1,⟨m1,rfl⟩⟩:=hrel
  cases gk with
  | zero => exact absurd HA.out (by simp [spec_l1Base.l0])
  | succ k1 =>
   have H:=HA.out
   clear HA
   simp only [spec_l1Base.l0] at H
   by_cases c3:x7_1 < (a0.size:Int)
   ·rw [if_pos c3] at H
    have c3b0:decide (x7_1 < (a0.size:Int)) = true:=decide_eq_true c3
    clear c3
    by_cases c4:0 ≤ x7_1
    ·rw [if_pos c4] at H
     have c4b0:decide (0 ≤ x7_1) = true:=decide_eq_true c4
     clear c4
     replace H:=Option.bind_eq_some_iff.mp H
     obtain ⟨t118,A60,H⟩:=H
     replace H:(if t118 ≥ a1 then (some (0,false)) else (if (wrap64 ((wrap64 (x6_1 * a1)) + t118)) > 65535 then (some (0,false)) else (spec_l1Base.l0 k1 a0 a1 (wrap64 ((wrap64 (x6_1 * a1)) + t118)) (wrap64 (x7_1 + 1))))) = some (r1,r2):=H
     have A6:=Aside0.mk A60
     clear A60
     by_cases c7:t118 ≥ a1
     ·rw [if_pos c7] at H
      have c7b0:decide (a1 ≤ t118) = true:=decide_eq_true c7
      clear c7
      simp only [Option.some.injEq,Prod.mk.injEq] at H
      obtain ⟨rfl,rfl⟩:=H
      have p5:0 ≤ (x7_1:Int):=of_decide_eq_true (by first | (with_reducible assumption) | assumption)
      have q5:x7_1 < (a0.size:Int):=of_decide_eq_true (by first | (with_reducible assumption) | assumption)
      have hx5:=bt_at a0 x7_1
      replace p5:=eq_true p5
      replace q5:=eq_true q5
      go_wp2_with (first | ((with_reducible refine gate_callee (f:=76) rfl ?_);refine goesL_ (some 18) rfl rfl Try.func76 (by kernel_rfl) rfl #[.int .u8 (bt a0 x7_1)] rfl (by (try simp only [List.map_toArray,List.map_cons,List.map_nil]);first | done | rfl | (simp only [List.length_drop,List.length_take];rfl)) ?_;(with_reducible refine (spec_l1Digit.calls k1 (bt a0 x7_1) t118 _ A6.out).mono ?_);rintro e w' ⟨rfl,⟨nd,rfl⟩⟩;refine ⟨_,rfl,?_⟩))
      go_ret2
      exact ⟨by first | rfl | (simp;done) | (simp [*];done) | (simp;decide +kernel) | (simp [wrap64];done) | (simp [bne];done),by repeat (first | exact Drawn0.refl _ | apply Drawn0.step)⟩
     ·rw [if_neg c7] at H
      have c7b0:decide (a1 ≤ t118) = false:=decide_eq_false c7
      clear c7
      by_cases c8:(wrap64 ((wrap64 (x6_1 * a1)) + t118)) > 65535
      ·rw [if_pos c8] at H
       have c8b0:decide (65535 < (wrap64 ((wrap64 (x6_1 * a1)) + t118))) = true:=decide_eq_true c8
       clear c8
       simp only [Option.some.injEq,Prod.mk.injEq] at H
       obtain ⟨rfl,rfl⟩:=H
       have p5:0 ≤ (x7_1:Int):=of_decide_eq_true (by first | (with_reducible assumption) | assumption)
       have q5:x7_1 < (a0.size:Int):=of_decide_eq_true (by first | (with_reducible assumption) | assumption)
       have hx5:=bt_at a0 x7_1
       replace p5:=eq_true p5
       replace q5:=eq_true q5
       go_wp2_with (first | ((with_reducible refine gate_callee (f:=76) rfl ?_);refine goesL_ (some 18) rfl rfl Try.func76 (by kernel_rfl) rfl #[.int .u8 (bt a0 x7_1)] rfl (by (try simp only [List.map_toArray,List.map_cons,List.map_nil]);first | done | rfl | (simp only [List.length_drop,List.length_take];rfl)) ?_;(with_reducible refine (spec_l1Digit.calls k1 (bt a0 x7_1) t118 _ A6.out).mono ?_);rintro e w' ⟨rfl,⟨nd,rfl⟩⟩;refine ⟨_,rfl,?_⟩))
       go_ret2
       exact ⟨by first | rfl | (simp;done) | (simp [*];done) | (simp;decide +kernel) | (simp [wrap64];done) | (simp [bne];done),by repeat (first | exact Drawn0.refl _ | apply Drawn0.step)⟩
      ·rw [if_neg c8] at H
       have c8b0:decide (65535 < (wrap64 ((wrap64 (x6_1 * a1)) + t118))) = false:=decide_eq_false c8
       clear c8
       have H':=Aside0.mk H
       clear H
       have p5:0 ≤ (x7_1:Int):=of_decide_eq_true (by first | (with_reducible assumption) | assumption)
       have q5:x7_1 < (a0.size:Int):=of_decide_eq_true (by first | (with_reducible assumption) | assumption)
       have hx5:=bt_at a0 x7_1
       replace p5:=eq_true p5
       replace q5:=eq_true q5
       go_wp2_with (first | ((with_reducible refine gate_callee (f:=76) rfl ?_);refine goesL_ (some 18) rfl rfl Try.func76 (by kernel_rfl) rfl #[.int .u8 (bt a0 x7_1)] rfl (by (try simp only [List.map_toArray,List.map_cons,List.map_nil]);first | done | rfl | (simp only [List.length_drop,List.length_take];rfl)) ?_;(with_reducible refine (spec_l1Digit.calls k1 (bt a0 x7_1) t118 _ A6.out).mono ?_);rintro e w' ⟨rfl,⟨nd,rfl⟩⟩;refine ⟨_,rfl,?_⟩))
       go_roundg k1
       case measure => have:=HK1.out;omega
       case rel => exact ⟨(wrap64 ((wrap64 (x6_1 * a1)) + t118)),(wrap64 (x7_1 + 1)),(by first | rfl | (simp;done) | (simp [*];done) | (simp;decide +kernel) | (simp [wrap64];done) | (simp [bne];done)),(by first | rfl | (simp;done) | (simp [*];done) | (simp;decide +kernel) | (simp [wrap64];done) | (simp [bne];done)),H',⟨by have:=HK1.out;omega⟩,by repeat (first | exact Drawn0.refl _ | apply Drawn0.step)⟩
    ·rw [if_neg c4] at H
     exact absurd H (by simp)
   ·rw [if_neg c3] at H
    have c3b0:decide (x7_1 < (a0.size:Int)) = false:=decide_eq_false c3
    clear c3
    simp only [Option.some.injEq,Prod.mk.injEq] at H
    obtain ⟨rfl,rfl⟩:=H
    go_wp2
    go_ret2
    exact ⟨by first | rfl | (simp;done) | (simp [*];done) | (simp;decide +kernel) | (simp [wrap64];done) | (simp [bne];done),by repeat (first | exact Drawn0.refl _ | apply Drawn0.step)⟩
/-! ### spec_ReadNum: function 67 -/
def spec_ReadNum.j0:Nat → ByteArray → Bool → Option (Int × Bool)
 | 0,_,_ => none
 | k + 1,x0,x10 => if x10 = true then (some (0,false)) else (if 0 < (x0.size:Int) then (if (bt x0 0) = 36 then (if 1 ≤ (x0.size:Int) then ((spec_l1Base.f k (x0.extract 1 x0.size) 16).bind fun bt119 => (some (bt119.1,bt119.2))) else (none)) else (if (bt x0 0) = 37 then (if 1 ≤ (x0.size:Int) then ((spec_l1Base.f k (x0.extract 1 x0.size) 2).bind fun bt121 => (some (bt121.1,bt121.2))) else (none)) else ((spec_l1Base.f k x0 10).bind fun bt123 => (some (bt123.1,bt123.2))))) else (none))
def spec_ReadNum.f (k:Nat) (a0:ByteArray):Option (Int × Bool):=if (a0.size:Int) > 18 then (spec_ReadNum.j0 k a0 true) else (spec_ReadNum.j0 k a0 (a0.toList == ([]:List UInt8)))
theorem spec_ReadNum.mono_l:∀ k,(∀ y0 y1,LeO (spec_ReadNum.j0 k y0 y1) (spec_ReadNum.j0 (k + 1) y0 y1))
 | 0 => fun _ _ r h => by simp [spec_ReadNum.j0] at h
 | k + 1 => by
  have ih0:=spec_ReadNum.mono_l k
  ·intro y0 y1
   unfold spec_ReadNum.j0
   repeat' first
   | (with_reducible exact ih0 _ _)
   | (with_reducible exact spec_l1Base.mono _ _ _)
   | (with_reducible exact LeO.refl _)
   | (with_reducible exact LeO.none _)
   | (with_reducible refine LeO.ite ?_ ?_)
   | (with_reducible refine LeO.bind ?_ (fun _ => ?_))
   | exact ih0 _ _
   | exact spec_l1Base.mono _ _ _
   | exact LeO.none _
   | refine LeO.ite ?_ ?_
   | refine LeO.bind ?_ (fun _ => ?_)
theorem spec_ReadNum.mono:∀ a0 k,LeO (spec_ReadNum.f k a0) (spec_ReadNum.f (k + 1) a0):=by
 intro a0 k
 have ih0:=spec_ReadNum.mono_l k
 unfold spec_ReadNum.f
 repeat' first
   | (with_reducible exact ih0 _ _)
   | (with_reducible exact spec_l1Base.mono _ _ _)
   | (with_reducible exact LeO.refl _)
   | (with_reducible exact LeO.none _)
   | (with_reducible refine LeO.ite ?_ ?_)
   | (with_reducible refine LeO.bind ?_ (fun _ => ?_))
   | exact ih0 _ _
   | exact spec_l1Base.mono _ _ _
   | exact LeO.none _
   | refine LeO.ite ?_ ?_
   | refine LeO.bind ?_ (fun _ => ?_)
set_option maxHeartbeats 8000000 in
set_option maxRecDepth 100000 in
theorem spec_ReadNum.calls (k:Nat) (a0:ByteArray) (r1:Int) (r2:Bool) (w:World) (h:spec_ReadNum.f k a0 = some (r1,r2)) :
  Calls Try.prog 67 #[.string a0] w fun e w' => e = .returned (.tuple #[.int .i64 r1,.bool r2]) ∧ Drawn0 w w':=by
 have H:(if (a0.size:Int) > 18 then (spec_ReadNum.j0 k a0 true) else (spec_ReadNum.j0 k a0 (a0.toList == ([]:List UInt8)))) = some (r1,r2):=h
 clear h
 have HC2:=Aside0.mk H
 clear H
 go_enter Try.func67,Try.ntmps67
 go_upto_region 1 with (fail)
 go_cut [10] (fun v10 wc => ∃ (kq:Nat) (x10_1:Bool),v10 = .bool x10_1 ∧ Aside0 (spec_ReadNum.j0 kq a0 x10_1 = some (r1,r2)) ∧ Aside0 (kq ≤ k) ∧ Drawn0 w wc)
 case first =>
  have H:=HC2.out
  clear HC2
  by_cases c3:(a0.size:Int) > 18
  ·rw [if_pos c3] at H
   have c3b0:decide (18 < (a0.size:Int)) = true:=decide_eq_true c3
   have c3b1:decide (18 < a0.size) = true:=decide_eq_true (by omega)
   clear c3
   (first | rw [c3b0] | (simp only [i64_w,i32_w];rw [c3b0]) | rw [c3b9] | skip)
   have H':=Aside0.mk H
   clear H
   go_wp2
   go_meet
   case rel => exact ⟨_,(true),(by first | rfl | (simp;done) | (simp [*];done) | (simp;decide +kernel) | (simp [wrap64];done) | (simp [bne];done)),H',⟨by first | omega | exact Nat.le_refl _⟩,by repeat (first | exact Drawn0.refl _ | apply Drawn0.step)⟩
  ·rw [if_neg c3] at H
   have c3b0:decide (18 < (a0.size:Int)) = false:=decide_eq_false c3
   have c3b1:decide (18 < a0.size) = false:=decide_eq_false (by omega)
   clear c3
   (first | rw [c3b0] | (simp only [i64_w,i32_w];rw [c3b0]) | rw [c3b9] | skip)
   have H':=Aside0.mk H
   clear H
   go_wp2
   go_meet
   case rel => exact ⟨_,((a0.toList == ([]:List UInt8))),(by first | rfl | (simp;done) | (simp [*];done) | (simp;decide +kernel) | (simp [wrap64];done) | (simp [bne];done)),H',⟨by first | omega | exact Nat.le_refl _⟩,by repeat (first | exact Drawn0.refl _ | apply Drawn0.step)⟩
 case rest =>
  clear HC2
  try clear p2
  try clear c3
  try clear c3b0
  try clear c3b1
  obtain ⟨kq,x10_1,rfl,HA,HJ1,⟨mc1,rfl⟩⟩:=hcut
  cases kq with
  | zero => exact absurd HA.out (by simp [spec_ReadNum.j0])
  | succ kj1 =>
   have H:=HA.out
   clear HA
   simp only [spec_ReadNum.j0] at H
   by_cases c4:x10_1 = true
   ·subst c4
    have H1:(some (0,false)) = some (r1,r2):=by rw [if_pos rfl] at H;exact H
    clear H
    have H:=H1
    clear H1
    simp only [Option.some.injEq,Prod.mk.injEq] at H
    obtain ⟨rfl,rfl⟩:=H
    go_wp2
    go_ret2
    exact ⟨by first | rfl | (simp;done) | (simp [*];done) | (simp;decide +kernel) | (simp [wrap64];done) | (simp [bne];done),by repeat (first | exact Drawn0.refl _ | apply Drawn0.step)⟩
   ·replace c4:=Bool.eq_false_iff.mpr c4
    subst c4
    have H1:(if 0 < (a0.size:Int) then (if (bt a0 0) = 36 then (if 1 ≤ (a0.size:Int) then ((spec_l1Base.f kj1 (a0.extract 1 a0.size) 16).bind fun bt119 => (some (bt119.1,bt119.2))) else (none)) else (if (bt a0 0) = 37 then (if 1 ≤ (a0.size:Int) then ((spec_l1Base.f kj1 (a0.extract 1 a0.size) 2).bind fun bt121 => (some (bt121.1,bt121.2))) else (none)) else ((spec_l1Base.f kj1 a0 10).bind fun bt123 => (some (bt123.1,bt123.2))))) else (none)) = some (r1,r2):=by rw [if_neg (show ¬ (false = true) by decide)] at H;exact H
    clear H
    have H:=H1
    clear H1
    by_cases c5:0 < (a0.size:Int)
    ·rw [if_pos c5] at H
     have c5b0:decide (0 < (a0.size:Int)) = true:=decide_eq_true c5
     have c5b1:decide (0 < a0.size) = true:=decide_eq_true (by omega)
     clear c5
     by_cases c7:(bt a0 0) = 36
     ·rw [if_pos c7] at H
      have c7b0:((bt a0 0) == 36) = true:=beq_iff_eq.mpr c7
      have c7b1:((bt a0 0) != 36) = false:=bne_eq_false_iff_eq.mpr c7
      clear c7
      by_cases c8:1 ≤ (a0.size:Int)
      ·rw [if_pos c8] at H
       have c8b0:=eq_true c8
       have c8b1:decide (1 ≤ (a0.size:Int)) = true:=decide_eq_true c8
       clear c8
       replace H:=Option.bind_eq_some_iff.mp H
       obtain ⟨⟨t119,t120⟩,A90,H⟩:=H
       replace H:(some (t119,t120)) = some (r1,r2):=H
       have A9:=Aside0.mk A90
       clear A90
       simp only [Option.some.injEq,Prod.mk.injEq] at H
       obtain ⟨rfl,rfl⟩:=H
       have p6:0 ≤ (0:Int):=(by omega)
       have q6:0 < a0.size:=(by have:(0:Int) < (a0.size:Int):=of_decide_eq_true (by first | (with_reducible assumption) | assumption);omega)
       have hx6:∀ h:0 < a0.size,((a0[0]'h).toNat:Int) = bt a0 0:=bt_at a0 0
       clear p6
       have qi6:(0 < (a0.size:Int)) = True:=eq_true (of_decide_eq_true (by first | (with_reducible assumption) | assumption))
       replace q6:=eq_true q6
       go_wp2_with (first | ((with_reducible refine gate_callee (f:=74) rfl ?_);refine goesL_ (some 17) rfl rfl Try.func74 (by kernel_rfl) rfl #[.string (a0.extract 1 a0.size),.int .i64 16] rfl (by (try simp only [List.map_toArray,List.map_cons,List.map_nil]);first | done | rfl | (simp only [List.length_drop,List.length_take];rfl)) ?_;(with_reducible refine (spec_l1Base.calls kj1 (a0.extract 1 a0.size) 16 t119 t120 _ A9.out).mono ?_);rintro e w' ⟨rfl,⟨nd,rfl⟩⟩;refine ⟨_,rfl,?_⟩))
       go_ret2
       exact ⟨by first | rfl | (simp;done) | (simp [*];done) | (simp;decide +kernel) | (simp [wrap64];done) | (simp [bne];done),by repeat (first | exact Drawn0.refl _ | apply Drawn0.step)⟩
      ·rw [if_neg c8] at H
       exact absurd H (by simp)
     ·rw [if_neg c7] at H
      have c7b0:((bt a0 0) == 36) = false:=beq_eq_false_iff_ne.mpr c7
      have c7b1:((bt a0 0) != 36) = true:=bne_iff_ne.mpr c7
      by_cases c10:(bt a0 0) = 37
      ·rw [if_pos c10] at H
       have c10b0:((bt a0 0) == 37) = true:=beq_iff_eq.mpr c10
       have c10b1:((bt a0 0) != 37) = false:=bne_eq_false_iff_eq.mpr c10
       clear c10
       by_cases c11:1 ≤ (a0.size:Int)
       ·rw [if_pos c11] at H
        have c11b0:=eq_true c11
        have c11b1:decide (1 ≤ (a0.size:Int)) = true:=decide_eq_true c11
        clear c11
        replace H:=Option.bind_eq_some_iff.mp H
        obtain ⟨⟨t121,t122⟩,A120,H⟩:=H
        replace H:(some (t121,t122)) = some (r1,r2):=H
        have A12:=Aside0.mk A120
        clear A120
        simp only [Option.some.injEq,Prod.mk.injEq] at H
        obtain ⟨rfl,rfl⟩:=H
        have p6:0 ≤ (0:Int):=(by omega)
        have q6:0 < a0.size:=(by have:(0:Int) < (a0.size:Int):=of_decide_eq_true (by first | (with_reducible assumption) | assumption);omega)
        have hx6:∀ h:0 < a0.size,((a0[0]'h).toNat:Int) = bt a0 0:=bt_at a0 0
        clear p6
        have qi6:(0 < (a0.size:Int)) = True:=eq_true (of_decide_eq_true (by first | (with_reducible assumption) | assumption))
        replace q6:=eq_true q6
        go_wp2_with (first | ((with_reducible refine gate_callee (f:=74) rfl ?_);refine goesL_ (some 24) rfl rfl Try.func74 (by kernel_rfl) rfl #[.string (a0.extract 1 a0.size),.int .i64 2] rfl (by (try simp only [List.map_toArray,List.map_cons,List.map_nil]);first | done | rfl | (simp only [List.length_drop,List.length_take];rfl)) ?_;(with_reducible refine (spec_l1Base.calls kj1 (a0.extract 1 a0.size) 2 t121 t122 _ A12.out).mono ?_);rintro e w' ⟨rfl,⟨nd,rfl⟩⟩;refine ⟨_,rfl,?_⟩))
        go_ret2
        exact ⟨by first | rfl | (simp;done) | (simp [*];done) | (simp;decide +kernel) | (simp [wrap64];done) | (simp [bne];done),by repeat (first | exact Drawn0.refl _ | apply Drawn0.step)⟩
       ·rw [if_neg c11] at H
        exact absurd H (by simp)
      ·rw [if_neg c10] at H
       have c10b0:((bt a0 0) == 37) = false:=beq_eq_false_iff_ne.mpr c10
       have c10b1:((bt a0 0) != 37) = true:=bne_iff_ne.mpr c10
       replace H:=Option.bind_eq_some_iff.mp H
       obtain ⟨⟨t123,t124⟩,A130,H⟩:=H
       replace H:(some (t123,t124)) = some (r1,r2):=H
       have A13:=Aside0.mk A130
       clear A130
       simp only [Option.some.injEq,Prod.mk.injEq] at H
       obtain ⟨rfl,rfl⟩:=H
       have p6:0 ≤ (0:Int):=(by omega)
       have q6:0 < a0.size:=(by have:(0:Int) < (a0.size:Int):=of_decide_eq_true (by first | (with_reducible assumption) | assumption);omega)
       have hx6:∀ h:0 < a0.size,((a0[0]'h).toNat:Int) = bt a0 0:=bt_at a0 0
       clear p6
       have qi6:(0 < (a0.size:Int)) = True:=eq_true (of_decide_eq_true (by first | (with_reducible assumption) | assumption))
       replace q6:=eq_true q6
       go_wp2_with (first | ((with_reducible refine gate_callee (f:=74) rfl ?_);refine goesL_ (some 28) rfl rfl Try.func74 (by kernel_rfl) rfl #[.string a0,.int .i64 10] rfl (by (try simp only [List.map_toArray,List.map_cons,List.map_nil]);first | done | rfl | (simp only [List.length_drop,List.length_take];rfl)) ?_;(with_reducible refine (spec_l1Base.calls kj1 a0 10 t123 t124 _ A13.out).mono ?_);rintro e w' ⟨rfl,⟨nd,rfl⟩⟩;refine ⟨_,rfl,?_⟩))
       go_ret2
       exact ⟨by first | rfl | (simp;done) | (simp [*];done) | (simp;decide +kernel) | (simp [wrap64];done) | (simp [bne];done),by repeat (first | exact Drawn0.refl _ | apply Drawn0.step)⟩
    ·rw [if_neg c5] at H
     exact absurd H (by simp)
-- NOT PRINTED: function 45 (spec_l2P_value)
/-! ### spec_l2Words: function 48 -/
def spec_l2Words.f :Option (List ByteArray):=some (([(⟨#[]⟩:ByteArray),(⟨#[]⟩:ByteArray),(⟨#[]⟩:ByteArray),(⟨#[]⟩:ByteArray),(⟨#[110,101,103]⟩:ByteArray),(⟨#[110,111,116]⟩:ByteArray),(⟨#[104,105,103,104]⟩:ByteArray),(⟨#[108,111,119]⟩:ByteArray),(⟨#[43]⟩:ByteArray),(⟨#[45]⟩:ByteArray),(⟨#[42]⟩:ByteArray),(⟨#[47]⟩:ByteArray),(⟨#[37]⟩:ByteArray),(⟨#[38]⟩:ByteArray),(⟨#[94]⟩:ByteArray),(⟨#[124]⟩:ByteArray),(⟨#[60,60]⟩:ByteArray),(⟨#[62,62]⟩:ByteArray)]:List ByteArray))
set_option maxHeartbeats 8000000 in
set_option maxRecDepth 100000 in
theorem spec_l2Words.calls  (r:List ByteArray) (w:World) (h:spec_l2Words.f  = some r) :
  Calls Try.prog 48 #[] w fun e w' => ∃ v0_:Value,e = .returned (v0_) ∧ Kd.R Kd.string 9 w' w.heap.size (fun _ => True) v0_ r ∧ Below w.heap.size w w':=by
 have HB:=Aside0.mk (Below.refl w.heap.size w)
 have H:(some (([(⟨#[]⟩:ByteArray),(⟨#[]⟩:ByteArray),(⟨#[]⟩:ByteArray),(⟨#[]⟩:ByteArray),(⟨#[110,101,103]⟩:ByteArray),(⟨#[110,111,116]⟩:ByteArray),(⟨#[104,105,103,104]⟩:ByteArray),(⟨#[108,111,119]⟩:ByteArray),(⟨#[43]⟩:ByteArray),(⟨#[45]⟩:ByteArray),(⟨#[42]⟩:ByteArray),(⟨#[47]⟩:ByteArray),(⟨#[37]⟩:ByteArray),(⟨#[38]⟩:ByteArray),(⟨#[94]⟩:ByteArray),(⟨#[124]⟩:ByteArray),(⟨#[60,60]⟩:ByteArray),(⟨#[62,62]⟩:ByteArray)]:List ByteArray))) = some r:=h
 clear h
 obtain ⟨y132,hy132⟩:∃ y_:List ByteArray,y_ = (([(⟨#[]⟩:ByteArray),(⟨#[]⟩:ByteArray),(⟨#[]⟩:ByteArray),(⟨#[]⟩:ByteArray),(⟨#[110,101,103]⟩:ByteArray),(⟨#[110,111,116]⟩:ByteArray),(⟨#[104,105,103,104]⟩:ByteArray),(⟨#[108,111,119]⟩:ByteArray),(⟨#[43]⟩:ByteArray),(⟨#[45]⟩:ByteArray),(⟨#[42]⟩:ByteArray),(⟨#[47]⟩:ByteArray),(⟨#[37]⟩:ByteArray),(⟨#[38]⟩:ByteArray),(⟨#[94]⟩:ByteArray),(⟨#[124]⟩:ByteArray),(⟨#[60,60]⟩:ByteArray),(⟨#[62,62]⟩:ByteArray)]:List ByteArray)):=⟨_,rfl⟩
 replace H:(some y132) = some r:=by first | (rw [hy132];with_reducible exact H) | (have H2_:=(Option.bind_some _ _).symm.trans H;rw [hy132];with_reducible exact H2_) | (have H2_:=(Option.bind_some _ _).symm.trans H;with_reducible exact H2_) | with_reducible exact H | (rw [hy132];exact H) | exact H
 have Ny132:=Aside0.mk hy132
 clear hy132
 obtain rfl:=Option.some.inj H
 go_enter Try.func48,Try.ntmps48
 go_wp2_with (first | ((with_reducible refine gate_dst (N:=1) rfl ?_);refine Kd.R_lit Kd.string _ 9 ?hg (N:=1) ?hd (xs:=([(⟨#[]⟩:ByteArray),(⟨#[]⟩:ByteArray),(⟨#[]⟩:ByteArray),(⟨#[]⟩:ByteArray),(⟨#[110,101,103]⟩:ByteArray),(⟨#[110,111,116]⟩:ByteArray),(⟨#[104,105,103,104]⟩:ByteArray),(⟨#[108,111,119]⟩:ByteArray),(⟨#[43]⟩:ByteArray),(⟨#[45]⟩:ByteArray),(⟨#[42]⟩:ByteArray),(⟨#[47]⟩:ByteArray),(⟨#[37]⟩:ByteArray),(⟨#[38]⟩:ByteArray),(⟨#[94]⟩:ByteArray),(⟨#[124]⟩:ByteArray),(⟨#[60,60]⟩:ByteArray),(⟨#[62,62]⟩:ByteArray)]:List ByteArray)) (inner:=[.string (⟨#[]⟩:ByteArray),.string (⟨#[]⟩:ByteArray),.string (⟨#[]⟩:ByteArray),.string (⟨#[]⟩:ByteArray),.string (⟨#[110,101,103]⟩:ByteArray),.string (⟨#[110,111,116]⟩:ByteArray),.string (⟨#[104,105,103,104]⟩:ByteArray),.string (⟨#[108,111,119]⟩:ByteArray),.string (⟨#[43]⟩:ByteArray),.string (⟨#[45]⟩:ByteArray),.string (⟨#[42]⟩:ByteArray),.string (⟨#[47]⟩:ByteArray),.string (⟨#[37]⟩:ByteArray),.string (⟨#[38]⟩:ByteArray),.string (⟨#[94]⟩:ByteArray),.string (⟨#[124]⟩:ByteArray),.string (⟨#[60,60]⟩:ByteArray),.string (⟨#[62,62]⟩:ByteArray)]) (ok:=fun _ => True) (okp:=fun _ => True) ?hr ?hp (fun _ hk => hk) trivial (Below.refl _ _) (Nat.le_refl _) (by simp) ?_;(case hd => rfl);(case hg => rfl);(case hr => first | (go_simp;done) | (go_simp;rfl));(case hp => exact (Reps.one (show Kd.M Kd.string _ _ _ (⟨#[]⟩:ByteArray) [.string (⟨#[]⟩:ByteArray)] from rfl) (Reps.one (show Kd.M Kd.string _ _ _ (⟨#[]⟩:ByteArray) [.string (⟨#[]⟩:ByteArray)] from rfl) (Reps.one (show Kd.M Kd.string _ _ _ (⟨#[]⟩:ByteArray) [.string (⟨#[]⟩:ByteArray)] from rfl) (Reps.one (show Kd.M Kd.string _ _ _ (⟨#[]⟩:ByteArray) [.string (⟨#[]⟩:ByteArray)] from rfl) (Reps.one (show Kd.M Kd.string _ _ _ (⟨#[110,101,103]⟩:ByteArray) [.string (⟨#[110,101,103]⟩:ByteArray)] from rfl) (Reps.one (show Kd.M Kd.string _ _ _ (⟨#[110,111,116]⟩:ByteArray) [.string (⟨#[110,111,116]⟩:ByteArray)] from rfl) (Reps.one (show Kd.M Kd.string _ _ _ (⟨#[104,105,103,104]⟩:ByteArray) [.string (⟨#[104,105,103,104]⟩:ByteArray)] from rfl) (Reps.one (show Kd.M Kd.string _ _ _ (⟨#[108,111,119]⟩:ByteArray) [.string (⟨#[108,111,119]⟩:ByteArray)] from rfl) (Reps.one (show Kd.M Kd.string _ _ _ (⟨#[43]⟩:ByteArray) [.string (⟨#[43]⟩:ByteArray)] from rfl) (Reps.one (show Kd.M Kd.string _ _ _ (⟨#[45]⟩:ByteArray) [.string (⟨#[45]⟩:ByteArray)] from rfl) (Reps.one (show Kd.M Kd.string _ _ _ (⟨#[42]⟩:ByteArray) [.string (⟨#[42]⟩:ByteArray)] from rfl) (Reps.one (show Kd.M Kd.string _ _ _ (⟨#[47]⟩:ByteArray) [.string (⟨#[47]⟩:ByteArray)] from rfl) (Reps.one (show Kd.M Kd.string _ _ _ (⟨#[37]⟩:ByteArray) [.string (⟨#[37]⟩:ByteArray)] from rfl) (Reps.one (show Kd.M Kd.string _ _ _ (⟨#[38]⟩:ByteArray) [.string (⟨#[38]⟩:ByteArray)] from rfl) (Reps.one (show Kd.M Kd.string _ _ _ (⟨#[94]⟩:ByteArray) [.string (⟨#[94]⟩:ByteArray)] from rfl) (Reps.one (show Kd.M Kd.string _ _ _ (⟨#[124]⟩:ByteArray) [.string (⟨#[124]⟩:ByteArray)] from rfl) (Reps.one (show Kd.M Kd.string _ _ _ (⟨#[60,60]⟩:ByteArray) [.string (⟨#[60,60]⟩:ByteArray)] from rfl) (Reps.one (show Kd.M Kd.string _ _ _ (⟨#[62,62]⟩:ByteArray) [.string (⟨#[62,62]⟩:ByteArray)] from rfl) (Reps.none _ _))))))))))))))))))));intro v133 w1 ho2 hb hg_ hnew_;clear hg_ hnew_;(first | rw [← Ny132.out] at ho2 | (simp only [Int.reduceToNat] at ho2;rw [← Ny132.out] at ho2));have n0_:=Aside0.mk (Kd.R_lower ho2 (below_size (by repeat (first | (with_reducible first | exact HB.out | apply below_alloc | apply pw_below_drewN | apply below_drew1) | exact HB.out))));have n1_:=Aside0.mk (below_step (by repeat (first | (with_reducible first | exact HB.out | apply below_alloc | apply pw_below_drewN | apply below_drew1) | exact HB.out)) hb);clear HB;have HO134:=n0_;have HB:=n1_;clear n0_ n1_;clear hb ho2))
 go_ret
 exact ⟨_,by first | rfl | (simp [errW_none,errW_some] <;> rfl) | (simp [*,errW_none,errW_some] <;> rfl) | (exfalso;simp_all;done),by (with_reducible repeat (first | apply Kd.R_alloc | apply Kd.R_drewN | apply Kd.R_drew));exact HO134.out,by repeat (first | (with_reducible first | exact HB.out | apply below_alloc | apply pw_below_drewN | apply below_drew1) | exact HB.out)⟩
/-! ### spec_l2Level: function 47 -/
mutual
def spec_l2Level.j0:Nat → Int → Bool → Option (Int)
 | 0,_,_ => none
 | k + 1,x3,x4 => if x4 = true then (some 6) else (if x3 = 8 then (spec_l2Level.j1 k x3 (x3 == 8)) else (spec_l2Level.j1 k x3 (x3 == 9)))
def spec_l2Level.j1:Nat → Int → Bool → Option (Int)
 | 0,_,_ => none
 | k + 1,x3,x8 => if x8 = true then (some 5) else (if x3 = 16 then (spec_l2Level.j2 k x3 (x3 == 16)) else (spec_l2Level.j2 k x3 (x3 == 17)))
def spec_l2Level.j2:Nat → Int → Bool → Option (Int)
 | 0,_,_ => none
 | k + 1,x3,x11 => if x11 = true then (some 4) else (if x3 = 13 then (some 3) else (if x3 = 14 then (some 2) else (some 1)))
end
def spec_l2Level.f (k:Nat) (a0:Int):Option (Int):=if a0 = 10 then (spec_l2Level.j0 k a0 (a0 == 10)) else (if a0 = 11 then (spec_l2Level.j0 k a0 (a0 == 11)) else (spec_l2Level.j0 k a0 (a0 == 12)))
theorem spec_l2Level.mono_l:∀ k,(∀ y0 y1,LeO (spec_l2Level.j0 k y0 y1) (spec_l2Level.j0 (k + 1) y0 y1)) ∧ (∀ y0 y1,LeO (spec_l2Level.j1 k y0 y1) (spec_l2Level.j1 (k + 1) y0 y1)) ∧ (∀ y0 y1,LeO (spec_l2Level.j2 k y0 y1) (spec_l2Level.j2 (k + 1) y0 y1))
 | 0 => ⟨fun _ _ r h => by simp [spec_l2Level.j0] at h,fun _ _ r h => by simp [spec_l2Level.j1] at h,fun _ _ r h => by simp [spec_l2Level.j2] at h⟩
 | k + 1 => by
  obtain ⟨ih0,ih1,ih2⟩:=spec_l2Level.mono_l k
  refine ⟨?_,?_,?_⟩
  ·intro y0 y1
   unfold spec_l2Level.j0
   repeat' first
   | (with_reducible exact ih0 _ _)
   | (with_reducible exact ih1 _ _)
   | (with_reducible exact ih2 _ _)
   | (with_reducible exact LeO.refl _)
   | (with_reducible exact LeO.none _)
   | (with_reducible refine LeO.ite ?_ ?_)
   | (with_reducible refine LeO.bind ?_ (fun _ => ?_))
   | exact ih0 _ _
   | exact ih1 _ _
   | exact ih2 _ _
   | exact LeO.none _
   | refine LeO.ite ?_ ?_
   | refine LeO.bind ?_ (fun _ => ?_)
  ·intro y0 y1
   unfold spec_l2Level.j1
   repeat' first
   | (with_reducible exact ih0 _ _)
   | (with_reducible exact ih1 _ _)
   | (with_reducible exact ih2 _ _)
   | (with_reducible exact LeO.refl _)
   | (with_reducible exact LeO.none _)
   | (with_reducible refine LeO.ite ?_ ?_)
   | (with_reducible refine LeO.bind ?_ (fun _ => ?_))
   | exact ih0 _ _
   | exact ih1 _ _
   | exact ih2 _ _
   | exact LeO.none _
   | refine LeO.ite ?_ ?_
   | refine LeO.bind ?_ (fun _ => ?_)
  ·intro y0 y1
   unfold spec_l2Level.j2
   repeat' first
   | (with_reducible exact ih0 _ _)
   | (with_reducible exact ih1 _ _)
   | (with_reducible exact ih2 _ _)
   | (with_reducible exact LeO.refl _)
   | (with_reducible exact LeO.none _)
   | (with_reducible refine LeO.ite ?_ ?_)
   | (with_reducible refine LeO.bind ?_ (fun _ => ?_))
   | exact ih0 _ _
   | exact ih1 _ _
   | exact ih2 _ _
   | exact LeO.none _
   | refine LeO.ite ?_ ?_
   | refine LeO.bind ?_ (fun _ => ?_)
theorem spec_l2Level.mono:∀ a0 k,LeO (spec_l2Level.f k a0) (spec_l2Level.f (k + 1) a0):=by
 intro a0 k
 obtain ⟨ih0,ih1,ih2⟩:=spec_l2Level.mono_l k
 unfold spec_l2Level.f
 repeat' first
   | (with_reducible exact ih0 _ _)
   | (with_reducible exact ih1 _ _)
   | (with_reducible exact ih2 _ _)
   | (with_reducible exact LeO.refl _)
   | (with_reducible exact LeO.none _)
   | (with_reducible refine LeO.ite ?_ ?_)
   | (with_reducible refine LeO.bind ?_ (fun _ => ?_))
   | exact ih0 _ _
   | exact ih1 _ _
   | exact ih2 _ _
   | exact LeO.none _
   | refine LeO.ite ?_ ?_
   | refine LeO.bind ?_ (fun _ => ?_)
set_option maxHeartbeats 8000000 in
set_option maxRecDepth 100000 in
theorem spec_l2Level.calls (k:Nat) (a0:Int) (r:Int) (w:World) (h:spec_l2Level.f k a0 = some r) :
  Calls Try.prog 47 #[.int .i64 a0] w fun e w' => e = .returned (.int .i64 r) ∧ Drawn0 w w':=by
 have H:(if a0 = 10 then (spec_l2Level.j0 k a0 (a0 == 10)) else (if a0 = 11 then (spec_l2Level.j0 k a0 (a0 == 11)) else (spec_l2Level.j0 k a0 (a0 == 12)))) = some r:=h
 clear h
 have HC2:=Aside0.mk H
 clear H
 go_enter Try.func47,Try.ntmps47
 go_upto_if 4 with (fail)
 go_cut [4] (fun v4 wc => ∃ (kq:Nat) (x4_1:Bool),v4 = .bool x4_1 ∧ Aside0 (spec_l2Level.j0 kq a0 x4_1 = some r) ∧ Aside0 (kq ≤ k) ∧ Drawn0 w wc)
 case first =>
  have H:=HC2.out
  clear HC2
  by_cases c3:a0 = 10
  ·rw [if_pos c3] at H
   have c3b0:(a0 == 10) = true:=beq_iff_eq.mpr c3
   have c3b1:(a0 != 10) = false:=bne_eq_false_iff_eq.mpr c3
   clear c3
   (first | rw [c3b0] | (simp only [i64_w,i32_w];rw [c3b0]) | rw [c3b9] | skip)
   have H':=Aside0.mk H
   clear H
   go_wp2
   go_meet
   case rel => exact ⟨_,((a0 == 10)),(by first | rfl | (simp;done) | (simp [*];done) | (simp;decide +kernel) | (simp [wrap64];done) | (simp [bne];done)),H',⟨by first | omega | exact Nat.le_refl _⟩,by repeat (first | exact Drawn0.refl _ | apply Drawn0.step)⟩
  ·rw [if_neg c3] at H
   have c3b0:(a0 == 10) = false:=beq_eq_false_iff_ne.mpr c3
   have c3b1:(a0 != 10) = true:=bne_iff_ne.mpr c3
   (first | rw [c3b0] | (simp only [i64_w,i32_w];rw [c3b0]) | rw [c3b9] | skip)
   by_cases c4:a0 = 11
   ·rw [if_pos c4] at H
    have c4b0:(a0 == 11) = true:=beq_iff_eq.mpr c4
    have c4b1:(a0 != 11) = false:=bne_eq_false_iff_eq.mpr c4
    clear c4
    have H':=Aside0.mk H
    clear H
    go_wp2
    go_meet
    case rel => exact ⟨_,((a0 == 11)),(by first | rfl | (simp;done) | (simp [*];done) | (simp;decide +kernel) | (simp [wrap64];done) | (simp [bne];done)),H',⟨by first | omega | exact Nat.le_refl _⟩,by repeat (first | exact Drawn0.refl _ | apply Drawn0.step)⟩
   ·rw [if_neg c4] at H
    have c4b0:(a0 == 11) = false:=beq_eq_false_iff_ne.mpr c4
    have c4b1:(a0 != 11) = true:=bne_iff_ne.mpr c4
    have H':=Aside0.mk H
    clear H
    go_wp2
    go_meet
    case rel => exact ⟨_,((a0 == 12)),(by first | rfl | (simp;done) | (simp [*];done) | (simp;decide +kernel) | (simp [wrap64];done) | (simp [bne];done)),H',⟨by first | omega | exact Nat.le_refl _⟩,by repeat (first | exact Drawn0.refl _ | apply Drawn0.step)⟩
 case rest =>
  clear HC2
  try clear p2
  try clear c3
  try clear c3b0
  try clear c3b1
  try clear c4
  try clear c4b0
  try clear c4b1
  obtain ⟨kq,x4_1,rfl,HA,HJ1,⟨mc1,rfl⟩⟩:=hcut
  cases kq with
  | zero => exact absurd HA.out (by simp [spec_l2Level.j0])
  | succ kj1 =>
   have H:=HA.out
   clear HA
   simp only [spec_l2Level.j0] at H
   by_cases c5:x4_1 = true
   ·subst c5
    have H1:(some 6) = some r:=by rw [if_pos rfl] at H;exact H
    clear H
    have H:=H1
    clear H1
    obtain rfl:=Option.some.inj H
    go_wp2
    go_ret
    exact ⟨by first | rfl | (simp;done) | (simp [*];done) | (simp;decide +kernel) | (simp [wrap64];done) | (simp [bne];done),by repeat (first | exact Drawn0.refl _ | apply Drawn0.step)⟩
   ·replace c5:=Bool.eq_false_iff.mpr c5
    subst c5
    have H1:(if a0 = 8 then (spec_l2Level.j1 kj1 a0 (a0 == 8)) else (spec_l2Level.j1 kj1 a0 (a0 == 9))) = some r:=by rw [if_neg (show ¬ (false = true) by decide)] at H;exact H
    clear H
    have H:=H1
    clear H1
    have HC6:=Aside0.mk H
    clear H
    go_upto_if 8 with (fail)
    go_cut [8] (fun v8 wc => ∃ (kq:Nat) (x8_5:Bool),v8 = .bool x8_5 ∧ Aside0 (spec_l2Level.j1 kq a0 x8_5 = some r) ∧ Aside0 (kq ≤ kj1) ∧ Drawn0 w wc)
    case first =>
     have H:=HC6.out
     clear HC6
     by_cases c7:a0 = 8
     ·rw [if_pos c7] at H
      have c7b0:(a0 == 8) = true:=beq_iff_eq.mpr c7
      have c7b1:(a0 != 8) = false:=bne_eq_false_iff_eq.mpr c7
      clear c7
      (first | rw [c7b0] | (simp only [i64_w,i32_w];rw [c7b0]) | rw [c7b9] | skip)
      have H':=Aside0.mk H
      clear H
      go_wp2
      go_meet
      case rel => exact ⟨_,((a0 == 8)),(by first | rfl | (simp;done) | (simp [*];done) | (simp;decide +kernel) | (simp [wrap64];done) | (simp [bne];done)),H',⟨by have:=HJ1.out;first | omega | exact Nat.le_refl _⟩,by repeat (first | exact Drawn0.refl _ | apply Drawn0.step)⟩
     ·rw [if_neg c7] at H
      have c7b0:(a0 == 8) = false:=beq_eq_false_iff_ne.mpr c7
      have c7b1:(a0 != 8) = true:=bne_iff_ne.mpr c7
      (first | rw [c7b0] | (simp only [i64_w,i32_w];rw [c7b0]) | rw [c7b9] | skip)
      have H':=Aside0.mk H
      clear H
      go_wp2
      go_meet
      case rel => exact ⟨_,((a0 == 9)),(by first | rfl | (simp;done) | (simp [*];done) | (simp;decide +kernel) | (simp [wrap64];done) | (simp [bne];done)),H',⟨by have:=HJ1.out;first | omega | exact Nat.le_refl _⟩,by repeat (first | exact Drawn0.refl _ | apply Drawn0.step)⟩
    case rest =>
     clear HC6
     try clear c1
     try clear p2
     try clear c3
     try clear c3b0
     try clear c3b1
     try clear c4
     try clear c4b0
     try clear c4b1
     try clear c5
     try clear p6
     try clear c7
     try clear c7b0
     try clear c7b1
     try clear p2
     obtain ⟨kq,x8_5,rfl,HA,HJ5,⟨mc5,rfl⟩⟩:=hcut
     cases kq with
     | zero => exact absurd HA.out (by simp [spec_l2Level.j1])
     | succ kj5 =>
      have H:=HA.out
      clear HA
      simp only [spec_l2Level.j1] at H
      by_cases c8:x8_5 = true
      ·subst c8
       have H1:(some 5) = some r:=by rw [if_pos rfl] at H;exact H
       clear H
       have H:=H1
       clear H1
       obtain rfl:=Option.some.inj H
       go_wp2
       go_ret
       exact ⟨by first | rfl | (simp;done) | (simp [*];done) | (simp;decide +kernel) | (simp [wrap64];done) | (simp [bne];done),by repeat (first | exact Drawn0.refl _ | apply Drawn0.step)⟩
      ·replace c8:=Bool.eq_false_iff.mpr c8
       subst c8
       have H1:(if a0 = 16 then (spec_l2Level.j2 kj5 a0 (a0 == 16)) else (spec_l2Level.j2 kj5 a0 (a0 == 17))) = some r:=by rw [if_neg (show ¬ (false = true) by decide)] at H;exact H
       clear H
       have H:=H1
       clear H1
       have HC9:=Aside0.mk H
       clear H
       go_upto_if 11 with (fail)
       go_cut [11] (fun v11 wc => ∃ (kq:Nat) (x11_8:Bool),v11 = .bool x11_8 ∧ Aside0 (spec_l2Level.j2 kq a0 x11_8 = some r) ∧ Aside0 (kq ≤ kj5) ∧ Drawn0 w wc)
       case first =>
        have H:=HC9.out
        clear HC9
        by_cases c10:a0 = 16
        ·rw [if_pos c10] at H
         have c10b0:(a0 == 16) = true:=beq_iff_eq.mpr c10
         have c10b1:(a0 != 16) = false:=bne_eq_false_iff_eq.mpr c10
         clear c10
         (first | rw [c10b0] | (simp only [i64_w,i32_w];rw [c10b0]) | rw [c10b9] | skip)
         have H':=Aside0.mk H
         clear H
         go_wp2
         go_meet
         case rel => exact ⟨_,((a0 == 16)),(by first | rfl | (simp;done) | (simp [*];done) | (simp;decide +kernel) | (simp [wrap64];done) | (simp [bne];done)),H',⟨by have:=HJ1.out;have:=HJ5.out;first | omega | exact Nat.le_refl _⟩,by repeat (first | exact Drawn0.refl _ | apply Drawn0.step)⟩
        ·rw [if_neg c10] at H
         have c10b0:(a0 == 16) = false:=beq_eq_false_iff_ne.mpr c10
         have c10b1:(a0 != 16) = true:=bne_iff_ne.mpr c10
         (first | rw [c10b0] | (simp only [i64_w,i32_w];rw [c10b0]) | rw [c10b9] | skip)
         have H':=Aside0.mk H
         clear H
         go_wp2
         go_meet
         case rel => exact ⟨_,((a0 == 17)),(by first | rfl | (simp;done) | (simp [*];done) | (simp;decide +kernel) | (simp [wrap64];done) | (simp [bne];done)),H',⟨by have:=HJ1.out;have:=HJ5.out;first | omega | exact Nat.le_refl _⟩,by repeat (first | exact Drawn0.refl _ | apply Drawn0.step)⟩
       case rest =>
        clear HC9
        try clear c1
        try clear p2
        try clear c3
        try clear c3b0
        try clear c3b1
        try clear c4
        try clear c4b0
        try clear c4b1
        try clear c5
        try clear p6
        try clear c7
        try clear c7b0
        try clear c7b1
        try clear c8
        try clear c10
        try clear c10b0
        try clear c10b1
        try clear p2
        try clear p6
        obtain ⟨kq,x11_8,rfl,HA,HJ8,⟨mc8,rfl⟩⟩:=hcut
        cases kq with
        | zero => exact absurd HA.out (by simp [spec_l2Level.j2])
        | succ kj8 =>
         have H:=HA.out
         clear HA
         simp only [spec_l2Level.j2] at H
         by_cases c11:x11_8 = true
         ·subst c11
          have H1:(some 4) = some r:=by rw [if_pos rfl] at H;exact H
          clear H
          have H:=H1
          clear H1
          obtain rfl:=Option.some.inj H
          go_wp2
          go_ret
          exact ⟨by first | rfl | (simp;done) | (simp [*];done) | (simp;decide +kernel) | (simp [wrap64];done) | (simp [bne];done),by repeat (first | exact Drawn0.refl _ | apply Drawn0.step)⟩
         ·replace c11:=Bool.eq_false_iff.mpr c11
          subst c11
          have H1:(if a0 = 13 then (some 3) else (if a0 = 14 then (some 2) else (some 1))) = some r:=by rw [if_neg (show ¬ (false = true) by decide)] at H;exact H
          clear H
          have H:=H1
          clear H1
          by_cases c12:a0 = 13
          ·rw [if_pos c12] at H
           have c12b0:(a0 == 13) = true:=beq_iff_eq.mpr c12
           have c12b1:(a0 != 13) = false:=bne_eq_false_iff_eq.mpr c12
           clear c12
           obtain rfl:=Option.some.inj H
           go_wp2
           go_ret
           exact ⟨by first | rfl | (simp;done) | (simp [*];done) | (simp;decide +kernel) | (simp [wrap64];done) | (simp [bne];done),by repeat (first | exact Drawn0.refl _ | apply Drawn0.step)⟩
          ·rw [if_neg c12] at H
           have c12b0:(a0 == 13) = false:=beq_eq_false_iff_ne.mpr c12
           have c12b1:(a0 != 13) = true:=bne_iff_ne.mpr c12
           by_cases c13:a0 = 14
           ·rw [if_pos c13] at H
            have c13b0:(a0 == 14) = true:=beq_iff_eq.mpr c13
            have c13b1:(a0 != 14) = false:=bne_eq_false_iff_eq.mpr c13
            clear c13
            obtain rfl:=Option.some.inj H
            go_wp2
            go_ret
            exact ⟨by first | rfl | (simp;done) | (simp [*];done) | (simp;decide +kernel) | (simp [wrap64];done) | (simp [bne];done),by repeat (first | exact Drawn0.refl _ | apply Drawn0.step)⟩
           ·rw [if_neg c13] at H
            have c13b0:(a0 == 14) = false:=beq_eq_false_iff_ne.mpr c13
            have c13b1:(a0 != 14) = true:=bne_iff_ne.mpr c13
            obtain rfl:=Option.some.inj H
            go_wp2
            go_ret
            exact ⟨by first | rfl | (simp;done) | (simp [*];done) | (simp;decide +kernel) | (simp [wrap64];done) | (simp [bne];done),by repeat (first | exact Drawn0.refl _ | apply Drawn0.step)⟩
-- NOT PRINTED: function 34 (spec_l2P_level)
-- NOT PRINTED: function 17 (spec_Compiled)
/-! ### spec_l1In: function 41 -/
def spec_l1In.f (a0:Int) (a1:Int) (a2:Int):Option (Bool):=if a0 ≥ a1 then (some (decide (a0 ≤ a2))) else (some false)
set_option maxHeartbeats 8000000 in
set_option maxRecDepth 100000 in
theorem spec_l1In.calls (a0:Int) (a1:Int) (a2:Int) (r:Bool) (w:World) (h:spec_l1In.f a0 a1 a2 = some r) :
  Calls Try.prog 41 #[.int .i64 a0,.int .i64 a1,.int .i64 a2] w fun e w' => e = .returned (.bool r) ∧ Drawn0 w w':=by
 have H:(if a0 ≥ a1 then (some (decide (a0 ≤ a2))) else (some false)) = some r:=h
 clear h
 by_cases c4:a0 ≥ a1
 ·rw [if_pos c4] at H
  have c4b0:decide (a1 ≤ a0) = true:=decide_eq_true c4
  clear c4
  obtain rfl:=Option.some.inj H
  go_enter Try.func41,Try.ntmps41
  go_wp2
  go_ret
  exact ⟨by first | rfl | (simp;done) | (simp [*];done) | (simp;decide +kernel) | (simp [wrap64];done) | (simp [bne];done),by repeat (first | exact Drawn0.refl _ | apply Drawn0.step)⟩
 ·rw [if_neg c4] at H
  have c4b0:decide (a1 ≤ a0) = false:=decide_eq_false c4
  clear c4
  obtain rfl:=Option.some.inj H
  go_enter Try.func41,Try.ntmps41
  go_wp2
  go_ret
  exact ⟨by first | rfl | (simp;done) | (simp [*];done) | (simp;decide +kernel) | (simp [wrap64];done) | (simp [bne];done),by repeat (first | exact Drawn0.refl _ | apply Drawn0.step)⟩
/-! ### spec_l2Takes: function 28 -/
def spec_l2Takes.f (a0:Int):Option (Int):=(spec_l1In.f a0 1 3).bind fun t102 => (if t102 = true then (some 0) else ((spec_l1In.f a0 4 7).bind fun t103 => (if t103 = true then (some 1) else ((spec_l1In.f a0 8 17).bind fun t104 => (if t104 = true then (some 2) else (some (-1)))))))
set_option maxHeartbeats 8000000 in
set_option maxRecDepth 100000 in
theorem spec_l2Takes.calls (a0:Int) (r:Int) (w:World) (h:spec_l2Takes.f a0 = some r) :
  Calls Try.prog 28 #[.int .i64 a0] w fun e w' => e = .returned (.int .i64 r) ∧ Drawn0 w w':=by
 have H:((spec_l1In.f a0 1 3).bind fun t102 => (if t102 = true then (some 0) else ((spec_l1In.f a0 4 7).bind fun t103 => (if t103 = true then (some 1) else ((spec_l1In.f a0 8 17).bind fun t104 => (if t104 = true then (some 2) else (some (-1)))))))) = some r:=h
 clear h
 replace H:=Option.bind_eq_some_iff.mp H
 obtain ⟨t102,A20,H⟩:=H
 replace H:(if t102 = true then (some 0) else ((spec_l1In.f a0 4 7).bind fun t103 => (if t103 = true then (some 1) else ((spec_l1In.f a0 8 17).bind fun t104 => (if t104 = true then (some 2) else (some (-1))))))) = some r:=H
 have A2:=Aside0.mk A20
 clear A20
 by_cases c3:t102 = true
 ·subst c3
  have H1:(some 0) = some r:=by rw [if_pos rfl] at H;exact H
  clear H
  have H:=H1
  clear H1
  obtain rfl:=Option.some.inj H
  go_enter Try.func28,Try.ntmps28
  go_wp2_with (first | ((with_reducible refine gate_callee (f:=41) rfl ?_);refine goesL_ (some 5) rfl rfl Try.func41 (by kernel_rfl) rfl #[.int .i64 a0,.int .i64 1,.int .i64 3] rfl (by (try simp only [List.map_toArray,List.map_cons,List.map_nil]);first | done | rfl | (simp only [List.length_drop,List.length_take];rfl)) ?_;(with_reducible refine (spec_l1In.calls a0 1 3 true _ A2.out).mono ?_);rintro e w' ⟨rfl,⟨nd,rfl⟩⟩;refine ⟨_,rfl,?_⟩))
  go_ret
  exact ⟨by first | rfl | (simp;done) | (simp [*];done) | (simp;decide +kernel) | (simp [wrap64];done) | (simp [bne];done),by repeat (first | exact Drawn0.refl _ | apply Drawn0.step)⟩
 ·replace c3:=Bool.eq_false_iff.mpr c3
  subst c3
  have H1:((spec_l1In.f a0 4 7).bind fun t103 => (if t103 = true then (some 1) else ((spec_l1In.f a0 8 17).bind fun t104 => (if t104 = true then (some 2) else (some (-1)))))) = some r:=by rw [if_neg (show ¬ (false = true) by decide)] at H;exact H
  clear H
  have H:=H1
  clear H1
  replace H:=Option.bind_eq_some_iff.mp H
  obtain ⟨t103,A40,H⟩:=H
  replace H:(if t103 = true then (some 1) else ((spec_l1In.f a0 8 17).bind fun t104 => (if t104 = true then (some 2) else (some (-1))))) = some r:=H
  have A4:=Aside0.mk A40
  clear A40
  by_cases c5:t103 = true
  ·subst c5
   have H1:(some 1) = some r:=by rw [if_pos rfl] at H;exact H
   clear H
   have H:=H1
   clear H1
   obtain rfl:=Option.some.inj H
   go_enter Try.func28,Try.ntmps28
   go_wp2_with (first | ((with_reducible refine gate_callee (f:=41) rfl ?_);refine goesL_ (some 5) rfl rfl Try.func41 (by kernel_rfl) rfl #[.int .i64 a0,.int .i64 1,.int .i64 3] rfl (by (try simp only [List.map_toArray,List.map_cons,List.map_nil]);first | done | rfl | (simp only [List.length_drop,List.length_take];rfl)) ?_;(with_reducible refine (spec_l1In.calls a0 1 3 false _ A2.out).mono ?_);rintro e w' ⟨rfl,⟨nd,rfl⟩⟩;refine ⟨_,rfl,?_⟩) | ((with_reducible refine gate_callee (f:=41) rfl ?_);refine goesL_ (some 8) rfl rfl Try.func41 (by kernel_rfl) rfl #[.int .i64 a0,.int .i64 4,.int .i64 7] rfl (by (try simp only [List.map_toArray,List.map_cons,List.map_nil]);first | done | rfl | (simp only [List.length_drop,List.length_take];rfl)) ?_;(with_reducible refine (spec_l1In.calls a0 4 7 true _ A4.out).mono ?_);rintro e w' ⟨rfl,⟨nd,rfl⟩⟩;refine ⟨_,rfl,?_⟩))
   go_ret
   exact ⟨by first | rfl | (simp;done) | (simp [*];done) | (simp;decide +kernel) | (simp [wrap64];done) | (simp [bne];done),by repeat (first | exact Drawn0.refl _ | apply Drawn0.step)⟩
  ·replace c5:=Bool.eq_false_iff.mpr c5
   subst c5
   have H1:((spec_l1In.f a0 8 17).bind fun t104 => (if t104 = true then (some 2) else (some (-1)))) = some r:=by rw [if_neg (show ¬ (false = true) by decide)] at H;exact H
   clear H
   have H:=H1
   clear H1
   replace H:=Option.bind_eq_some_iff.mp H
   obtain ⟨t104,A60,H⟩:=H
   replace H:(if t104 = true then (some 2) else (some (-1))) = some r:=H
   have A6:=Aside0.mk A60
   clear A60
   by_cases c7:t104 = true
   ·subst c7
    have H1:(some 2) = some r:=by rw [if_pos rfl] at H;exact H
    clear H
    have H:=H1
    clear H1
    obtain rfl:=Option.some.inj H
    go_enter Try.func28,Try.ntmps28
    go_wp2_with (first | ((with_reducible refine gate_callee (f:=41) rfl ?_);refine goesL_ (some 5) rfl rfl Try.func41 (by kernel_rfl) rfl #[.int .i64 a0,.int .i64 1,.int .i64 3] rfl (by (try simp only [List.map_toArray,List.map_cons,List.map_nil]);first | done | rfl | (simp only [List.length_drop,List.length_take];rfl)) ?_;(with_reducible refine (spec_l1In.calls a0 1 3 false _ A2.out).mono ?_);rintro e w' ⟨rfl,⟨nd,rfl⟩⟩;refine ⟨_,rfl,?_⟩) | ((with_reducible refine gate_callee (f:=41) rfl ?_);refine goesL_ (some 8) rfl rfl Try.func41 (by kernel_rfl) rfl #[.int .i64 a0,.int .i64 4,.int .i64 7] rfl (by (try simp only [List.map_toArray,List.map_cons,List.map_nil]);first | done | rfl | (simp only [List.length_drop,List.length_take];rfl)) ?_;(with_reducible refine (spec_l1In.calls a0 4 7 false _ A4.out).mono ?_);rintro e w' ⟨rfl,⟨nd,rfl⟩⟩;refine ⟨_,rfl,?_⟩) | ((with_reducible refine gate_callee (f:=41) rfl ?_);refine goesL_ (some 11) rfl rfl Try.func41 (by kernel_rfl) rfl #[.int .i64 a0,.int .i64 8,.int .i64 17] rfl (by (try simp only [List.map_toArray,List.map_cons,List.map_nil]);first | done | rfl | (simp only [List.length_drop,List.length_take];rfl)) ?_;(with_reducible refine (spec_l1In.calls a0 8 17 true _ A6.out).mono ?_);rintro e w' ⟨rfl,⟨nd,rfl⟩⟩;refine ⟨_,rfl,?_⟩))
    go_ret
    exact ⟨by first | rfl | (simp;done) | (simp [*];done) | (simp;decide +kernel) | (simp [wrap64];done) | (simp [bne];done),by repeat (first | exact Drawn0.refl _ | apply Drawn0.step)⟩
   ·replace c7:=Bool.eq_false_iff.mpr c7
    subst c7
    have H1:(some (-1)) = some r:=by rw [if_neg (show ¬ (false = true) by decide)] at H;exact H
    clear H
    have H:=H1
    clear H1
    obtain rfl:=Option.some.inj H
    go_enter Try.func28,Try.ntmps28
    go_wp2_with (first | ((with_reducible refine gate_callee (f:=41) rfl ?_);refine goesL_ (some 5) rfl rfl Try.func41 (by kernel_rfl) rfl #[.int .i64 a0,.int .i64 1,.int .i64 3] rfl (by (try simp only [List.map_toArray,List.map_cons,List.map_nil]);first | done | rfl | (simp only [List.length_drop,List.length_take];rfl)) ?_;(with_reducible refine (spec_l1In.calls a0 1 3 false _ A2.out).mono ?_);rintro e w' ⟨rfl,⟨nd,rfl⟩⟩;refine ⟨_,rfl,?_⟩) | ((with_reducible refine gate_callee (f:=41) rfl ?_);refine goesL_ (some 8) rfl rfl Try.func41 (by kernel_rfl) rfl #[.int .i64 a0,.int .i64 4,.int .i64 7] rfl (by (try simp only [List.map_toArray,List.map_cons,List.map_nil]);first | done | rfl | (simp only [List.length_drop,List.length_take];rfl)) ?_;(with_reducible refine (spec_l1In.calls a0 4 7 false _ A4.out).mono ?_);rintro e w' ⟨rfl,⟨nd,rfl⟩⟩;refine ⟨_,rfl,?_⟩) | ((with_reducible refine gate_callee (f:=41) rfl ?_);refine goesL_ (some 11) rfl rfl Try.func41 (by kernel_rfl) rfl #[.int .i64 a0,.int .i64 8,.int .i64 17] rfl (by (try simp only [List.map_toArray,List.map_cons,List.map_nil]);first | done | rfl | (simp only [List.length_drop,List.length_take];rfl)) ?_;(with_reducible refine (spec_l1In.calls a0 8 17 false _ A6.out).mono ?_);rintro e w' ⟨rfl,⟨nd,rfl⟩⟩;refine ⟨_,rfl,?_⟩))
    go_ret
    exact ⟨by first | rfl | (simp;done) | (simp [*];done) | (simp;decide +kernel) | (simp [wrap64];done) | (simp [bne];done),by repeat (first | exact Drawn0.refl _ | apply Drawn0.step)⟩
/-! ### spec_l2Node: function 27 -/
def spec_l2Node.j0:Nat → Bool → Int → Int → ByteArray → Option (Bool)
 | 0,_,_,_,_ => none
 | k + 1,x15,x108000,x108001,x108002 => if x15 = true then (if x108001 = 0 then ((spec_NameOk.f k x108002).bind fun t109 => (some t109)) else (some false)) else (if x108001 = 0 then (if x108002.toList = ([]:List UInt8) then ((spec_l2Takes.f x108000).bind fun t110 => (some (decide (t110 > 0)))) else (some false)) else (some false))
def spec_l2Node.f (k:Nat) (a0_0:Int) (a0_1:Int) (a0_2:ByteArray):Option (Bool):=if a0_0 = 1 then ((spec_l1In.f a0_1 0 65535).bind fun t108 => (if t108 = true then (some (a0_2.toList == ([]:List UInt8))) else (some false))) else (if a0_0 = 2 then (spec_l2Node.j0 k (a0_0 == 2) a0_0 a0_1 a0_2) else (spec_l2Node.j0 k (a0_0 == 3) a0_0 a0_1 a0_2))
theorem spec_l2Node.mono_l:∀ k,(∀ y0 y1 y2 y3,LeO (spec_l2Node.j0 k y0 y1 y2 y3) (spec_l2Node.j0 (k + 1) y0 y1 y2 y3))
 | 0 => fun _ _ _ _ r h => by simp [spec_l2Node.j0] at h
 | k + 1 => by
  have ih0:=spec_l2Node.mono_l k
  ·intro y0 y1 y2 y3
   unfold spec_l2Node.j0
   repeat' first
   | (with_reducible exact ih0 _ _ _ _)
   | (with_reducible exact spec_NameOk.mono _ _)
   | (with_reducible exact LeO.refl _)
   | (with_reducible exact LeO.none _)
   | (with_reducible refine LeO.ite ?_ ?_)
   | (with_reducible refine LeO.bind ?_ (fun _ => ?_))
   | exact ih0 _ _ _ _
   | exact spec_NameOk.mono _ _
   | exact LeO.none _
   | refine LeO.ite ?_ ?_
   | refine LeO.bind ?_ (fun _ => ?_)
theorem spec_l2Node.mono:∀ a0 a1 a2 k,LeO (spec_l2Node.f k a0 a1 a2) (spec_l2Node.f (k + 1) a0 a1 a2):=by
 intro a0 a1 a2 k
 have ih0:=spec_l2Node.mono_l k
 unfold spec_l2Node.f
 repeat' first
   | (with_reducible exact ih0 _ _ _ _)
   | (with_reducible exact spec_NameOk.mono _ _)
   | (with_reducible exact LeO.refl _)
   | (with_reducible exact LeO.none _)
   | (with_reducible refine LeO.ite ?_ ?_)
   | (with_reducible refine LeO.bind ?_ (fun _ => ?_))
   | exact ih0 _ _ _ _
   | exact spec_NameOk.mono _ _
   | exact LeO.none _
   | refine LeO.ite ?_ ?_
   | refine LeO.bind ?_ (fun _ => ?_)
set_option maxHeartbeats 8000000 in
set_option maxRecDepth 100000 in
theorem spec_l2Node.calls (k:Nat) (a0_0:Int) (a0_1:Int) (a0_2:ByteArray) (r:Bool) (w:World) (h:spec_l2Node.f k a0_0 a0_1 a0_2 = some r) :
  Calls Try.prog 27 #[.agg #[.int .i64 a0_0,.int .i64 a0_1,.string a0_2]] w fun e w' => e = .returned (.bool r) ∧ Below w.heap.size w w':=by
 have hu45:=Try.underlying45
 have HB:=Aside0.mk (Below.refl w.heap.size w)
 have H:(if a0_0 = 1 then ((spec_l1In.f a0_1 0 65535).bind fun t108 => (if t108 = true then (some (a0_2.toList == ([]:List UInt8))) else (some false))) else (if a0_0 = 2 then (spec_l2Node.j0 k (a0_0 == 2) a0_0 a0_1 a0_2) else (spec_l2Node.j0 k (a0_0 == 3) a0_0 a0_1 a0_2))) = some r:=h
 clear h
 by_cases c2:a0_0 = 1
 ·rw [if_pos c2] at H
  have c2b0:(a0_0 == 1) = true:=beq_iff_eq.mpr c2
  have c2b1:(a0_0 != 1) = false:=bne_eq_false_iff_eq.mpr c2
  clear c2
  replace H:=Option.bind_eq_some_iff.mp H
  obtain ⟨t108,A30,H⟩:=H
  replace H:(if t108 = true then (some (a0_2.toList == ([]:List UInt8))) else (some false)) = some r:=H
  have A3:=Aside0.mk A30
  clear A30
  by_cases c4:t108 = true
  ·subst c4
   have H1:(some (a0_2.toList == ([]:List UInt8))) = some r:=by rw [if_pos rfl] at H;exact H
   clear H
   have H:=H1
   clear H1
   obtain rfl:=Option.some.inj H
   go_enter Try.func27,Try.ntmps27
   go_wp2_with (first | ((with_reducible refine gate_dst (N:=1) rfl ?_);refine box_event ?hg (N:=1) ?hd (cs:=#[.int .i64 a0_0,.int .i64 a0_1,.string a0_2]) (t:=45) ?hr ?_;(case hd => rfl);(case hg => rfl);(case hr => first | (go_simp;done) | (go_simp;rfl));intro gb107 hg w5 hbox hb;have n0_:=Aside0.mk (below_step (by repeat (first | (with_reducible first | exact HB.out | apply below_alloc | apply pw_below_drewN | apply below_drew1) | exact HB.out)) hb);have n1_:=Aside0.mk (hbox);have n2_:=Aside0.mk ((by rw [hg];exact (below_size (by repeat (first | (with_reducible first | exact HB.out | apply below_alloc | apply pw_below_drewN | apply below_drew1) | exact HB.out))):w.heap.size ≤ gb107));have n3_:=Aside0.mk ((by rw [hg];exact (below_size (by repeat (first | (with_reducible first | exact HB.out | apply below_alloc | apply pw_below_drewN | apply below_drew1) | exact HB.out))):w.heap.size ≤ gb107));clear HB;have HB:=n0_;have BK107:=n1_;have GW107:=n2_;have GE107:=n3_;clear n0_ n1_ n2_ n3_;clear hb hbox hg;have hcz6_0:w5.cell? ⟨gb107,0,none⟩ = some (.int .i64 a0_0):=(blk_cell BK107.out 0).trans rfl;have hcz6_1:w5.cell? ⟨gb107,1,none⟩ = some (.int .i64 a0_1):=(blk_cell BK107.out 1).trans rfl;have hcz6_2:w5.cell? ⟨gb107,2,none⟩ = some (.string a0_2):=(blk_cell BK107.out 2).trans rfl;have hfz6_0:=blk_frozen BK107.out 0;have hfz6_1:=blk_frozen BK107.out 1;have hfz6_2:=blk_frozen BK107.out 2) | ((with_reducible refine gate_callee (f:=41) rfl ?_);refine goesL_ (some 9) rfl rfl Try.func41 (by kernel_rfl) rfl #[.int .i64 a0_1,.int .i64 0,.int .i64 65535] rfl (by (try simp only [List.map_toArray,List.map_cons,List.map_nil]);first | done | rfl | (simp only [List.length_drop,List.length_take];rfl)) ?_;(with_reducible refine (spec_l1In.calls a0_1 0 65535 true _ A3.out).mono ?_);rintro e w' ⟨rfl,⟨nd,rfl⟩⟩;refine ⟨_,rfl,?_⟩))
   go_ret
   exact ⟨by first | rfl | (simp [errW_none,errW_some] <;> rfl) | (simp [*,errW_none,errW_some] <;> rfl) | (exfalso;simp_all;done),by repeat (first | (with_reducible first | exact HB.out | apply below_alloc | apply pw_below_drewN | apply below_drew1 | refine below_set ?_ GE107.out) | exact HB.out)⟩
  ·replace c4:=Bool.eq_false_iff.mpr c4
   subst c4
   have H1:(some false) = some r:=by rw [if_neg (show ¬ (false = true) by decide)] at H;exact H
   clear H
   have H:=H1
   clear H1
   obtain rfl:=Option.some.inj H
   go_enter Try.func27,Try.ntmps27
   go_wp2_with (first | ((with_reducible refine gate_dst (N:=1) rfl ?_);refine box_event ?hg (N:=1) ?hd (cs:=#[.int .i64 a0_0,.int .i64 a0_1,.string a0_2]) (t:=45) ?hr ?_;(case hd => rfl);(case hg => rfl);(case hr => first | (go_simp;done) | (go_simp;rfl));intro gb107 hg w7 hbox hb;have n0_:=Aside0.mk (below_step (by repeat (first | (with_reducible first | exact HB.out | apply below_alloc | apply pw_below_drewN | apply below_drew1) | exact HB.out)) hb);have n1_:=Aside0.mk (hbox);have n2_:=Aside0.mk ((by rw [hg];exact (below_size (by repeat (first | (with_reducible first | exact HB.out | apply below_alloc | apply pw_below_drewN | apply below_drew1) | exact HB.out))):w.heap.size ≤ gb107));have n3_:=Aside0.mk ((by rw [hg];exact (below_size (by repeat (first | (with_reducible first | exact HB.out | apply below_alloc | apply pw_below_drewN | apply below_drew1) | exact HB.out))):w.heap.size ≤ gb107));clear HB;have HB:=n0_;have BK107:=n1_;have GW107:=n2_;have GE107:=n3_;clear n0_ n1_ n2_ n3_;clear hb hbox hg;have hcz8_0:w7.cell? ⟨gb107,0,none⟩ = some (.int .i64 a0_0):=(blk_cell BK107.out 0).trans rfl;have hcz8_1:w7.cell? ⟨gb107,1,none⟩ = some (.int .i64 a0_1):=(blk_cell BK107.out 1).trans rfl;have hcz8_2:w7.cell? ⟨gb107,2,none⟩ = some (.string a0_2):=(blk_cell BK107.out 2).trans rfl;have hfz8_0:=blk_frozen BK107.out 0;have hfz8_1:=blk_frozen BK107.out 1;have hfz8_2:=blk_frozen BK107.out 2) | ((with_reducible refine gate_callee (f:=41) rfl ?_);refine goesL_ (some 9) rfl rfl Try.func41 (by kernel_rfl) rfl #[.int .i64 a0_1,.int .i64 0,.int .i64 65535] rfl (by (try simp only [List.map_toArray,List.map_cons,List.map_nil]);first | done | rfl | (simp only [List.length_drop,List.length_take];rfl)) ?_;(with_reducible refine (spec_l1In.calls a0_1 0 65535 false _ A3.out).mono ?_);rintro e w' ⟨rfl,⟨nd,rfl⟩⟩;refine ⟨_,rfl,?_⟩))
   go_ret
   exact ⟨by first | rfl | (simp [errW_none,errW_some] <;> rfl) | (simp [*,errW_none,errW_some] <;> rfl) | (exfalso;simp_all;done),by repeat (first | (with_reducible first | exact HB.out | apply below_alloc | apply pw_below_drewN | apply below_drew1 | refine below_set ?_ GE107.out) | exact HB.out)⟩
 ·rw [if_neg c2] at H
  have c2b0:(a0_0 == 1) = false:=beq_eq_false_iff_ne.mpr c2
  have c2b1:(a0_0 != 1) = true:=bne_iff_ne.mpr c2
  have HC9:=Aside0.mk H
  clear H
  go_enter Try.func27,Try.ntmps27
  go_upto_if 15 with (first | ((with_reducible refine gate_dst (N:=1) rfl ?_);refine box_event ?hg (N:=1) ?hd (cs:=#[.int .i64 a0_0,.int .i64 a0_1,.string a0_2]) (t:=45) ?hr ?_;(case hd => rfl);(case hg => rfl);(case hr => first | (go_simp;done) | (go_simp;rfl));intro gb107 hg w10 hbox hb;have n0_:=Aside0.mk (below_step (by repeat (first | (with_reducible first | exact HB.out | apply below_alloc | apply pw_below_drewN | apply below_drew1) | exact HB.out)) hb);have n1_:=Aside0.mk (hbox);have n2_:=Aside0.mk ((by rw [hg];exact (below_size (by repeat (first | (with_reducible first | exact HB.out | apply below_alloc | apply pw_below_drewN | apply below_drew1) | exact HB.out))):w.heap.size ≤ gb107));have n3_:=Aside0.mk ((by rw [hg];exact (below_size (by repeat (first | (with_reducible first | exact HB.out | apply below_alloc | apply pw_below_drewN | apply below_drew1) | exact HB.out))):w.heap.size ≤ gb107));clear HB;have HB:=n0_;have BK107:=n1_;have GW107:=n2_;have GE107:=n3_;clear n0_ n1_ n2_ n3_;clear hb hbox hg;have hcz11_0:w10.cell? ⟨gb107,0,none⟩ = some (.int .i64 a0_0):=(blk_cell BK107.out 0).trans rfl;have hcz11_1:w10.cell? ⟨gb107,1,none⟩ = some (.int .i64 a0_1):=(blk_cell BK107.out 1).trans rfl;have hcz11_2:w10.cell? ⟨gb107,2,none⟩ = some (.string a0_2):=(blk_cell BK107.out 2).trans rfl;have hfz11_0:=blk_frozen BK107.out 0;have hfz11_1:=blk_frozen BK107.out 1;have hfz11_2:=blk_frozen BK107.out 2))
  (try simp only [Act.put,List.setIfInBounds_toArray,List.set_cons_zero,List.set_cons_succ])
  go_cut [15] (fun v15 wc => ∃ (kq:Nat) (x15_8:Bool),v15 = .bool x15_8 ∧ Aside0 (spec_l2Node.j0 kq x15_8 a0_0 a0_1 a0_2 = some r) ∧ Aside0 (kq ≤ k) ∧ Aside0 (wc.heap[gb107]? = some (.cells #[.int .i64 a0_0,.int .i64 a0_1,.string a0_2] 45 (0,0))) ∧ Aside0 (Below w.heap.size w wc))
  case first =>
   have H:=HC9.out
   clear HC9
   by_cases c12:a0_0 = 2
   ·rw [if_pos c12] at H
    have c12b0:(a0_0 == 2) = true:=beq_iff_eq.mpr c12
    have c12b1:(a0_0 != 2) = false:=bne_eq_false_iff_eq.mpr c12
    clear c12
    (first | rw [c12b0] | (simp only [i64_w,i32_w];rw [c12b0]) | rw [c12b9] | skip)
    have H':=Aside0.mk H
    clear H
    go_wp2
    go_meet
    case rel => exact ⟨_,((a0_0 == 2)),(by first | rfl | (simp;done) | (simp [*];done) | (simp;decide +kernel) | (simp [wrap64];done) | (simp [bne];done)),H',⟨by first | omega | exact Nat.le_refl _⟩,⟨by (with_reducible repeat (first | refine blk_drewN ?_ _ | refine blk_drew ?_ | refine blk_alloc ?_ _));exact BK107.out⟩,⟨by repeat (first | (with_reducible first | exact HB.out | apply below_alloc | apply pw_below_drewN | apply below_drew1 | refine below_set ?_ GE107.out) | exact HB.out)⟩⟩
   ·rw [if_neg c12] at H
    have c12b0:(a0_0 == 2) = false:=beq_eq_false_iff_ne.mpr c12
    have c12b1:(a0_0 != 2) = true:=bne_iff_ne.mpr c12
    (first | rw [c12b0] | (simp only [i64_w,i32_w];rw [c12b0]) | rw [c12b9] | skip)
    have H':=Aside0.mk H
    clear H
    go_wp2
    go_meet
    case rel => exact ⟨_,((a0_0 == 3)),(by first | rfl | (simp;done) | (simp [*];done) | (simp;decide +kernel) | (simp [wrap64];done) | (simp [bne];done)),H',⟨by first | omega | exact Nat.le_refl _⟩,⟨by (with_reducible repeat (first | refine blk_drewN ?_ _ | refine blk_drew ?_ | refine blk_alloc ?_ _));exact BK107.out⟩,⟨by repeat (first | (with_reducible first | exact HB.out | apply below_alloc | apply pw_below_drewN | apply below_drew1 | refine below_set ?_ GE107.out) | exact HB.out)⟩⟩
  case rest =>
   clear HC9
   try clear c1
   try clear c2
   try clear c2b0
   try clear c2b1
   try clear p2
   try clear c4
   try clear p6
   try clear c12
   try clear c12b0
   try clear c12b1
   try clear hcz11_0
   try clear hcz11_1
   try clear hcz11_2
   try clear hcz6_0
   try clear hcz6_1
   try clear hcz6_2
   try clear hcz8_0
   try clear hcz8_1
   try clear hcz8_2
   try clear hfz11_0
   try clear hfz11_1
   try clear hfz11_2
   try clear hfz6_0
   try clear hfz6_1
   try clear hfz6_2
   try clear hfz8_0
   try clear hfz8_1
   try clear hfz8_2
   obtain ⟨kq,x15_8,rfl,HA,HJ8,BK107,HB⟩:=hcut
   cases kq with
   | zero => exact absurd HA.out (by simp [spec_l2Node.j0])
   | succ kj8 =>
    have H:=HA.out
    clear HA
    simp only [spec_l2Node.j0] at H
    by_cases c13:x15_8 = true
    ·subst c13
     have H1:(if a0_1 = 0 then ((spec_NameOk.f kj8 a0_2).bind fun t109 => (some t109)) else (some false)) = some r:=by rw [if_pos rfl] at H;exact H
     clear H
     have H:=H1
     clear H1
     by_cases c14:a0_1 = 0
     ·rw [if_pos c14] at H
      have c14b0:(a0_1 == 0) = true:=beq_iff_eq.mpr c14
      have c14b1:(a0_1 != 0) = false:=bne_eq_false_iff_eq.mpr c14
      clear c14
      replace H:=Option.bind_eq_some_iff.mp H
      obtain ⟨t109,A150,H⟩:=H
      replace H:(some t109) = some r:=H
      have A15:=Aside0.mk A150
      clear A150
      obtain rfl:=Option.some.inj H
      have hcz16_0:wc.cell? ⟨gb107,0,none⟩ = some (.int .i64 a0_0):=(blk_cell BK107.out 0).trans rfl
      have hcz16_1:wc.cell? ⟨gb107,1,none⟩ = some (.int .i64 a0_1):=(blk_cell BK107.out 1).trans rfl
      have hcz16_2:wc.cell? ⟨gb107,2,none⟩ = some (.string a0_2):=(blk_cell BK107.out 2).trans rfl
      have hfz16_0:=blk_frozen BK107.out 0
      have hfz16_1:=blk_frozen BK107.out 1
      have hfz16_2:=blk_frozen BK107.out 2
      go_wp2_with (first | (go_at_call 42;(with_reducible refine (spec_NameOk.calls kj8 a0_2 t109 _ A15.out).mono ?_);rintro e w' ⟨rfl,⟨nd,rfl⟩⟩))
      go_ret
      exact ⟨by first | rfl | (simp [errW_none,errW_some] <;> rfl) | (simp [*,errW_none,errW_some] <;> rfl) | (exfalso;simp_all;done),by repeat (first | (with_reducible first | exact HB.out | apply below_alloc | apply pw_below_drewN | apply below_drew1 | refine below_set ?_ GE107.out) | exact HB.out)⟩
     ·rw [if_neg c14] at H
      have c14b0:(a0_1 == 0) = false:=beq_eq_false_iff_ne.mpr c14
      have c14b1:(a0_1 != 0) = true:=bne_iff_ne.mpr c14
      obtain rfl:=Option.some.inj H
      have hcz17_0:wc.cell? ⟨gb107,0,none⟩ = some (.int .i64 a0_0):=(blk_cell BK107.out 0).trans rfl
      have hcz17_1:wc.cell? ⟨gb107,1,none⟩ = some (.int .i64 a0_1):=(blk_cell BK107.out 1).trans rfl
      have hcz17_2:wc.cell? ⟨gb107,2,none⟩ = some (.string a0_2):=(blk_cell BK107.out 2).trans rfl
      have hfz17_0:=blk_frozen BK107.out 0
      have hfz17_1:=blk_frozen BK107.out 1
      have hfz17_2:=blk_frozen BK107.out 2
      go_wp2
      go_ret
      exact ⟨by first | rfl | (simp [errW_none,errW_some] <;> rfl) | (simp [*,errW_none,errW_some] <;> rfl) | (exfalso;simp_all;done),by repeat (first | (with_reducible first | exact HB.out | apply below_alloc | apply pw_below_drewN | apply below_drew1 | refine below_set ?_ GE107.out) | exact HB.out)⟩
    ·replace c13:=Bool.eq_false_iff.mpr c13
     subst c13
     have H1:(if a0_1 = 0 then (if a0_2.toList = ([]:List UInt8) then ((spec_l2Takes.f a0_0).bind fun t110 => (some (decide (t110 > 0)))) else (some false)) else (some false)) = some r:=by rw [if_neg (show ¬ (false = true) by decide)] at H;exact H
     clear H
     have H:=H1
     clear H1
     by_cases c18:a0_1 = 0
     ·rw [if_pos c18] at H
      have c18b0:(a0_1 == 0) = true:=beq_iff_eq.mpr c18
      have c18b1:(a0_1 != 0) = false:=bne_eq_false_iff_eq.mpr c18
      clear c18
      by_cases c19:a0_2.toList = ([]:List UInt8)
      ·rw [if_pos c19] at H
       have c19b0:(a0_2.toList == ([]:List UInt8)) = true:=beq_iff_eq.mpr c19
       have c19b1:(a0_2.toList != ([]:List UInt8)) = false:=bne_eq_false_iff_eq.mpr c19
       have c19b9:a0_2.toList.isEmpty = true:=(isEmpty_beq _).trans c19b0
       clear c19
       replace H:=Option.bind_eq_some_iff.mp H
       obtain ⟨t110,A200,H⟩:=H
       replace H:(some (decide (t110 > 0))) = some r:=H
       have A20:=Aside0.mk A200
       clear A200
       obtain rfl:=Option.some.inj H
       have hcz21_0:wc.cell? ⟨gb107,0,none⟩ = some (.int .i64 a0_0):=(blk_cell BK107.out 0).trans rfl
       have hcz21_1:wc.cell? ⟨gb107,1,none⟩ = some (.int .i64 a0_1):=(blk_cell BK107.out 1).trans rfl
       have hcz21_2:wc.cell? ⟨gb107,2,none⟩ = some (.string a0_2):=(blk_cell BK107.out 2).trans rfl
       have hfz21_0:=blk_frozen BK107.out 0
       have hfz21_1:=blk_frozen BK107.out 1
       have hfz21_2:=blk_frozen BK107.out 2
       go_wp2_with (first | (go_at_call 28;(with_reducible refine (spec_l2Takes.calls a0_0 t110 _ A20.out).mono ?_);rintro e w' ⟨rfl,⟨nd,rfl⟩⟩))
       go_ret
       exact ⟨by first | rfl | (simp [errW_none,errW_some] <;> rfl) | (simp [*,errW_none,errW_some] <;> rfl) | (exfalso;simp_all;done),by repeat (first | (with_reducible first | exact HB.out | apply below_alloc | apply pw_below_drewN | apply below_drew1 | refine below_set ?_ GE107.out) | exact HB.out)⟩
      ·rw [if_neg c19] at H
       have c19b0:(a0_2.toList == ([]:List UInt8)) = false:=beq_eq_false_iff_ne.mpr c19
       have c19b1:(a0_2.toList != ([]:List UInt8)) = true:=bne_iff_ne.mpr c19
       have c19b9:a0_2.toList.isEmpty = false:=(isEmpty_beq _).trans c19b0
       obtain rfl:=Option.some.inj H
       have hcz22_0:wc.cell? ⟨gb107,0,none⟩ = some (.int .i64 a0_0):=(blk_cell BK107.out 0).trans rfl
       have hcz22_1:wc.cell? ⟨gb107,1,none⟩ = some (.int .i64 a0_1):=(blk_cell BK107.out 1).trans rfl
       have hcz22_2:wc.cell? ⟨gb107,2,none⟩ = some (.string a0_2):=(blk_cell BK107.out 2).trans rfl
       have hfz22_0:=blk_frozen BK107.out 0
       have hfz22_1:=blk_frozen BK107.out 1
       have hfz22_2:=blk_frozen BK107.out 2
       go_wp2
       go_ret
       exact ⟨by first | rfl | (simp [errW_none,errW_some] <;> rfl) | (simp [*,errW_none,errW_some] <;> rfl) | (exfalso;simp_all;done),by repeat (first | (with_reducible first | exact HB.out | apply below_alloc | apply pw_below_drewN | apply below_drew1 | refine below_set ?_ GE107.out) | exact HB.out)⟩
     ·rw [if_neg c18] at H
      have c18b0:(a0_1 == 0) = false:=beq_eq_false_iff_ne.mpr c18
      have c18b1:(a0_1 != 0) = true:=bne_iff_ne.mpr c18
      obtain rfl:=Option.some.inj H
      have hcz23_0:wc.cell? ⟨gb107,0,none⟩ = some (.int .i64 a0_0):=(blk_cell BK107.out 0).trans rfl
      have hcz23_1:wc.cell? ⟨gb107,1,none⟩ = some (.int .i64 a0_1):=(blk_cell BK107.out 1).trans rfl
      have hcz23_2:wc.cell? ⟨gb107,2,none⟩ = some (.string a0_2):=(blk_cell BK107.out 2).trans rfl
      have hfz23_0:=blk_frozen BK107.out 0
      have hfz23_1:=blk_frozen BK107.out 1
      have hfz23_2:=blk_frozen BK107.out 2
      go_wp2
      go_ret
      exact ⟨by first | rfl | (simp [errW_none,errW_some] <;> rfl) | (simp [*,errW_none,errW_some] <;> rfl) | (exfalso;simp_all;done),by repeat (first | (with_reducible first | exact HB.out | apply below_alloc | apply pw_below_drewN | apply below_drew1 | refine below_set ?_ GE107.out) | exact HB.out)⟩
/-! ### spec_ExprOk: function 14 -/
def spec_ExprOk.l0:Nat → List (S45) → Int → Int → Option (Bool)
 | 0,_,_,_ => none
 | k + 1,x0,x3,x4 => if x4 < (x0.length:Int) then (if 0 ≤ x4 then ((spec_l2Node.f k ((rd_T45 x0 x4).f0) ((rd_T45 x0 x4).f1) ((rd_T45 x0 x4).f2)).bind fun t112 => (if t112 = true then ((spec_l2Takes.f ((rd_T45 x0 x4).f0)).bind fun t114 => (if t114 > x3 then (some false) else ((spec_l2Takes.f ((rd_T45 x0 x4).f0)).bind fun t116 => (spec_ExprOk.l0 k x0 (wrap64 ((wrap64 (x3 - t116)) + 1)) (wrap64 (x4 + 1)))))) else (some false))) else (none)) else (if (x0.length:Int) ≤ 30 then (some (x3 == 1)) else (some false))
def spec_ExprOk.f (k:Nat) (l0:List (S45)):Option (Bool):=spec_ExprOk.l0 k l0 0 0
theorem spec_ExprOk.mono_l:∀ k,(∀ y0 y1 y2,LeO (spec_ExprOk.l0 k y0 y1 y2) (spec_ExprOk.l0 (k + 1) y0 y1 y2))
 | 0 => fun _ _ _ r h => by simp [spec_ExprOk.l0] at h
 | k + 1 => by
  have ih0:=spec_ExprOk.mono_l k
  ·intro y0 y1 y2
   unfold spec_ExprOk.l0
   repeat' first
   | (with_reducible exact ih0 _ _ _)
   | (with_reducible exact spec_l2Node.mono _ _ _ _)
   | (with_reducible exact LeO.refl _)
   | (with_reducible exact LeO.none _)
   | (with_reducible refine LeO.ite ?_ ?_)
   | (with_reducible refine LeO.bind ?_ (fun _ => ?_))
   | exact ih0 _ _ _
   | exact spec_l2Node.mono _ _ _ _
   | exact LeO.none _
   | refine LeO.ite ?_ ?_
   | refine LeO.bind ?_ (fun _ => ?_)
theorem spec_ExprOk.mono:∀ a0 k,LeO (spec_ExprOk.f k a0) (spec_ExprOk.f (k + 1) a0):=by
 intro a0 k
 have ih0:=spec_ExprOk.mono_l k
 unfold spec_ExprOk.f
 repeat' first
   | (with_reducible exact ih0 _ _ _)
   | (with_reducible exact spec_l2Node.mono _ _ _ _)
   | (with_reducible exact LeO.refl _)
   | (with_reducible exact LeO.none _)
   | (with_reducible refine LeO.ite ?_ ?_)
   | (with_reducible refine LeO.bind ?_ (fun _ => ?_))
   | exact ih0 _ _ _
   | exact spec_l2Node.mono _ _ _ _
   | exact LeO.none _
   | refine LeO.ite ?_ ?_
   | refine LeO.bind ?_ (fun _ => ?_)
set_option maxHeartbeats 8000000 in
set_option maxRecDepth 100000 in
theorem spec_ExprOk.calls (k:Nat) (A0:Option Addr) (c0:Nat) (l0:List (S45)) (r:Bool) (w:World) (hr0:Kd.C k45 w A0 l0.length l0) (hc0:l0.length ≤ c0) (h:spec_ExprOk.f k l0 = some r) :
  Calls Try.prog 14 #[.slice A0 l0.length c0] w fun e w' => e = .returned (.bool r) ∧ Below w.heap.size w w':=by
 have hu45:=Try.underlying45
 have HR0:=Aside0.mk hr0
 have HC0:=Aside0.mk hc0
 clear hr0 hc0
 have HB:=Aside0.mk (Below.refl w.heap.size w)
 have H:(spec_ExprOk.l0 k l0 0 0) = some r:=h
 clear h
 have H':=Aside0.mk H
 clear H
 go_enter Try.func14,Try.ntmps14
 go_wp2
 go_loopg [3,4] k (fun kq v3 v4 w' => ∃ (x3_1:Int) (x4_1:Int),v3 = .int .i64 x3_1 ∧ v4 = .int .i64 x4_1 ∧ Aside0 (spec_ExprOk.l0 kq l0 x3_1 x4_1 = some r) ∧ Aside0 (kq ≤ k) ∧ Aside0 (Below w.heap.size w w'))
 case atStart => exact ⟨(0),(0),(by first | rfl | (simp;done) | (simp [*];done) | (simp;decide +kernel) | (simp [wrap64];done) | (simp [bne];done)),(by first | rfl | (simp;done) | (simp [*];done) | (simp;decide +kernel) | (simp [wrap64];done) | (simp [bne];done)),H',⟨Nat.le_refl _⟩,⟨by repeat (first | (with_reducible first | exact HB.out | apply below_alloc | apply pw_below_drewN | apply below_drew1) | exact HB.out)⟩⟩
 case round =>
  clear H'
  try clear c1
  obtain ⟨x3_1,x4_1,rfl,rfl,HA,HK1,HB⟩:=hrel
  cases gk with
  | zero => exact absurd HA.out (by simp [spec_ExprOk.l0])
  | succ k1 =>
   have H:=HA.out
   clear HA
   simp only [spec_ExprOk.l0] at H
   by_cases c2:x4_1 < (l0.length:Int)
   ·rw [if_pos c2] at H
    have c2b0:decide (x4_1 < (l0.length:Int)) = true:=decide_eq_true c2
    clear c2
    by_cases c3:0 ≤ x4_1
    ·rw [if_pos c3] at H
     have c3b0:decide (0 ≤ x4_1) = true:=decide_eq_true c3
     clear c3
     replace H:=Option.bind_eq_some_iff.mp H
     obtain ⟨t112,A40,H⟩:=H
     replace H:(if t112 = true then ((spec_l2Takes.f ((rd_T45 l0 x4_1).f0)).bind fun t114 => (if t114 > x3_1 then (some false) else ((spec_l2Takes.f ((rd_T45 l0 x4_1).f0)).bind fun t116 => (spec_ExprOk.l0 k1 l0 (wrap64 ((wrap64 (x3_1 - t116)) + 1)) (wrap64 (x4_1 + 1)))))) else (some false)) = some r:=H
     have A4:=Aside0.mk A40
     clear A40
     by_cases c5:t112 = true
     ·subst c5
      have H1:((spec_l2Takes.f ((rd_T45 l0 x4_1).f0)).bind fun t114 => (if t114 > x3_1 then (some false) else ((spec_l2Takes.f ((rd_T45 l0 x4_1).f0)).bind fun t116 => (spec_ExprOk.l0 k1 l0 (wrap64 ((wrap64 (x3_1 - t116)) + 1)) (wrap64 (x4_1 + 1)))))) = some r:=by rw [if_pos rfl] at H;exact H
      clear H
      have H:=H1
      clear H1
      replace H:=Option.bind_eq_some_iff.mp H
      obtain ⟨t114,A60,H⟩:=H
      replace H:(if t114 > x3_1 then (some false) else ((spec_l2Takes.f ((rd_T45 l0 x4_1).f0)).bind fun t116 => (spec_ExprOk.l0 k1 l0 (wrap64 ((wrap64 (x3_1 - t116)) + 1)) (wrap64 (x4_1 + 1))))) = some r:=H
      have A6:=Aside0.mk A60
      clear A60
      by_cases c7:t114 > x3_1
      ·rw [if_pos c7] at H
       have c7b0:decide (x3_1 < t114) = true:=decide_eq_true c7
       clear c7
       obtain rfl:=Option.some.inj H
       have p111:0 ≤ (x4_1:Int):=of_decide_eq_true (by first | (with_reducible assumption) | assumption)
       have q111:x4_1 < (l0.length:Int):=of_decide_eq_true (by first | (with_reducible assumption) | assumption)
       obtain ⟨ad111,e111,hx111_0,hx111_1,hx111_2⟩:=at_T45 HR0.out x4_1 p111 q111
       cases e111
       replace hx111_0:=(HB.out.cell (World.block_lt_of_cell? w _ hx111_0)).trans hx111_0
       replace hx111_1:=(HB.out.cell (World.block_lt_of_cell? w _ hx111_1)).trans hx111_1
       replace hx111_2:=(HB.out.cell (World.block_lt_of_cell? w _ hx111_2)).trans hx111_2
       replace p111:=eq_true p111
       replace q111:=eq_true q111
       go_wp2_with (first | ((with_reducible refine gate_callee (f:=27) rfl ?_);refine goesL_ (some 15) rfl rfl Try.func27 (by kernel_rfl) rfl #[.agg #[.int .i64 ((rd_T45 l0 x4_1).f0),.int .i64 ((rd_T45 l0 x4_1).f1),.string ((rd_T45 l0 x4_1).f2)]] rfl (by (try simp only [List.map_toArray,List.map_cons,List.map_nil]);first | done | rfl | (simp only [List.length_drop,List.length_take];rfl)) ?_;(with_reducible refine (spec_l2Node.calls k1 ((rd_T45 l0 x4_1).f0) ((rd_T45 l0 x4_1).f1) ((rd_T45 l0 x4_1).f2) true _ A4.out).mono ?_);rintro e w8 ⟨rfl,hb⟩;refine ⟨_,rfl,?_⟩;have n0_:=Aside0.mk (below_step (by repeat (first | (with_reducible first | exact HB.out | apply below_alloc | apply pw_below_drewN | apply below_drew1) | exact HB.out)) hb);clear HB;have HB:=n0_;clear n0_;(try clear hb);(try clear hb2);(try clear hk);(try clear hi);have p113:0 ≤ (x4_1:Int):=of_decide_eq_true (by first | (with_reducible assumption) | assumption);have q113:x4_1 < (l0.length:Int):=of_decide_eq_true (by first | (with_reducible assumption) | assumption);obtain ⟨ad113,e113,hx113_0,hx113_1,hx113_2⟩:=at_T45 HR0.out x4_1 p113 q113;obtain rfl:ad111 = ad113:=(by injection e113);replace hx113_0:=(HB.out.cell (World.block_lt_of_cell? w _ hx113_0)).trans hx113_0;replace hx113_1:=(HB.out.cell (World.block_lt_of_cell? w _ hx113_1)).trans hx113_1;replace hx113_2:=(HB.out.cell (World.block_lt_of_cell? w _ hx113_2)).trans hx113_2;replace p113:=eq_true p113;replace q113:=eq_true q113) | (go_at_call 28;(with_reducible refine (spec_l2Takes.calls ((rd_T45 l0 x4_1).f0) t114 _ A6.out).mono ?_);rintro e w' ⟨rfl,⟨nd,rfl⟩⟩))
       go_ret
       exact ⟨by first | rfl | (simp [errW_none,errW_some] <;> rfl) | (simp [*,errW_none,errW_some] <;> rfl) | (exfalso;simp_all;done),by repeat (first | (with_reducible first | exact HB.out | apply below_alloc | apply pw_below_drewN | apply below_drew1) | exact HB.out)⟩
      ·rw [if_neg c7] at H
       have c7b0:decide (x3_1 < t114) = false:=decide_eq_false c7
       clear c7
       replace H:=Option.bind_eq_some_iff.mp H
       obtain ⟨t116,A90,H⟩:=H
       replace H:(spec_ExprOk.l0 k1 l0 (wrap64 ((wrap64 (x3_1 - t116)) + 1)) (wrap64 (x4_1 + 1))) = some r:=H
       have A9:=Aside0.mk A90
       clear A90
       have H':=Aside0.mk H
       clear H
       have p111:0 ≤ (x4_1:Int):=of_decide_eq_true (by first | (with_reducible assumption) | assumption)
       have q111:x4_1 < (l0.length:Int):=of_decide_eq_true (by first | (with_reducible assumption) | assumption)
       obtain ⟨ad111,e111,hx111_0,hx111_1,hx111_2⟩:=at_T45 HR0.out x4_1 p111 q111
       cases e111
       replace hx111_0:=(HB.out.cell (World.block_lt_of_cell? w _ hx111_0)).trans hx111_0
       replace hx111_1:=(HB.out.cell (World.block_lt_of_cell? w _ hx111_1)).trans hx111_1
       replace hx111_2:=(HB.out.cell (World.block_lt_of_cell? w _ hx111_2)).trans hx111_2
       replace p111:=eq_true p111
       replace q111:=eq_true q111
       go_wp2_with (first | ((with_reducible refine gate_callee (f:=27) rfl ?_);refine goesL_ (some 15) rfl rfl Try.func27 (by kernel_rfl) rfl #[.agg #[.int .i64 ((rd_T45 l0 x4_1).f0),.int .i64 ((rd_T45 l0 x4_1).f1),.string ((rd_T45 l0 x4_1).f2)]] rfl (by (try simp only [List.map_toArray,List.map_cons,List.map_nil]);first | done | rfl | (simp only [List.length_drop,List.length_take];rfl)) ?_;(with_reducible refine (spec_l2Node.calls k1 ((rd_T45 l0 x4_1).f0) ((rd_T45 l0 x4_1).f1) ((rd_T45 l0 x4_1).f2) true _ A4.out).mono ?_);rintro e w10 ⟨rfl,hb⟩;refine ⟨_,rfl,?_⟩;have n0_:=Aside0.mk (below_step (by repeat (first | (with_reducible first | exact HB.out | apply below_alloc | apply pw_below_drewN | apply below_drew1) | exact HB.out)) hb);clear HB;have HB:=n0_;clear n0_;(try clear hb);(try clear hb2);(try clear hk);(try clear hi);have p113:0 ≤ (x4_1:Int):=of_decide_eq_true (by first | (with_reducible assumption) | assumption);have q113:x4_1 < (l0.length:Int):=of_decide_eq_true (by first | (with_reducible assumption) | assumption);obtain ⟨ad113,e113,hx113_0,hx113_1,hx113_2⟩:=at_T45 HR0.out x4_1 p113 q113;obtain rfl:ad111 = ad113:=(by injection e113);replace hx113_0:=(HB.out.cell (World.block_lt_of_cell? w _ hx113_0)).trans hx113_0;replace hx113_1:=(HB.out.cell (World.block_lt_of_cell? w _ hx113_1)).trans hx113_1;replace hx113_2:=(HB.out.cell (World.block_lt_of_cell? w _ hx113_2)).trans hx113_2;replace p113:=eq_true p113;replace q113:=eq_true q113) | (go_at_call 28;(with_reducible refine (spec_l2Takes.calls ((rd_T45 l0 x4_1).f0) t114 _ A6.out).mono ?_);rintro e w' ⟨rfl,⟨nd,rfl⟩⟩;have p115:0 ≤ (x4_1:Int):=of_decide_eq_true (by first | (with_reducible assumption) | assumption);have q115:x4_1 < (l0.length:Int):=of_decide_eq_true (by first | (with_reducible assumption) | assumption);obtain ⟨ad115,e115,hx115_0,hx115_1,hx115_2⟩:=at_T45 HR0.out x4_1 p115 q115;obtain rfl:ad111 = ad115:=(by injection e115);replace hx115_0:=(HB.out.cell (World.block_lt_of_cell? w _ hx115_0)).trans hx115_0;replace hx115_1:=(HB.out.cell (World.block_lt_of_cell? w _ hx115_1)).trans hx115_1;replace hx115_2:=(HB.out.cell (World.block_lt_of_cell? w _ hx115_2)).trans hx115_2;replace p115:=eq_true p115;replace q115:=eq_true q115) | ((with_reducible refine gate_callee (f:=28) rfl ?_);refine goesL_ (some 33) rfl rfl Try.func28 (by kernel_rfl) rfl #[.int .i64 ((rd_T45 l0 x4_1).f0)] rfl (by (try simp only [List.map_toArray,List.map_cons,List.map_nil]);first | done | rfl | (simp only [List.length_drop,List.length_take];rfl)) ?_;(with_reducible refine (spec_l2Takes.calls ((rd_T45 l0 x4_1).f0) t116 _ A9.out).mono ?_);rintro e w' ⟨rfl,⟨nd,rfl⟩⟩;refine ⟨_,rfl,?_⟩))
       go_roundg k1
       case measure => have:=HK1.out;omega
       case rel => exact ⟨(wrap64 ((wrap64 (x3_1 - t116)) + 1)),(wrap64 (x4_1 + 1)),(by first | rfl | (simp;done) | (simp [*];done) | (simp;decide +kernel) | (simp [wrap64];done) | (simp [bne];done)),(by first | rfl | (simp;done) | (simp [*];done) | (simp;decide +kernel) | (simp [wrap64];done) | (simp [bne];done)),H',⟨by have:=HK1.out;omega⟩,⟨by repeat (first | (with_reducible first | exact HB.out | apply below_alloc | apply pw_below_drewN | apply below_drew1) | exact HB.out)⟩⟩
     ·replace c5:=Bool.eq_false_iff.mpr c5
      subst c5
      have H1:(some false) = some r:=by rw [if_neg (show ¬ (false = true) by decide)] at H;exact H
      clear H
      have H:=H1
      clear H1
      obtain rfl:=Option.some.inj H
      have p111:0 ≤ (x4_1:Int):=of_decide_eq_true (by first | (with_reducible assumption) | assumption)
      have q111:x4_1 < (l0.length:Int):=of_decide_eq_true (by first | (with_reducible assumption) | assumption)
      obtain ⟨ad111,e111,hx111_0,hx111_1,hx111_2⟩:=at_T45 HR0.out x4_1 p111 q111
      cases e111
      replace hx111_0:=(HB.out.cell (World.block_lt_of_cell? w _ hx111_0)).trans hx111_0
      replace hx111_1:=(HB.out.cell (World.block_lt_of_cell? w _ hx111_1)).trans hx111_1
      replace hx111_2:=(HB.out.cell (World.block_lt_of_cell? w _ hx111_2)).trans hx111_2
      replace p111:=eq_true p111
      replace q111:=eq_true q111
      go_wp2_with (first | ((with_reducible refine gate_callee (f:=27) rfl ?_);refine goesL_ (some 15) rfl rfl Try.func27 (by kernel_rfl) rfl #[.agg #[.int .i64 ((rd_T45 l0 x4_1).f0),.int .i64 ((rd_T45 l0 x4_1).f1),.string ((rd_T45 l0 x4_1).f2)]] rfl (by (try simp only [List.map_toArray,List.map_cons,List.map_nil]);first | done | rfl | (simp only [List.length_drop,List.length_take];rfl)) ?_;(with_reducible refine (spec_l2Node.calls k1 ((rd_T45 l0 x4_1).f0) ((rd_T45 l0 x4_1).f1) ((rd_T45 l0 x4_1).f2) false _ A4.out).mono ?_);rintro e w11 ⟨rfl,hb⟩;refine ⟨_,rfl,?_⟩;have n0_:=Aside0.mk (below_step (by repeat (first | (with_reducible first | exact HB.out | apply below_alloc | apply pw_below_drewN | apply below_drew1) | exact HB.out)) hb);clear HB;have HB:=n0_;clear n0_;(try clear hb);(try clear hb2);(try clear hk);(try clear hi)))
      go_ret
      exact ⟨by first | rfl | (simp [errW_none,errW_some] <;> rfl) | (simp [*,errW_none,errW_some] <;> rfl) | (exfalso;simp_all;done),by repeat (first | (with_reducible first | exact HB.out | apply below_alloc | apply pw_below_drewN | apply below_drew1) | exact HB.out)⟩
    ·rw [if_neg c3] at H
     exact absurd H (by simp)
   ·rw [if_neg c2] at H
    have c2b0:decide (x4_1 < (l0.length:Int)) = false:=decide_eq_false c2
    clear c2
    by_cases c12:(l0.length:Int) ≤ 30
    ·rw [if_pos c12] at H
     have c12b0:decide ((l0.length:Int) ≤ 30) = true:=decide_eq_true c12
     have c12b1:decide (l0.length ≤ 30) = true:=decide_eq_true (by omega)
     clear c12
     obtain rfl:=Option.some.inj H
     go_wp2
     go_ret
     exact ⟨by first | rfl | (simp [errW_none,errW_some] <;> rfl) | (simp [*,errW_none,errW_some] <;> rfl) | (exfalso;simp_all;done),by repeat (first | (with_reducible first | exact HB.out | apply below_alloc | apply pw_below_drewN | apply below_drew1) | exact HB.out)⟩
    ·rw [if_neg c12] at H
     have c12b0:decide ((l0.length:Int) ≤ 30) = false:=decide_eq_false c12
     have c12b1:decide (l0.length ≤ 30) = false:=decide_eq_false (by omega)
     clear c12
     obtain rfl:=Option.some.inj H
     go_wp2
     go_ret
     exact ⟨by first | rfl | (simp [errW_none,errW_some] <;> rfl) | (simp [*,errW_none,errW_some] <;> rfl) | (exfalso;simp_all;done),by repeat (first | (with_reducible first | exact HB.out | apply below_alloc | apply pw_below_drewN | apply below_drew1) | exact HB.out)⟩
-- NOT PRINTED: function 49 (spec_l2P_put)
/-- A state of type 67 at block g of W;what its slices lead to came in by w0. -/
def IsS67 (w0 W:World) (g:Nat) (f0:ByteArray) (f1:Int) (f2:List (S45)) (f3:Bool):Prop:=∃ A2 c2,W.heap[g]? = some (.cells #[.string f0,.int .i64 f1,.slice A2 f2.length c2,.bool f3] 67 (0,0)) ∧ w0.heap.size ≤ g ∧ Kd.C k45 w0 A2 f2.length f2
theorem IsS67.grown {w0 W:World} {g:Nat} {f0:ByteArray} {f1:Int} {f2:List (S45)} {f3:Bool} {W1:World} {row:Option Nat} (h:IsS67 w0 W g f0 f1 f2 f3) (hw:W.grownBy W1 row) (hne:some g ≠ row):IsS67 w0 W1 g f0 f1 f2 f3:=by
 obtain ⟨A2,c2,hb,hg,hr2⟩:=h
 exact ⟨A2,c2,blk_grown hb hw hne,hg,hr2⟩
theorem IsS67.own_neN {w0 W:World} {g:Nat} {f0:ByteArray} {f1:Int} {f2:List (S45)} {f3:Bool} {α:Type} {d:Kd α} {e:Nat} {base:Nat} {ok:Nat → Prop} {v:Value} {xs:List α} (h:IsS67 w0 W g f0 f1 f2 f3) (ho:Kd.N d e W base ok v xs) (ht:e ≠ 67):some g ≠ v.ownBlock:=by
 obtain ⟨A2,c2,hb,hg,hr2⟩:=h
 exact Kd.N_ne ho hb ht
theorem IsS67.fresh {w0 W:World} {g:Nat} {f0:ByteArray} {f1:Int} {f2:List (S45)} {f3:Bool} (h:IsS67 w0 W g f0 f1 f2 f3):∀ k,W.heap.size ≤ k → k ≠ g:=by
 obtain ⟨A2,c2,hb,hg,hr2⟩:=h
 exact Kd.freshB hb
theorem IsS67.kept {w0 W:World} {g:Nat} {f0:ByteArray} {f1:Int} {f2:List (S45)} {f3:Bool} {W1:World} {S:Nat → Prop} (h:IsS67 w0 W g f0 f1 f2 f3) (hk:Kept W W1 S) (hne:¬ S g):IsS67 w0 W1 g f0 f1 f2 f3:=by
 obtain ⟨A2,c2,hb,hg,hr2⟩:=h
 exact ⟨A2,c2,blk_kept hb hk hne,hg,hr2⟩
theorem IsS67.below {w0 W:World} {g:Nat} {f0:ByteArray} {f1:Int} {f2:List (S45)} {f3:Bool} {W1:World} (h:IsS67 w0 W g f0 f1 f2 f3) (hw:Below W.heap.size W W1):IsS67 w0 W1 g f0 f1 f2 f3:=h.grown (grown_of_below hw none) (by simp)
theorem IsS67.alloc {w0 W:World} {g:Nat} {f0:ByteArray} {f1:Int} {f2:List (S45)} {f3:Bool} (h:IsS67 w0 W g f0 f1 f2 f3) (o:Obj):IsS67 w0 (W.alloc o) g f0 f1 f2 f3:=h.below (below_alloc (Below.refl _ _) o)
theorem IsS67.drewN {w0 W:World} {g:Nat} {f0:ByteArray} {f1:Int} {f2:List (S45)} {f3:Bool} (h:IsS67 w0 W g f0 f1 f2 f3) (m:Nat):IsS67 w0 (W.drewN m) g f0 f1 f2 f3:=h
theorem IsS67.drew {w0 W:World} {g:Nat} {f0:ByteArray} {f1:Int} {f2:List (S45)} {f3:Bool} (h:IsS67 w0 W g f0 f1 f2 f3):IsS67 w0 W.drew g f0 f1 f2 f3:=h
theorem IsS67.at_ {w0 W:World} {g:Nat} {f0:ByteArray} {f1:Int} {f2:List (S45)} {f3:Bool} {w':World} {m:Nat} (hq:W.drewN m = w') (h:IsS67 w0 W g f0 f1 f2 f3):IsS67 w0 w' g f0 f1 f2 f3:=by subst hq;exact IsS67.drewN h m
theorem IsS67.apart {w0 W:World} {g:Nat} {f0:ByteArray} {f1:Int} {f2:List (S45)} {f3:Bool} {α:Type} {d:Kd α} {e:Nat} {base:Nat} {ok:Nat → Prop} {v:Value} {xs:List α} (h:IsS67 w0 W g f0 f1 f2 f3) (ho:d.R e W base ok v xs) (ht:∀ q,q ∈ e :: d.E → q ≠ 67):d.R e W base (fun k => ok k ∧ k ≠ g) v xs:=by
 obtain ⟨A2,c2,hb,hg,hr2⟩:=h
 exact Kd.R_types ho hb ht
theorem IsS67.own_ne {w0 W:World} {g:Nat} {f0:ByteArray} {f1:Int} {f2:List (S45)} {f3:Bool} {α:Type} {d:Kd α} {e:Nat} {base:Nat} {ok:Nat → Prop} {v:Value} {xs:List α} (h:IsS67 w0 W g f0 f1 f2 f3) (ho:d.R e W base ok v xs) (ht:e ≠ 67):some g ≠ v.ownBlock:=by
 obtain ⟨A2,c2,hb,hg,hr2⟩:=h
 exact Kd.R_ne ho hb ht
theorem IsS67.apartQ {w0 W:World} {g:Nat} {f0:ByteArray} {f1:Int} {f2:List (S45)} {f3:Bool} {α:Type} {d:Kd α} {e:Nat} {base:Nat} {ok:Nat → Prop} {v:Value} {xs:List α} (h:IsS67 w0 W g f0 f1 f2 f3) (ho:d.Q e W base ok v xs) (ht:∀ q,q ∈ e :: d.E → q ≠ 67):d.Q e W base (fun k => ok k ∧ k ≠ g) v xs:=by
 obtain ⟨A2,c2,hb,hg,hr2⟩:=h
 exact Kd.Q_types ho hb ht
theorem IsS67.own_neQ {w0 W:World} {g:Nat} {f0:ByteArray} {f1:Int} {f2:List (S45)} {f3:Bool} {α:Type} {d:Kd α} {e:Nat} {base:Nat} {ok:Nat → Prop} {v:Value} {xs:List α} (h:IsS67 w0 W g f0 f1 f2 f3) (ho:d.Q e W base ok v xs) (ht:e ≠ 67):some g ≠ v.ownBlock:=by
 obtain ⟨A2,c2,hb,hg,hr2⟩:=h
 exact Kd.Q_ne ho hb ht
theorem IsS67.apartS {w0 W:World} {g:Nat} {f0:ByteArray} {f1:Int} {f2:List (S45)} {f3:Bool} {α:Type} {d:Kd α} {e:Nat} {base:Nat} {ok:Nat → Prop} {v:Value} {xs:List α} (h:IsS67 w0 W g f0 f1 f2 f3) (ho:d.S e W base ok v xs) (ht:∀ q,q ∈ e :: d.E → q ≠ 67):d.S e W base (fun k => ok k ∧ k ≠ g) v xs:=by
 obtain ⟨A2,c2,hb,hg,hr2⟩:=h
 exact Kd.S_types ho hb ht
theorem IsS67.own_neS {w0 W:World} {g:Nat} {f0:ByteArray} {f1:Int} {f2:List (S45)} {f3:Bool} {α:Type} {d:Kd α} {e:Nat} {base:Nat} {ok:Nat → Prop} {v:Value} {xs:List α} (h:IsS67 w0 W g f0 f1 f2 f3) (ho:d.S e W base ok v xs) (ht:e ≠ 67):some g ≠ v.ownBlock:=by
 obtain ⟨A2,c2,hb,hg,hr2⟩:=h
 exact Kd.S_ne ho hb ht
theorem IsS67.lt {w0 W:World} {g:Nat} {f0:ByteArray} {f1:Int} {f2:List (S45)} {f3:Bool} (h:IsS67 w0 W g f0 f1 f2 f3):g < W.heap.size:=by
 obtain ⟨A2,c2,hb,hg,hr2⟩:=h
 exact blk_lt hb
theorem IsS67.ge {w0 W:World} {g:Nat} {f0:ByteArray} {f1:Int} {f2:List (S45)} {f3:Bool} (h:IsS67 w0 W g f0 f1 f2 f3):w0.heap.size ≤ g:=by
 obtain ⟨A2,c2,hb,hg,hr2⟩:=h
 exact hg
theorem IsS67.ne_blk {w0 W:World} {g:Nat} {f0:ByteArray} {f1:Int} {f2:List (S45)} {f3:Bool} {a:Nat} {cs:Array Value} {t:TypeId} {fr:Nat × Nat} (h:IsS67 w0 W g f0 f1 f2 f3) (hb2:W.heap[a]? = some (.cells cs t fr)) (ht:t ≠ 67):g ≠ a:=by
 obtain ⟨A2,c2,hb,hg,hr2⟩:=h
 rintro rfl
 rw [hb] at hb2
 injection hb2 with hb2
 injection hb2 with _ ht2
 exact ht ht2.symm
theorem IsS67.far {w0 W:World} {g:Nat} {f0:ByteArray} {f1:Int} {f2:List (S45)} {f3:Bool} {p:Addr} (h:IsS67 w0 W g f0 f1 f2 f3) (hne:g ≠ p.block) (u:Value):IsS67 w0 (W.setCell p u) g f0 f1 f2 f3:=by
 obtain ⟨A2,c2,hb,hg,hr2⟩:=h
 exact ⟨A2,c2,blk_far hb hne u,hg,hr2⟩
theorem cellS67_0 {W:World} {g:Nat} {A2:Option Addr} {c2:Nat} {f0:ByteArray} {f1:Int} {f2:List (S45)} {f3:Bool} (h:W.heap[g]? = some (.cells #[.string f0,.int .i64 f1,.slice A2 f2.length c2,.bool f3] 67 (0,0))):W.cell? ⟨g,0,none⟩ = some (.string f0):=(blk_cell h 0).trans rfl
theorem IsS67.set_0 {w0 W:World} {g:Nat} {f0:ByteArray} {f1:Int} {f2:List (S45)} {f3:Bool} (h:IsS67 w0 W g f0 f1 f2 f3) (x:ByteArray):IsS67 w0 (W.setCell ⟨g,0,none⟩ (.string x)) g x f1 f2 f3:=by
 obtain ⟨A2,c2,hb,hg,hr2⟩:=h
 exact ⟨A2,c2,by simpa using blk_set hb 0 (.string x),hg,hr2⟩
theorem cellS67_1 {W:World} {g:Nat} {A2:Option Addr} {c2:Nat} {f0:ByteArray} {f1:Int} {f2:List (S45)} {f3:Bool} (h:W.heap[g]? = some (.cells #[.string f0,.int .i64 f1,.slice A2 f2.length c2,.bool f3] 67 (0,0))):W.cell? ⟨g,1,none⟩ = some (.int .i64 f1):=(blk_cell h 1).trans rfl
theorem IsS67.set_1 {w0 W:World} {g:Nat} {f0:ByteArray} {f1:Int} {f2:List (S45)} {f3:Bool} (h:IsS67 w0 W g f0 f1 f2 f3) (x:Int):IsS67 w0 (W.setCell ⟨g,1,none⟩ (.int .i64 x)) g f0 x f2 f3:=by
 obtain ⟨A2,c2,hb,hg,hr2⟩:=h
 exact ⟨A2,c2,by simpa using blk_set hb 1 (.int .i64 x),hg,hr2⟩
theorem cellS67_2 {W:World} {g:Nat} {A2:Option Addr} {c2:Nat} {f0:ByteArray} {f1:Int} {f2:List (S45)} {f3:Bool} (h:W.heap[g]? = some (.cells #[.string f0,.int .i64 f1,.slice A2 f2.length c2,.bool f3] 67 (0,0))):W.cell? ⟨g,2,none⟩ = some (.slice A2 f2.length c2):=(blk_cell h 2).trans rfl
theorem cellS67_3 {W:World} {g:Nat} {A2:Option Addr} {c2:Nat} {f0:ByteArray} {f1:Int} {f2:List (S45)} {f3:Bool} (h:W.heap[g]? = some (.cells #[.string f0,.int .i64 f1,.slice A2 f2.length c2,.bool f3] 67 (0,0))):W.cell? ⟨g,3,none⟩ = some (.bool f3):=(blk_cell h 3).trans rfl
theorem IsS67.set_3 {w0 W:World} {g:Nat} {f0:ByteArray} {f1:Int} {f2:List (S45)} {f3:Bool} (h:IsS67 w0 W g f0 f1 f2 f3) (x:Bool):IsS67 w0 (W.setCell ⟨g,3,none⟩ (.bool x)) g f0 f1 f2 x:=by
 obtain ⟨A2,c2,hb,hg,hr2⟩:=h
 exact ⟨A2,c2,by simpa using blk_set hb 3 (.bool x),hg,hr2⟩
theorem IsS67.new (w0 W:World) (A2:Option Addr) (c2:Nat) (f0:ByteArray) (f1:Int) (f2:List (S45)) (f3:Bool) (hB:Below w0.heap.size w0 W) (hr2:Kd.C k45 w0 A2 f2.length f2):IsS67 w0 (W.alloc (.cells #[.string f0,.int .i64 f1,.slice A2 f2.length c2,.bool f3] 67)) W.heap.size f0 f1 f2 f3:=⟨A2,c2,by simpa using heap_alloc_new W _,hB.size,hr2⟩
/-! ### spec_l2Sym: function 29 -/
def spec_l2Sym.l0:Nat → List (S33) → ByteArray → Int → Option (Int)
 | 0,_,_,_ => none
 | k + 1,x0,x1,x5 => if x5 < (x0.length:Int) then (if 0 ≤ x5 then (if ((rd_T33 x0 x5).f0).toList = x1.toList then (some x5) else (spec_l2Sym.l0 k x0 x1 (wrap64 (x5 + 1)))) else (none)) else (some (-1))
def spec_l2Sym.f (k:Nat) (l0:List (S33)) (a1:ByteArray):Option (Int):=spec_l2Sym.l0 k l0 a1 0
theorem spec_l2Sym.mono_l:∀ k,(∀ y0 y1 y2,LeO (spec_l2Sym.l0 k y0 y1 y2) (spec_l2Sym.l0 (k + 1) y0 y1 y2))
 | 0 => fun _ _ _ r h => by simp [spec_l2Sym.l0] at h
 | k + 1 => by
  have ih0:=spec_l2Sym.mono_l k
  ·intro y0 y1 y2
   unfold spec_l2Sym.l0
   repeat' first
   | (with_reducible exact ih0 _ _ _)
   | (with_reducible exact LeO.refl _)
   | (with_reducible exact LeO.none _)
   | (with_reducible refine LeO.ite ?_ ?_)
   | (with_reducible refine LeO.bind ?_ (fun _ => ?_))
   | exact ih0 _ _ _
   | exact LeO.none _
   | refine LeO.ite ?_ ?_
   | refine LeO.bind ?_ (fun _ => ?_)
theorem spec_l2Sym.mono:∀ a0 a1 k,LeO (spec_l2Sym.f k a0 a1) (spec_l2Sym.f (k + 1) a0 a1):=by
 intro a0 a1 k
 have ih0:=spec_l2Sym.mono_l k
 unfold spec_l2Sym.f
 repeat' first
   | (with_reducible exact ih0 _ _ _)
   | (with_reducible exact LeO.refl _)
   | (with_reducible exact LeO.none _)
   | (with_reducible refine LeO.ite ?_ ?_)
   | (with_reducible refine LeO.bind ?_ (fun _ => ?_))
   | exact ih0 _ _ _
   | exact LeO.none _
   | refine LeO.ite ?_ ?_
   | refine LeO.bind ?_ (fun _ => ?_)
set_option maxHeartbeats 8000000 in
set_option maxRecDepth 100000 in
theorem spec_l2Sym.calls (k:Nat) (A0:Option Addr) (c0:Nat) (l0:List (S33)) (a1:ByteArray) (r:Int) (w:World) (hr0:Kd.C k33 w A0 l0.length l0) (hc0:l0.length ≤ c0) (h:spec_l2Sym.f k l0 a1 = some r) :
  Calls Try.prog 29 #[.slice A0 l0.length c0,.string a1] w fun e w' => e = .returned (.int .i64 r) ∧ Drawn0 w w':=by
 have HR0:=Aside0.mk hr0
 have HC0:=Aside0.mk hc0
 clear hr0 hc0
 have H:(spec_l2Sym.l0 k l0 a1 0) = some r:=h
 clear h
 have H':=Aside0.mk H
 clear H
 go_enter Try.func29,Try.ntmps29
 go_wp2
 go_loopg [5] k (fun kq v5 w' => ∃ (x5_1:Int),v5 = .int .i64 x5_1 ∧ Aside0 (spec_l2Sym.l0 kq l0 a1 x5_1 = some r) ∧ Aside0 (kq ≤ k) ∧ Drawn0 w w')
 case atStart => exact ⟨(0),(by first | rfl | (simp;done) | (simp [*];done) | (simp;decide +kernel) | (simp [wrap64];done) | (simp [bne];done)),H',⟨Nat.le_refl _⟩,by repeat (first | exact Drawn0.refl _ | apply Drawn0.step)⟩
 case round =>
  clear H'
  try clear c2
  try clear p2
  obtain ⟨x5_1,rfl,HA,HK1,⟨m1,rfl⟩⟩:=hrel
  cases gk with
  | zero => exact absurd HA.out (by simp [spec_l2Sym.l0])
  | succ k1 =>
   have H:=HA.out
   clear HA
   simp only [spec_l2Sym.l0] at H
   by_cases c3:x5_1 < (l0.length:Int)
   ·rw [if_pos c3] at H
    have c3b0:decide (x5_1 < (l0.length:Int)) = true:=decide_eq_true c3
    clear c3
    by_cases c4:0 ≤ x5_1
    ·rw [if_pos c4] at H
     have c4b0:decide (0 ≤ x5_1) = true:=decide_eq_true c4
     clear c4
     by_cases c5:((rd_T33 l0 x5_1).f0).toList = a1.toList
     ·rw [if_pos c5] at H
      have c5b0:(((rd_T33 l0 x5_1).f0).toList == a1.toList) = true:=beq_iff_eq.mpr c5
      have c5b1:(((rd_T33 l0 x5_1).f0).toList != a1.toList) = false:=bne_eq_false_iff_eq.mpr c5
      clear c5
      obtain rfl:=Option.some.inj H
      have p259:0 ≤ (x5_1:Int):=of_decide_eq_true (by first | (with_reducible assumption) | assumption)
      have q259:x5_1 < (l0.length:Int):=of_decide_eq_true (by first | (with_reducible assumption) | assumption)
      obtain ⟨ad259,e259,hx259_0,hx259_1,hx259_2⟩:=at_T33 HR0.out x5_1 p259 q259
      cases e259
      replace p259:=eq_true p259
      replace q259:=eq_true q259
      go_wp2
      go_ret
      exact ⟨by first | rfl | (simp;done) | (simp [*];done) | (simp;decide +kernel) | (simp [wrap64];done) | (simp [bne];done),by repeat (first | exact Drawn0.refl _ | apply Drawn0.step)⟩
     ·rw [if_neg c5] at H
      have c5b0:(((rd_T33 l0 x5_1).f0).toList == a1.toList) = false:=beq_eq_false_iff_ne.mpr c5
      have c5b1:(((rd_T33 l0 x5_1).f0).toList != a1.toList) = true:=bne_iff_ne.mpr c5
      have H':=Aside0.mk H
      clear H
      have p259:0 ≤ (x5_1:Int):=of_decide_eq_true (by first | (with_reducible assumption) | assumption)
      have q259:x5_1 < (l0.length:Int):=of_decide_eq_true (by first | (with_reducible assumption) | assumption)
      obtain ⟨ad259,e259,hx259_0,hx259_1,hx259_2⟩:=at_T33 HR0.out x5_1 p259 q259
      cases e259
      replace p259:=eq_true p259
      replace q259:=eq_true q259
      go_wp2
      go_roundg k1
      case measure => have:=HK1.out;omega
      case rel => exact ⟨(wrap64 (x5_1 + 1)),(by first | rfl | (simp;done) | (simp [*];done) | (simp;decide +kernel) | (simp [wrap64];done) | (simp [bne];done)),H',⟨by have:=HK1.out;omega⟩,by repeat (first | exact Drawn0.refl _ | apply Drawn0.step)⟩
    ·rw [if_neg c4] at H
     exact absurd H (by simp)
   ·rw [if_neg c3] at H
    have c3b0:decide (x5_1 < (l0.length:Int)) = false:=decide_eq_false c3
    clear c3
    obtain rfl:=Option.some.inj H
    go_wp2
    go_ret
    exact ⟨by first | rfl | (simp;done) | (simp [*];done) | (simp;decide +kernel) | (simp [wrap64];done) | (simp [bne];done),by repeat (first | exact Drawn0.refl _ | apply Drawn0.step)⟩
end Go.Proofs.Ytpghjbikjmnnoaa.LibG
