import Derived.Test.YtoiiaklmjpiejaaDoorProg
import Derived.Below
import Derived.Deep.Draws
import Derived.Deep.AppendLies
import Derived.Maps.AppendAt
import Derived.OwnWalk
import Derived.Laws.BytesArg
import Derived.Laws.MakeOwn
import Derived.Laws.OwnMore
import Derived.Deep.OwnRows
import Derived.Tactics
import Derived.Lib.ConvBytes
import Derived.Laws.Slices
import Derived.WalkKit
import Derived.KernelRfl
import Derived.RowKit3
import Derived.Deep.LoopGhost
import Derived.Deep.QuietTactic
import Derived.BigQuiet
import Derived.WideLaws
import Derived.Deep.DeepCutAuto
import Derived.Deep.CutBlock
import Derived.Deep.RegionHeld3
import Derived.Laws.Rows
import Derived.Lib.AppendStr
import Derived.ArgAppend
import Derived.Laws.IdiomCopy
import Derived.OrdersHeld
import Derived.Laws.BitsLemmas
import Derived.RowKit
import Derived.Test.YtoiiaklmjpiejaaDoorSLibX
import Derived.Test.YtoiiaklmjpiejaaDoorSLibE
import Derived.Test.YtoiiaklmjpiejaaDoorSLibCB
import Derived.Test.YtoiiaklmjpiejaaDoorSWAll
namespace Go.Proofs.YtoiiaklmjpiejaaDoor.LibG
open Go.RowKit Go.Proofs.YtoiiaklmjpiejaaDoor.LibX Go.Proofs.YtoiiaklmjpiejaaDoor.LibE Go.Proofs.YtoiiaklmjpiejaaDoor.LibCB Go.Proofs.YtoiiaklmjpiejaaDoorW.PrintWords Go.Proofs.YtoiiaklmjpiejaaDoorW.PrintLast Go.Proofs.YtoiiaklmjpiejaaDoorW.PrintMore
attribute [local go_sem] max2_int min2_int max_two min_two max_three min_three max_four min_four   -- for this text's walks alone
set_option linter.unusedVariables false
set_option linter.unusedSimpArgs false
def errW:Option Int → Value
 | none => .nilIface
 | some c => .iface 0 (.int .i64 c)
theorem errW_none:errW none = .nilIface:=rfl
theorem errW_some (c:Int):errW (some c) = .iface 0 (.int .i64 c):=rfl
structure S54 where
 f0:ByteArray
 f1:Int
 f2:Int
def z54:S54:=⟨(⟨#[]⟩:ByteArray),(0:Int),(0:Int)⟩
def k54:Kd S54:=Kd.iso (Kd.pair Kd.string (Kd.pair (Kd.int .i64) (Kd.int .i64))) (fun x:S54 => (x.f0,x.f1,x.f2))
theorem k54_open {w:World} {x:S54} {cs:List Value} (h:k54.K w x cs):cs = [.string x.f0,.int .i64 x.f1,.int .i64 x.f2]:=by
 obtain ⟨_,_,rfl,rfl,⟨_,_,rfl,rfl,rfl⟩⟩:=h
 exact rfl
theorem k54_mkM (w:World) (base:Nat) (ok:Nat → Prop) (x:S54) :k54.M w base ok x [.string x.f0,.int .i64 x.f1,.int .i64 x.f2]:=⟨[.string x.f0],[.int .i64 x.f1,.int .i64 x.f2],rfl,rfl,⟨[.int .i64 x.f1],[.int .i64 x.f2],rfl,rfl,rfl⟩⟩
def rd_T54 (xs:List S54) (i:Int):S54:=xs.getD i.toNat z54
theorem at_T54 {w:World} {A:Option Addr} {n:Nat} {xs:List S54} (h:Kd.C k54 w A n xs) (i:Int) (h0:0 ≤ i) (h1:i < n):∃ ad ,A = some ad ∧ w.cell? (ad.add (i.toNat * 3)) = some (.string (rd_T54 xs i).f0) ∧ w.cell? ⟨(ad.add (i.toNat * 3)).block,(ad.add (i.toNat * 3)).off + 1,none⟩ = some (.int .i64 (rd_T54 xs i).f1) ∧ w.cell? ⟨(ad.add (i.toNat * 3)).block,(ad.add (i.toNat * 3)).off + 2,none⟩ = some (.int .i64 (rd_T54 xs i).f2):=by
 obtain ⟨ad,c,e,_,hK,hc0⟩:=Kd.C_get h z54 i h0 h1
 have hc:∀ j u,c[j]? = some u → w.cell? (ad.add (i.toNat * 3 + j)) = some u:=hc0
 obtain rfl:=k54_open hK
 exact ⟨ad,e,hc 0 _ rfl,by rw [← add_field _ _ 1 (by omega)];exact hc 1 _ rfl,by rw [← add_field _ _ 2 (by omega)];exact hc 2 _ rfl⟩
def impl_spaced.f (l0:List ByteArray):Option (ByteArray):=(strings_Join.f l0 (⟨#[32]⟩:ByteArray)).bind fun t144 => (if t144.size + 1 ≤ 9223372036854775807 then (some (t144 ++ (⟨#[10]⟩:ByteArray))) else (none))
set_option maxHeartbeats 8000000 in
set_option maxRecDepth 100000 in
theorem impl_spaced.calls (A0:Option Addr) (c0:Nat) (l0:List ByteArray) (r:ByteArray) (w:World) (hr0:Kd.C Kd.string w A0 l0.length l0) (hc0:l0.length ≤ c0) (h:impl_spaced.f l0 = some r) :
  Calls Tryd.prog 69 #[.slice A0 l0.length c0] w fun e w' => e = .returned (.string r) ∧ Below w.heap.size w w':=by
 have HR0:=Aside0.mk hr0
 have HC0:=Aside0.mk hc0
 clear hr0 hc0
 have HB:=Aside0.mk (Below.refl w.heap.size w)
 have H:((strings_Join.f l0 (⟨#[32]⟩:ByteArray)).bind fun t144 => (if t144.size + 1 ≤ 9223372036854775807 then (some (t144 ++ (⟨#[10]⟩:ByteArray))) else (none))) = some r:=h
 clear h
 replace H:=Option.bind_eq_some_iff.mp H
 obtain ⟨t144,A20,H⟩:=H
 replace H:(if t144.size + 1 ≤ 9223372036854775807 then (some (t144 ++ (⟨#[10]⟩:ByteArray))) else (none)) = some r:=H
 have A2:=Aside0.mk A20
 clear A20
 by_cases c3:t144.size + 1 ≤ 9223372036854775807
 ·rw [if_pos c3] at H
  have c3b0:=eq_true c3
  have c3b1:decide (t144.size + 1 ≤ 9223372036854775807) = true:=decide_eq_true c3
  try have c3b2:(9223372036854775807 < t144.size + 1) = False:=eq_false (Nat.not_lt.2 c3)
  obtain rfl:=Option.some.inj H
  go_enter Tryd.func69,Tryd.ntmps69
  go_wp2_with (first | ((with_reducible refine gate_callee (f:=57) rfl ?_);refine goesL_ (some 4) rfl rfl Tryd.func57 (by kernel_rfl) rfl #[.slice A0 l0.length c0,.string (⟨#[32]⟩:ByteArray)] rfl (by (try simp only [List.map_toArray,List.map_cons,List.map_nil]);first | done | rfl | (simp only [List.length_drop,List.length_take];rfl)) ?_;(with_reducible refine (strings_Join.calls _ _ l0 (⟨#[32]⟩:ByteArray) t144 _ ?side1 ?side2 A2.out).mono ?_);(case side1 => repeat (first | exact HR0.out | (with_reducible refine Kd.C_alloc ?_ _) | (with_reducible refine Kd.C_drewN ?_ _) | (with_reducible refine Kd.C_drew ?_)));(case side2 => exact HC0.out);rintro e w4 ⟨rfl,hb⟩;refine ⟨_,rfl,?_⟩;have n0_:=Aside0.mk (below_step (by repeat (first | (with_reducible first | exact HB.out | apply below_alloc | apply pw_below_drewN | apply below_drew1) | exact HB.out)) hb);clear HB;have HB:=n0_;clear n0_;(try clear hb);(try clear hb2);(try clear hk);(try clear hi)))
  go_ret
  exact ⟨by first | rfl | (simp [errW_none,errW_some] <;> rfl) | (simp [*,errW_none,errW_some] <;> rfl) | (exfalso;simp_all;done),by repeat (first | (with_reducible first | exact HB.out | apply below_alloc | apply pw_below_drewN | apply below_drew1) | exact HB.out)⟩
 ·rw [if_neg c3] at H
  exact absurd H (by simp)
def impl_hexDigits.f (a0:Int) (a1:Int):Option (ByteArray):=(strconv_FormatInt.f a0 16).bind fun t145 => ((strings_ToUpper.f t145).bind fun t146 => ((strings_Repeat.f (⟨#[48]⟩:ByteArray) (mx 0 (wrap64 (a1 - (t146.size:Int))))).bind fun t147 => (if t147.size + t146.size ≤ 9223372036854775807 then (some (t147 ++ t146)) else (none))))
set_option maxHeartbeats 8000000 in
set_option maxRecDepth 100000 in
theorem impl_hexDigits.calls (a0:Int) (a1:Int) (r:ByteArray) (w:World) (h:impl_hexDigits.f a0 a1 = some r) (hG:Go.Proofs.YtoiiaklmjpiejaaDoor.LibW.GL w:=by first | exact hG | exact hG.below (by repeat (first | (with_reducible first | exact HB.out | apply Go.Proofs.YtoiiaklmjpiejaaDoorW.PrintWords.below_alloc | apply Go.Proofs.YtoiiaklmjpiejaaDoorW.PrintWords.pw_below_drewN | apply Go.Proofs.YtoiiaklmjpiejaaDoorW.PrintWords.below_drew1 | refine Go.Proofs.YtoiiaklmjpiejaaDoorW.PrintWords.below_set ?_ (Go.Proofs.YtoiiaklmjpiejaaDoorW.PrintWords.Aside0.out (by assumption))) | exact HB.out)) | exact hG.drewN _) :
  Calls Tryd.prog 70 #[.int .i64 a0,.int .i64 a1] w fun e w' => e = .returned (.string r) ∧ Below w.heap.size w w':=by
 have HB:=Aside0.mk (Below.refl w.heap.size w)
 have H:((strconv_FormatInt.f a0 16).bind fun t145 => ((strings_ToUpper.f t145).bind fun t146 => ((strings_Repeat.f (⟨#[48]⟩:ByteArray) (mx 0 (wrap64 (a1 - (t146.size:Int))))).bind fun t147 => (if t147.size + t146.size ≤ 9223372036854775807 then (some (t147 ++ t146)) else (none))))) = some r:=h
 clear h
 replace H:=Option.bind_eq_some_iff.mp H
 obtain ⟨t145,A30,H⟩:=H
 replace H:((strings_ToUpper.f t145).bind fun t146 => ((strings_Repeat.f (⟨#[48]⟩:ByteArray) (mx 0 (wrap64 (a1 - (t146.size:Int))))).bind fun t147 => (if t147.size + t146.size ≤ 9223372036854775807 then (some (t147 ++ t146)) else (none)))) = some r:=H
 have A3:=Aside0.mk A30
 clear A30
 replace H:=Option.bind_eq_some_iff.mp H
 obtain ⟨t146,A40,H⟩:=H
 replace H:((strings_Repeat.f (⟨#[48]⟩:ByteArray) (mx 0 (wrap64 (a1 - (t146.size:Int))))).bind fun t147 => (if t147.size + t146.size ≤ 9223372036854775807 then (some (t147 ++ t146)) else (none))) = some r:=H
 have A4:=Aside0.mk A40
 clear A40
 obtain ⟨ji5,hji5⟩:∃ j_:Int,(mx 0 (wrap64 (a1 - (t146.size:Int)))) = j_:=⟨_,rfl⟩
 replace H:((strings_Repeat.f (⟨#[48]⟩:ByteArray) (ji5)).bind fun t147 => (if t147.size + t146.size ≤ 9223372036854775807 then (some (t147 ++ t146)) else (none))) = some r:=by first | (rw [hji5] at H;exact H) | (simp only [hji5] at H ⊢;exact H)
 (try rw [hji5] at A3)
 (try rw [hji5] at A4)
 (try (have hji5l:0 ≤ ji5:=by (rw [← hji5];unfold mx;(repeat' split) <;> omega)))
 (try (have hji5m:0 ≤ ji5:=by omega))
 have hji5_:(if 0 < (wrap64 (a1 - (t146.size:Int))) then (wrap64 (a1 - (t146.size:Int))) else 0) = ji5:=hji5
 replace H:=Option.bind_eq_some_iff.mp H
 obtain ⟨t147,A60,H⟩:=H
 replace H:(if t147.size + t146.size ≤ 9223372036854775807 then (some (t147 ++ t146)) else (none)) = some r:=H
 have A6:=Aside0.mk A60
 clear A60
 by_cases c7:t147.size + t146.size ≤ 9223372036854775807
 ·rw [if_pos c7] at H
  have c7b0:=eq_true c7
  have c7b1:decide (t147.size + t146.size ≤ 9223372036854775807) = true:=decide_eq_true c7
  try have c7b2:(9223372036854775807 < t147.size + t146.size) = False:=eq_false (Nat.not_lt.2 c7)
  obtain rfl:=Option.some.inj H
  go_enter Tryd.func70,Tryd.ntmps70
  go_wp2_with (first | ((with_reducible refine gate_callee (f:=94) rfl ?_);refine goesL_ (some 7) rfl rfl Tryd.func94 (by kernel_rfl) rfl #[.int .i64 a0,.int .i64 16] rfl (by (try simp only [List.map_toArray,List.map_cons,List.map_nil]);first | done | rfl | (simp only [List.length_drop,List.length_take];rfl)) ?_;(with_reducible refine (strconv_FormatInt.calls a0 16 t145 _ A3.out).mono ?_);rintro e w8 ⟨rfl,hb⟩;refine ⟨_,rfl,?_⟩;have n0_:=Aside0.mk (below_step (by repeat (first | (with_reducible first | exact HB.out | apply below_alloc | apply pw_below_drewN | apply below_drew1) | exact HB.out)) hb);clear HB;have HB:=n0_;clear n0_;(try clear hb);(try clear hb2);(try clear hk);(try clear hi)) | ((with_reducible refine gate_callee (f:=93) rfl ?_);refine goesL_ (some 8) rfl rfl Tryd.func93 (by kernel_rfl) rfl #[.string t145] rfl (by (try simp only [List.map_toArray,List.map_cons,List.map_nil]);first | done | rfl | (simp only [List.length_drop,List.length_take];rfl)) ?_;(with_reducible refine (strings_ToUpper.calls t145 t146 _ A4.out).mono ?_);rintro e w9 ⟨rfl,hb⟩;refine ⟨_,rfl,?_⟩;have n0_:=Aside0.mk (below_step (by repeat (first | (with_reducible first | exact HB.out | apply below_alloc | apply pw_below_drewN | apply below_drew1) | exact HB.out)) hb);clear HB;have HB:=n0_;clear n0_;(try clear hb);(try clear hb2);(try clear hk);(try clear hi)) | ((with_reducible refine gate_callee (f:=95) rfl ?_);refine goesL_ (some 14) rfl rfl Tryd.func95 (by kernel_rfl) rfl #[.string (⟨#[48]⟩:ByteArray),.int .i64 ji5] rfl (by (try simp only [List.map_toArray,List.map_cons,List.map_nil]);first | done | (simp only [hji5];rfl) | rfl | (simp only [List.length_drop,List.length_take];rfl)) ?_;(with_reducible refine (strings_Repeat.calls (⟨#[48]⟩:ByteArray) ji5 t147 _ A6.out).mono ?_);rintro e w10 ⟨rfl,hb⟩;refine ⟨_,rfl,?_⟩;have n0_:=Aside0.mk (below_step (by repeat (first | (with_reducible first | exact HB.out | apply below_alloc | apply pw_below_drewN | apply below_drew1) | exact HB.out)) hb);clear HB;have HB:=n0_;clear n0_;(try clear hb);(try clear hb2);(try clear hk);(try clear hi)))
  go_ret
  exact ⟨by first | rfl | (simp [errW_none,errW_some] <;> rfl) | (simp only [← hji5];first | rfl | (simp [errW_none,errW_some] <;> rfl)) | (simp [*,errW_none,errW_some] <;> rfl) | (exfalso;simp_all;done),by repeat (first | (with_reducible first | exact HB.out | apply below_alloc | apply pw_below_drewN | apply below_drew1) | exact HB.out)⟩
 ·rw [if_neg c7] at H
  exact absurd H (by simp)
-- NOT PRINTED: function 71 (strings_Builder_String)
-- NOT PRINTED: function 48 (impl_symText)
-- NOT PRINTED: function 20 (impl_SymText)
end Go.Proofs.YtoiiaklmjpiejaaDoor.LibG
