/- The machine's side of a law, written by a program of this session for this claim. -/
import Derived.Test.YtcohcndliaaacaaZFnCartWritesQq
import Derived.Test.YtcohcndliaaacaaZFnCartWritesQFnCartWritesx0
import Derived.Test.YtcohcndliaaacaaZFnCartWritesQFnCartWritesx2
import Derived.Test.YtcohcndliaaacaaZFnCartWritesQFnCartWritesx4
import Derived.Test.YtcohcndliaaacaaZFnCartWritesQFnCartWritesx11
import Derived.Test.YtcohcndliaaacaaZFnCartWritesQFnCartWritesx12
import Derived.Test.YtcohcndliaaacaaZFnCartWritesQFnCartWritesx14
namespace Go.Proofs.Ytcohcndliaaacaa.QFnCartWrites
open Go.Proofs.Ytcohcndliaaacaa.Qq
open Go.RowKit Go.Proofs.Ytcohcndliaaacaa.LibX Go.Proofs.Ytcohcndliaaacaa.LibC Go.Proofs.YtcohcndliaaacaaW.PrintWords Go.Proofs.YtcohcndliaaacaaW.PrintLast Go.Proofs.YtcohcndliaaacaaW.PrintMore
attribute [local go_sem] max2_int min2_int max_two min_two max_three min_three max_four min_four   -- for this text's walks alone
set_option maxHeartbeats 8000000
set_option maxRecDepth 100000
set_option linter.unusedVariables false
set_option linter.unusedSimpArgs false
mutual
def laws_FnCartWrites.j0 : Nat → Int → Int → Bool → Bool → Bool → ByteArray → Int → Int → ByteArray → Int → Bool → Int → ByteArray → Int → Int → ByteArray → Int → Bool → Int → ByteArray → Int → Int → ByteArray → Int → Bool → Int → Option (Bool)
 | 0, _, _, _, _, _, _, _, _, _, _, _, _, _, _, _, _, _, _, _, _, _, _, _, _, _, _ => none
 | k + 1, x4, x5, x7, x9, x47, x534000, x534001, x534002, x534003, x534004, x534005, x534006, x543000, x543001, x543002, x543003, x543004, x543005, x543006, x552000, x552001, x552002, x552003, x552004, x552005, x552006 => if x47 = true then (if (x7 == x9) = true then ((laws_sameCart.f x543000 x543001 x543002 x543003 x543004 x543005 x543006 x552000 x552001 x552002 x552003 x552004 x552005 x552006).bind fun t553 => (some t553)) else (some false)) else (if x4 ≥ 40960 then (if x4 < 41024 then (laws_FnCartWrites.j1 k x4 x5 x534005 x534000 x534001 x534002 x534003 x534004 x534005 x534006 x543000 x543001 x543002 x543003 x543004 x543005 x543006) else (laws_FnCartWrites.j1 k x4 x5 false x534000 x534001 x534002 x534003 x534004 x534005 x534006 x543000 x543001 x543002 x543003 x543004 x543005 x543006)) else (laws_FnCartWrites.j1 k x4 x5 false x534000 x534001 x534002 x534003 x534004 x534005 x534006 x543000 x543001 x543002 x543003 x543004 x543005 x543006))
def laws_FnCartWrites.j1 : Nat → Int → Int → Bool → ByteArray → Int → Int → ByteArray → Int → Bool → Int → ByteArray → Int → Int → ByteArray → Int → Bool → Int → Option (Bool)
 | 0, _, _, _, _, _, _, _, _, _, _, _, _, _, _, _, _, _ => none
 | k + 1, x4, x5, x10, x534000, x534001, x534002, x534003, x534004, x534005, x534006, x543000, x543001, x543002, x543003, x543004, x543005, x543006 => laws_FnCartWrites.l0 k x4 x5 x10 40960 x534000 x534001 x534002 x534003 x534004 x534005 x534006 x543000 x543001 x543002 x543003 x543004 x543005 x543006
def laws_FnCartWrites.l0 : Nat → Int → Int → Bool → Int → ByteArray → Int → Int → ByteArray → Int → Bool → Int → ByteArray → Int → Int → ByteArray → Int → Bool → Int → Option (Bool)
 | 0, _, _, _, _, _, _, _, _, _, _, _, _, _, _, _, _, _, _ => none
 | k + 1, x4, x5, x10, x11, x534000, x534001, x534002, x534003, x534004, x534005, x534006, x543000, x543001, x543002, x543003, x543004, x543005, x543006 => if x11 < 41024 then (laws_FnCartWrites.j3 k x4 x5 x10 x11 x10 x534000 x534001 x534002 x534003 x534004 x534005 x534006 x543000 x543001 x543002 x543003 x543004 x543005 x543006) else (laws_FnCartWrites.j3 k x4 x5 x10 x11 false x534000 x534001 x534002 x534003 x534004 x534005 x534006 x543000 x543001 x543002 x543003 x543004 x543005 x543006)
def laws_FnCartWrites.j3 : Nat → Int → Int → Bool → Int → Bool → ByteArray → Int → Int → ByteArray → Int → Bool → Int → ByteArray → Int → Int → ByteArray → Int → Bool → Int → Option (Bool)
 | 0, _, _, _, _, _, _, _, _, _, _, _, _, _, _, _, _, _, _, _ => none
 | k + 1, x4, x5, x10, x11, x70, x534000, x534001, x534002, x534003, x534004, x534005, x534006, x543000, x543001, x543002, x543003, x543004, x543005, x543006 => if x70 = true then ((impl_CartRead.f k x534000 x534001 x534002 x534003 x534004 x534005 x534006 x11).bind fun t557 => (if x11 = x4 then ((impl_CartRead.f k x543000 x543001 x543002 x543003 x543004 x543005 x543006 x11).bind fun t558 => (if t558 = x5 then (laws_FnCartWrites.l0 k x4 x5 x10 (wrap64 (x11 + 1)) x534000 x534001 x534002 x534003 x534004 x534005 x534006 x543000 x543001 x543002 x543003 x543004 x543005 x543006) else (some false))) else ((impl_CartRead.f k x543000 x543001 x543002 x543003 x543004 x543005 x543006 x11).bind fun t559 => (if t559 = t557 then (laws_FnCartWrites.l0 k x4 x5 x10 (wrap64 (x11 + 1)) x534000 x534001 x534002 x534003 x534004 x534005 x534006 x543000 x543001 x543002 x543003 x543004 x543005 x543006) else (some false))))) else ((impl_CartOk.f k x543000 x543001 x543002 x543003 x543004 x543005 x543006).bind fun t554 => (if t554 = true then (if x543000.toList = x534000.toList then (if x10 = true then (if x534001 = 0 then ((laws_sameCart.f x543000 x543001 x543002 x543003 x543004 x543005 x543006 x534000 x534001 x534002 x534003 x534004 x534005 x534006).bind fun t555 => (some t555)) else (some true)) else (if x543003.toList = x534003.toList then (if x534001 = 0 then ((laws_sameCart.f x543000 x543001 x543002 x543003 x543004 x543005 x543006 x534000 x534001 x534002 x534003 x534004 x534005 x534006).bind fun t556 => (some t556)) else (some true)) else (some false))) else (some false)) else (some false)))
end
def laws_FnCartWrites.f (k : Nat) (l0 : List Int) : Option (Bool) := (laws_big.f l0).bind fun t523 => (if t523 = true then (some true) else ((spec_DrawCartWrite.f k l0).bind fun bt524 => ((impl_CartWrite.f k bt524.1 bt524.2.1 bt524.2.2.1 bt524.2.2.2.1 bt524.2.2.2.2.1 bt524.2.2.2.2.2.1 bt524.2.2.2.2.2.2.1 bt524.2.2.2.2.2.2.2.1 bt524.2.2.2.2.2.2.2.2).bind fun bt534 => ((spec_CartWrite.f k bt524.1 bt524.2.1 bt524.2.2.1 bt524.2.2.2.1 bt524.2.2.2.2.1 bt524.2.2.2.2.2.1 bt524.2.2.2.2.2.2.1 bt524.2.2.2.2.2.2.2.1 bt524.2.2.2.2.2.2.2.2).bind fun bt543 => (if (bt534.2.2.2.2.2.2.2 != bt543.2.2.2.2.2.2.2) = true then (laws_FnCartWrites.j0 k bt524.2.2.2.2.2.2.2.1 bt524.2.2.2.2.2.2.2.2 bt534.2.2.2.2.2.2.2 bt543.2.2.2.2.2.2.2 true bt524.1 bt524.2.1 bt524.2.2.1 bt524.2.2.2.1 bt524.2.2.2.2.1 bt524.2.2.2.2.2.1 bt524.2.2.2.2.2.2.1 bt534.1 bt534.2.1 bt534.2.2.1 bt534.2.2.2.1 bt534.2.2.2.2.1 bt534.2.2.2.2.2.1 bt534.2.2.2.2.2.2.1 bt543.1 bt543.2.1 bt543.2.2.1 bt543.2.2.2.1 bt543.2.2.2.2.1 bt543.2.2.2.2.2.1 bt543.2.2.2.2.2.2.1) else ((laws_sameCart.f bt534.1 bt534.2.1 bt534.2.2.1 bt534.2.2.2.1 bt534.2.2.2.2.1 bt534.2.2.2.2.2.1 bt534.2.2.2.2.2.2.1 bt543.1 bt543.2.1 bt543.2.2.1 bt543.2.2.2.1 bt543.2.2.2.2.1 bt543.2.2.2.2.2.1 bt543.2.2.2.2.2.2.1).bind fun t552 => (if t552 = true then (laws_FnCartWrites.j0 k bt524.2.2.2.2.2.2.2.1 bt524.2.2.2.2.2.2.2.2 bt534.2.2.2.2.2.2.2 bt543.2.2.2.2.2.2.2 (!bt534.2.2.2.2.2.2.2) bt524.1 bt524.2.1 bt524.2.2.1 bt524.2.2.2.1 bt524.2.2.2.2.1 bt524.2.2.2.2.2.1 bt524.2.2.2.2.2.2.1 bt534.1 bt534.2.1 bt534.2.2.1 bt534.2.2.2.1 bt534.2.2.2.2.1 bt534.2.2.2.2.2.1 bt534.2.2.2.2.2.2.1 bt543.1 bt543.2.1 bt543.2.2.1 bt543.2.2.2.1 bt543.2.2.2.2.1 bt543.2.2.2.2.2.1 bt543.2.2.2.2.2.2.1) else (laws_FnCartWrites.j0 k bt524.2.2.2.2.2.2.2.1 bt524.2.2.2.2.2.2.2.2 bt534.2.2.2.2.2.2.2 bt543.2.2.2.2.2.2.2 true bt524.1 bt524.2.1 bt524.2.2.1 bt524.2.2.2.1 bt524.2.2.2.2.1 bt524.2.2.2.2.2.1 bt524.2.2.2.2.2.2.1 bt534.1 bt534.2.1 bt534.2.2.1 bt534.2.2.2.1 bt534.2.2.2.2.1 bt534.2.2.2.2.2.1 bt534.2.2.2.2.2.2.1 bt543.1 bt543.2.1 bt543.2.2.1 bt543.2.2.2.1 bt543.2.2.2.2.1 bt543.2.2.2.2.2.1 bt543.2.2.2.2.2.2.1))))))))
theorem laws_FnCartWrites.mono_l : ∀ k, (∀ y0 y1 y2 y3 y4 y5 y6 y7 y8 y9 y10 y11 y12 y13 y14 y15 y16 y17 y18 y19 y20 y21 y22 y23 y24 y25, LeO (laws_FnCartWrites.j0 k y0 y1 y2 y3 y4 y5 y6 y7 y8 y9 y10 y11 y12 y13 y14 y15 y16 y17 y18 y19 y20 y21 y22 y23 y24 y25) (laws_FnCartWrites.j0 (k + 1) y0 y1 y2 y3 y4 y5 y6 y7 y8 y9 y10 y11 y12 y13 y14 y15 y16 y17 y18 y19 y20 y21 y22 y23 y24 y25)) ∧ (∀ y0 y1 y2 y3 y4 y5 y6 y7 y8 y9 y10 y11 y12 y13 y14 y15 y16, LeO (laws_FnCartWrites.j1 k y0 y1 y2 y3 y4 y5 y6 y7 y8 y9 y10 y11 y12 y13 y14 y15 y16) (laws_FnCartWrites.j1 (k + 1) y0 y1 y2 y3 y4 y5 y6 y7 y8 y9 y10 y11 y12 y13 y14 y15 y16)) ∧ (∀ y0 y1 y2 y3 y4 y5 y6 y7 y8 y9 y10 y11 y12 y13 y14 y15 y16 y17, LeO (laws_FnCartWrites.l0 k y0 y1 y2 y3 y4 y5 y6 y7 y8 y9 y10 y11 y12 y13 y14 y15 y16 y17) (laws_FnCartWrites.l0 (k + 1) y0 y1 y2 y3 y4 y5 y6 y7 y8 y9 y10 y11 y12 y13 y14 y15 y16 y17)) ∧ (∀ y0 y1 y2 y3 y4 y5 y6 y7 y8 y9 y10 y11 y12 y13 y14 y15 y16 y17 y18, LeO (laws_FnCartWrites.j3 k y0 y1 y2 y3 y4 y5 y6 y7 y8 y9 y10 y11 y12 y13 y14 y15 y16 y17 y18) (laws_FnCartWrites.j3 (k + 1) y0 y1 y2 y3 y4 y5 y6 y7 y8 y9 y10 y11 y12 y13 y14 y15 y16 y17 y18))
 | 0 => ⟨fun _ _ _ _ _ _ _ _ _ _ _ _ _ _ _ _ _ _ _ _ _ _ _ _ _ _ r h => by simp [laws_FnCartWrites.j0] at h, fun _ _ _ _ _ _ _ _ _ _ _ _ _ _ _ _ _ r h => by simp [laws_FnCartWrites.j1] at h, fun _ _ _ _ _ _ _ _ _ _ _ _ _ _ _ _ _ _ r h => by simp [laws_FnCartWrites.l0] at h, fun _ _ _ _ _ _ _ _ _ _ _ _ _ _ _ _ _ _ _ r h => by simp [laws_FnCartWrites.j3] at h⟩
 | k + 1 => by
  obtain ⟨ih0, ih1, ih2, ih3⟩ := laws_FnCartWrites.mono_l k
  refine ⟨?_, ?_, ?_, ?_⟩
  ·intro y0 y1 y2 y3 y4 y5 y6 y7 y8 y9 y10 y11 y12 y13 y14 y15 y16 y17 y18 y19 y20 y21 y22 y23 y24 y25
   unfold laws_FnCartWrites.j0
   repeat' first
   | (with_reducible first | exact ih0 _ _ _ _ _ _ _ _ _ _ _ _ _ _ _ _ _ _ _ _ _ _ _ _ _ _ | exact ih1 _ _ _ _ _ _ _ _ _ _ _ _ _ _ _ _ _ | exact ih2 _ _ _ _ _ _ _ _ _ _ _ _ _ _ _ _ _ _ | exact ih3 _ _ _ _ _ _ _ _ _ _ _ _ _ _ _ _ _ _ _ | exact impl_CartOk.mono _ _ _ _ _ _ _ _ | exact impl_CartRead.mono _ _ _ _ _ _ _ _ _ | exact impl_CartWrite.mono _ _ _ _ _ _ _ _ _ _ | exact spec_CartWrite.mono _ _ _ _ _ _ _ _ _ _ | exact spec_DrawCartWrite.mono _ _ | exact LeO.refl _ | exact LeO.none _ | refine LeO.ite ?_ ?_ | refine LeO.bind ?_ (fun _ => ?_))
   | exact ih0 _ _ _ _ _ _ _ _ _ _ _ _ _ _ _ _ _ _ _ _ _ _ _ _ _ _
   | exact ih1 _ _ _ _ _ _ _ _ _ _ _ _ _ _ _ _ _
   | exact ih2 _ _ _ _ _ _ _ _ _ _ _ _ _ _ _ _ _ _
   | exact ih3 _ _ _ _ _ _ _ _ _ _ _ _ _ _ _ _ _ _ _
   | exact impl_CartOk.mono _ _ _ _ _ _ _ _
   | exact impl_CartRead.mono _ _ _ _ _ _ _ _ _
   | exact impl_CartWrite.mono _ _ _ _ _ _ _ _ _ _
   | exact spec_CartWrite.mono _ _ _ _ _ _ _ _ _ _
   | exact spec_DrawCartWrite.mono _ _
   | exact LeO.none _
   | refine LeO.ite ?_ ?_
   | refine LeO.bind ?_ (fun _ => ?_)
  ·intro y0 y1 y2 y3 y4 y5 y6 y7 y8 y9 y10 y11 y12 y13 y14 y15 y16
   unfold laws_FnCartWrites.j1
   repeat' first
   | (with_reducible first | exact ih0 _ _ _ _ _ _ _ _ _ _ _ _ _ _ _ _ _ _ _ _ _ _ _ _ _ _ | exact ih1 _ _ _ _ _ _ _ _ _ _ _ _ _ _ _ _ _ | exact ih2 _ _ _ _ _ _ _ _ _ _ _ _ _ _ _ _ _ _ | exact ih3 _ _ _ _ _ _ _ _ _ _ _ _ _ _ _ _ _ _ _ | exact impl_CartOk.mono _ _ _ _ _ _ _ _ | exact impl_CartRead.mono _ _ _ _ _ _ _ _ _ | exact impl_CartWrite.mono _ _ _ _ _ _ _ _ _ _ | exact spec_CartWrite.mono _ _ _ _ _ _ _ _ _ _ | exact spec_DrawCartWrite.mono _ _ | exact LeO.refl _ | exact LeO.none _ | refine LeO.ite ?_ ?_ | refine LeO.bind ?_ (fun _ => ?_))
   | exact ih0 _ _ _ _ _ _ _ _ _ _ _ _ _ _ _ _ _ _ _ _ _ _ _ _ _ _
   | exact ih1 _ _ _ _ _ _ _ _ _ _ _ _ _ _ _ _ _
   | exact ih2 _ _ _ _ _ _ _ _ _ _ _ _ _ _ _ _ _ _
   | exact ih3 _ _ _ _ _ _ _ _ _ _ _ _ _ _ _ _ _ _ _
   | exact impl_CartOk.mono _ _ _ _ _ _ _ _
   | exact impl_CartRead.mono _ _ _ _ _ _ _ _ _
   | exact impl_CartWrite.mono _ _ _ _ _ _ _ _ _ _
   | exact spec_CartWrite.mono _ _ _ _ _ _ _ _ _ _
   | exact spec_DrawCartWrite.mono _ _
   | exact LeO.none _
   | refine LeO.ite ?_ ?_
   | refine LeO.bind ?_ (fun _ => ?_)
  ·intro y0 y1 y2 y3 y4 y5 y6 y7 y8 y9 y10 y11 y12 y13 y14 y15 y16 y17
   unfold laws_FnCartWrites.l0
   repeat' first
   | (with_reducible first | exact ih0 _ _ _ _ _ _ _ _ _ _ _ _ _ _ _ _ _ _ _ _ _ _ _ _ _ _ | exact ih1 _ _ _ _ _ _ _ _ _ _ _ _ _ _ _ _ _ | exact ih2 _ _ _ _ _ _ _ _ _ _ _ _ _ _ _ _ _ _ | exact ih3 _ _ _ _ _ _ _ _ _ _ _ _ _ _ _ _ _ _ _ | exact impl_CartOk.mono _ _ _ _ _ _ _ _ | exact impl_CartRead.mono _ _ _ _ _ _ _ _ _ | exact impl_CartWrite.mono _ _ _ _ _ _ _ _ _ _ | exact spec_CartWrite.mono _ _ _ _ _ _ _ _ _ _ | exact spec_DrawCartWrite.mono _ _ | exact LeO.refl _ | exact LeO.none _ | refine LeO.ite ?_ ?_ | refine LeO.bind ?_ (fun _ => ?_))
   | exact ih0 _ _ _ _ _ _ _ _ _ _ _ _ _ _ _ _ _ _ _ _ _ _ _ _ _ _
   | exact ih1 _ _ _ _ _ _ _ _ _ _ _ _ _ _ _ _ _
   | exact ih2 _ _ _ _ _ _ _ _ _ _ _ _ _ _ _ _ _ _
   | exact ih3 _ _ _ _ _ _ _ _ _ _ _ _ _ _ _ _ _ _ _
   | exact impl_CartOk.mono _ _ _ _ _ _ _ _
   | exact impl_CartRead.mono _ _ _ _ _ _ _ _ _
   | exact impl_CartWrite.mono _ _ _ _ _ _ _ _ _ _
   | exact spec_CartWrite.mono _ _ _ _ _ _ _ _ _ _
   | exact spec_DrawCartWrite.mono _ _
   | exact LeO.none _
   | refine LeO.ite ?_ ?_
   | refine LeO.bind ?_ (fun _ => ?_)
  ·intro y0 y1 y2 y3 y4 y5 y6 y7 y8 y9 y10 y11 y12 y13 y14 y15 y16 y17 y18
   unfold laws_FnCartWrites.j3
   repeat' first
   | (with_reducible first | exact ih0 _ _ _ _ _ _ _ _ _ _ _ _ _ _ _ _ _ _ _ _ _ _ _ _ _ _ | exact ih1 _ _ _ _ _ _ _ _ _ _ _ _ _ _ _ _ _ | exact ih2 _ _ _ _ _ _ _ _ _ _ _ _ _ _ _ _ _ _ | exact ih3 _ _ _ _ _ _ _ _ _ _ _ _ _ _ _ _ _ _ _ | exact impl_CartOk.mono _ _ _ _ _ _ _ _ | exact impl_CartRead.mono _ _ _ _ _ _ _ _ _ | exact impl_CartWrite.mono _ _ _ _ _ _ _ _ _ _ | exact spec_CartWrite.mono _ _ _ _ _ _ _ _ _ _ | exact spec_DrawCartWrite.mono _ _ | exact LeO.refl _ | exact LeO.none _ | refine LeO.ite ?_ ?_ | refine LeO.bind ?_ (fun _ => ?_))
   | exact ih0 _ _ _ _ _ _ _ _ _ _ _ _ _ _ _ _ _ _ _ _ _ _ _ _ _ _
   | exact ih1 _ _ _ _ _ _ _ _ _ _ _ _ _ _ _ _ _
   | exact ih2 _ _ _ _ _ _ _ _ _ _ _ _ _ _ _ _ _ _
   | exact ih3 _ _ _ _ _ _ _ _ _ _ _ _ _ _ _ _ _ _ _
   | exact impl_CartOk.mono _ _ _ _ _ _ _ _
   | exact impl_CartRead.mono _ _ _ _ _ _ _ _ _
   | exact impl_CartWrite.mono _ _ _ _ _ _ _ _ _ _
   | exact spec_CartWrite.mono _ _ _ _ _ _ _ _ _ _
   | exact spec_DrawCartWrite.mono _ _
   | exact LeO.none _
   | refine LeO.ite ?_ ?_
   | refine LeO.bind ?_ (fun _ => ?_)
theorem laws_FnCartWrites.mono : ∀ a0 k, LeO (laws_FnCartWrites.f k a0) (laws_FnCartWrites.f (k + 1) a0) := by
 intro a0 k
 obtain ⟨ih0, ih1, ih2, ih3⟩ := laws_FnCartWrites.mono_l k
 unfold laws_FnCartWrites.f
 repeat' first
   | (with_reducible first | exact ih0 _ _ _ _ _ _ _ _ _ _ _ _ _ _ _ _ _ _ _ _ _ _ _ _ _ _ | exact ih1 _ _ _ _ _ _ _ _ _ _ _ _ _ _ _ _ _ | exact ih2 _ _ _ _ _ _ _ _ _ _ _ _ _ _ _ _ _ _ | exact ih3 _ _ _ _ _ _ _ _ _ _ _ _ _ _ _ _ _ _ _ | exact impl_CartOk.mono _ _ _ _ _ _ _ _ | exact impl_CartRead.mono _ _ _ _ _ _ _ _ _ | exact impl_CartWrite.mono _ _ _ _ _ _ _ _ _ _ | exact spec_CartWrite.mono _ _ _ _ _ _ _ _ _ _ | exact spec_DrawCartWrite.mono _ _ | exact LeO.refl _ | exact LeO.none _ | refine LeO.ite ?_ ?_ | refine LeO.bind ?_ (fun _ => ?_))
   | exact ih0 _ _ _ _ _ _ _ _ _ _ _ _ _ _ _ _ _ _ _ _ _ _ _ _ _ _
   | exact ih1 _ _ _ _ _ _ _ _ _ _ _ _ _ _ _ _ _
   | exact ih2 _ _ _ _ _ _ _ _ _ _ _ _ _ _ _ _ _ _
   | exact ih3 _ _ _ _ _ _ _ _ _ _ _ _ _ _ _ _ _ _ _
   | exact impl_CartOk.mono _ _ _ _ _ _ _ _
   | exact impl_CartRead.mono _ _ _ _ _ _ _ _ _
   | exact impl_CartWrite.mono _ _ _ _ _ _ _ _ _ _
   | exact spec_CartWrite.mono _ _ _ _ _ _ _ _ _ _
   | exact spec_DrawCartWrite.mono _ _
   | exact LeO.none _
   | refine LeO.ite ?_ ?_
   | refine LeO.bind ?_ (fun _ => ?_)
theorem laws_FnCartWrites.calls (k : Nat) (A0 : Option Addr) (c0 : Nat) (l0 : List Int) (r : Bool) (w : World) (hr0 : Kd.C (Kd.int .u8) w A0 l0.length l0) (hc0 : l0.length ≤ c0) (h : laws_FnCartWrites.f k l0 = some r) :
  Calls Try.prog 8 #[.slice A0 l0.length c0] w fun e w' => e = .returned (.bool r) ∧ Below w.heap.size w w' := by
 have hu32 := Try.underlying32
 have HR0 := Aside0.mk hr0
 have HC0 := Aside0.mk hc0
 clear hr0 hc0
 have HB := Aside0.mk (Below.refl w.heap.size w)
 have H : ((laws_big.f l0).bind fun t523 => (if t523 = true then (some true) else ((spec_DrawCartWrite.f k l0).bind fun bt524 => ((impl_CartWrite.f k bt524.1 bt524.2.1 bt524.2.2.1 bt524.2.2.2.1 bt524.2.2.2.2.1 bt524.2.2.2.2.2.1 bt524.2.2.2.2.2.2.1 bt524.2.2.2.2.2.2.2.1 bt524.2.2.2.2.2.2.2.2).bind fun bt534 => ((spec_CartWrite.f k bt524.1 bt524.2.1 bt524.2.2.1 bt524.2.2.2.1 bt524.2.2.2.2.1 bt524.2.2.2.2.2.1 bt524.2.2.2.2.2.2.1 bt524.2.2.2.2.2.2.2.1 bt524.2.2.2.2.2.2.2.2).bind fun bt543 => (if (bt534.2.2.2.2.2.2.2 != bt543.2.2.2.2.2.2.2) = true then (laws_FnCartWrites.j0 k bt524.2.2.2.2.2.2.2.1 bt524.2.2.2.2.2.2.2.2 bt534.2.2.2.2.2.2.2 bt543.2.2.2.2.2.2.2 true bt524.1 bt524.2.1 bt524.2.2.1 bt524.2.2.2.1 bt524.2.2.2.2.1 bt524.2.2.2.2.2.1 bt524.2.2.2.2.2.2.1 bt534.1 bt534.2.1 bt534.2.2.1 bt534.2.2.2.1 bt534.2.2.2.2.1 bt534.2.2.2.2.2.1 bt534.2.2.2.2.2.2.1 bt543.1 bt543.2.1 bt543.2.2.1 bt543.2.2.2.1 bt543.2.2.2.2.1 bt543.2.2.2.2.2.1 bt543.2.2.2.2.2.2.1) else ((laws_sameCart.f bt534.1 bt534.2.1 bt534.2.2.1 bt534.2.2.2.1 bt534.2.2.2.2.1 bt534.2.2.2.2.2.1 bt534.2.2.2.2.2.2.1 bt543.1 bt543.2.1 bt543.2.2.1 bt543.2.2.2.1 bt543.2.2.2.2.1 bt543.2.2.2.2.2.1 bt543.2.2.2.2.2.2.1).bind fun t552 => (if t552 = true then (laws_FnCartWrites.j0 k bt524.2.2.2.2.2.2.2.1 bt524.2.2.2.2.2.2.2.2 bt534.2.2.2.2.2.2.2 bt543.2.2.2.2.2.2.2 (!bt534.2.2.2.2.2.2.2) bt524.1 bt524.2.1 bt524.2.2.1 bt524.2.2.2.1 bt524.2.2.2.2.1 bt524.2.2.2.2.2.1 bt524.2.2.2.2.2.2.1 bt534.1 bt534.2.1 bt534.2.2.1 bt534.2.2.2.1 bt534.2.2.2.2.1 bt534.2.2.2.2.2.1 bt534.2.2.2.2.2.2.1 bt543.1 bt543.2.1 bt543.2.2.1 bt543.2.2.2.1 bt543.2.2.2.2.1 bt543.2.2.2.2.2.1 bt543.2.2.2.2.2.2.1) else (laws_FnCartWrites.j0 k bt524.2.2.2.2.2.2.2.1 bt524.2.2.2.2.2.2.2.2 bt534.2.2.2.2.2.2.2 bt543.2.2.2.2.2.2.2 true bt524.1 bt524.2.1 bt524.2.2.1 bt524.2.2.2.1 bt524.2.2.2.2.1 bt524.2.2.2.2.2.1 bt524.2.2.2.2.2.2.1 bt534.1 bt534.2.1 bt534.2.2.1 bt534.2.2.2.1 bt534.2.2.2.2.1 bt534.2.2.2.2.2.1 bt534.2.2.2.2.2.2.1 bt543.1 bt543.2.1 bt543.2.2.1 bt543.2.2.2.1 bt543.2.2.2.2.1 bt543.2.2.2.2.2.1 bt543.2.2.2.2.2.2.1))))))))) = some r := h
 clear h
 replace H := Option.bind_eq_some_iff.mp H
 obtain ⟨t523, A20, H⟩ := H
 have A2 := Aside0.mk A20
 clear A20
 by_cases c3 : t523 = true
 ·subst c3
  replace H : (some true) = some r := by rw [if_pos rfl] at H; exact H
  obtain rfl := Option.some.inj H
  go_enter Try.func8, Try.ntmps8
  go_wp2_with (first | ((with_reducible refine gate_callee (f := 12) rfl ?_); refine goesL_ (some 14) rfl rfl Try.func12 (by kernel_rfl) rfl #[.slice A0 l0.length c0] rfl q101_ ?_; (with_reducible refine (laws_big.calls _ _ l0 true _ ?side1 ?side2 A2.out).mono ?_); (case side1 => exact q173_); (case side2 => exact HC0.out); rintro e w' ⟨rfl, ⟨nd, rfl⟩⟩; refine ⟨_, rfl, ?_⟩))
  go_ret
  exact ⟨q103_, q102_⟩
 ·replace c3 := Bool.eq_false_iff.mpr c3
  subst c3
  replace H : ((spec_DrawCartWrite.f k l0).bind fun bt524 => ((impl_CartWrite.f k bt524.1 bt524.2.1 bt524.2.2.1 bt524.2.2.2.1 bt524.2.2.2.2.1 bt524.2.2.2.2.2.1 bt524.2.2.2.2.2.2.1 bt524.2.2.2.2.2.2.2.1 bt524.2.2.2.2.2.2.2.2).bind fun bt534 => ((spec_CartWrite.f k bt524.1 bt524.2.1 bt524.2.2.1 bt524.2.2.2.1 bt524.2.2.2.2.1 bt524.2.2.2.2.2.1 bt524.2.2.2.2.2.2.1 bt524.2.2.2.2.2.2.2.1 bt524.2.2.2.2.2.2.2.2).bind fun bt543 => (if (bt534.2.2.2.2.2.2.2 != bt543.2.2.2.2.2.2.2) = true then (laws_FnCartWrites.j0 k bt524.2.2.2.2.2.2.2.1 bt524.2.2.2.2.2.2.2.2 bt534.2.2.2.2.2.2.2 bt543.2.2.2.2.2.2.2 true bt524.1 bt524.2.1 bt524.2.2.1 bt524.2.2.2.1 bt524.2.2.2.2.1 bt524.2.2.2.2.2.1 bt524.2.2.2.2.2.2.1 bt534.1 bt534.2.1 bt534.2.2.1 bt534.2.2.2.1 bt534.2.2.2.2.1 bt534.2.2.2.2.2.1 bt534.2.2.2.2.2.2.1 bt543.1 bt543.2.1 bt543.2.2.1 bt543.2.2.2.1 bt543.2.2.2.2.1 bt543.2.2.2.2.2.1 bt543.2.2.2.2.2.2.1) else ((laws_sameCart.f bt534.1 bt534.2.1 bt534.2.2.1 bt534.2.2.2.1 bt534.2.2.2.2.1 bt534.2.2.2.2.2.1 bt534.2.2.2.2.2.2.1 bt543.1 bt543.2.1 bt543.2.2.1 bt543.2.2.2.1 bt543.2.2.2.2.1 bt543.2.2.2.2.2.1 bt543.2.2.2.2.2.2.1).bind fun t552 => (if t552 = true then (laws_FnCartWrites.j0 k bt524.2.2.2.2.2.2.2.1 bt524.2.2.2.2.2.2.2.2 bt534.2.2.2.2.2.2.2 bt543.2.2.2.2.2.2.2 (!bt534.2.2.2.2.2.2.2) bt524.1 bt524.2.1 bt524.2.2.1 bt524.2.2.2.1 bt524.2.2.2.2.1 bt524.2.2.2.2.2.1 bt524.2.2.2.2.2.2.1 bt534.1 bt534.2.1 bt534.2.2.1 bt534.2.2.2.1 bt534.2.2.2.2.1 bt534.2.2.2.2.2.1 bt534.2.2.2.2.2.2.1 bt543.1 bt543.2.1 bt543.2.2.1 bt543.2.2.2.1 bt543.2.2.2.2.1 bt543.2.2.2.2.2.1 bt543.2.2.2.2.2.2.1) else (laws_FnCartWrites.j0 k bt524.2.2.2.2.2.2.2.1 bt524.2.2.2.2.2.2.2.2 bt534.2.2.2.2.2.2.2 bt543.2.2.2.2.2.2.2 true bt524.1 bt524.2.1 bt524.2.2.1 bt524.2.2.2.1 bt524.2.2.2.2.1 bt524.2.2.2.2.2.1 bt524.2.2.2.2.2.2.1 bt534.1 bt534.2.1 bt534.2.2.1 bt534.2.2.2.1 bt534.2.2.2.2.1 bt534.2.2.2.2.2.1 bt534.2.2.2.2.2.2.1 bt543.1 bt543.2.1 bt543.2.2.1 bt543.2.2.2.1 bt543.2.2.2.2.1 bt543.2.2.2.2.2.1 bt543.2.2.2.2.2.2.1))))))) = some r := by rw [if_neg (show ¬ (false = true) by decide)] at H; exact H
  replace H := Option.bind_eq_some_iff.mp H
  obtain ⟨⟨t524, t525, t526, t527, t528, t529, t530, t531, t532⟩, A40, H⟩ := H
  replace H : ((impl_CartWrite.f k t524 t525 t526 t527 t528 t529 t530 t531 t532).bind fun bt534 => ((spec_CartWrite.f k t524 t525 t526 t527 t528 t529 t530 t531 t532).bind fun bt543 => (if (bt534.2.2.2.2.2.2.2 != bt543.2.2.2.2.2.2.2) = true then (laws_FnCartWrites.j0 k t531 t532 bt534.2.2.2.2.2.2.2 bt543.2.2.2.2.2.2.2 true t524 t525 t526 t527 t528 t529 t530 bt534.1 bt534.2.1 bt534.2.2.1 bt534.2.2.2.1 bt534.2.2.2.2.1 bt534.2.2.2.2.2.1 bt534.2.2.2.2.2.2.1 bt543.1 bt543.2.1 bt543.2.2.1 bt543.2.2.2.1 bt543.2.2.2.2.1 bt543.2.2.2.2.2.1 bt543.2.2.2.2.2.2.1) else ((laws_sameCart.f bt534.1 bt534.2.1 bt534.2.2.1 bt534.2.2.2.1 bt534.2.2.2.2.1 bt534.2.2.2.2.2.1 bt534.2.2.2.2.2.2.1 bt543.1 bt543.2.1 bt543.2.2.1 bt543.2.2.2.1 bt543.2.2.2.2.1 bt543.2.2.2.2.2.1 bt543.2.2.2.2.2.2.1).bind fun t552 => (if t552 = true then (laws_FnCartWrites.j0 k t531 t532 bt534.2.2.2.2.2.2.2 bt543.2.2.2.2.2.2.2 (!bt534.2.2.2.2.2.2.2) t524 t525 t526 t527 t528 t529 t530 bt534.1 bt534.2.1 bt534.2.2.1 bt534.2.2.2.1 bt534.2.2.2.2.1 bt534.2.2.2.2.2.1 bt534.2.2.2.2.2.2.1 bt543.1 bt543.2.1 bt543.2.2.1 bt543.2.2.2.1 bt543.2.2.2.2.1 bt543.2.2.2.2.2.1 bt543.2.2.2.2.2.2.1) else (laws_FnCartWrites.j0 k t531 t532 bt534.2.2.2.2.2.2.2 bt543.2.2.2.2.2.2.2 true t524 t525 t526 t527 t528 t529 t530 bt534.1 bt534.2.1 bt534.2.2.1 bt534.2.2.2.1 bt534.2.2.2.2.1 bt534.2.2.2.2.2.1 bt534.2.2.2.2.2.2.1 bt543.1 bt543.2.1 bt543.2.2.1 bt543.2.2.2.1 bt543.2.2.2.2.1 bt543.2.2.2.2.2.1 bt543.2.2.2.2.2.2.1)))))) = some r := H
  have A4 := Aside0.mk A40
  clear A40
  replace H := Option.bind_eq_some_iff.mp H
  obtain ⟨⟨t534, t535, t536, t537, t538, t539, t540, t541⟩, A50, H⟩ := H
  replace H : ((spec_CartWrite.f k t524 t525 t526 t527 t528 t529 t530 t531 t532).bind fun bt543 => (if (t541 != bt543.2.2.2.2.2.2.2) = true then (laws_FnCartWrites.j0 k t531 t532 t541 bt543.2.2.2.2.2.2.2 true t524 t525 t526 t527 t528 t529 t530 t534 t535 t536 t537 t538 t539 t540 bt543.1 bt543.2.1 bt543.2.2.1 bt543.2.2.2.1 bt543.2.2.2.2.1 bt543.2.2.2.2.2.1 bt543.2.2.2.2.2.2.1) else ((laws_sameCart.f t534 t535 t536 t537 t538 t539 t540 bt543.1 bt543.2.1 bt543.2.2.1 bt543.2.2.2.1 bt543.2.2.2.2.1 bt543.2.2.2.2.2.1 bt543.2.2.2.2.2.2.1).bind fun t552 => (if t552 = true then (laws_FnCartWrites.j0 k t531 t532 t541 bt543.2.2.2.2.2.2.2 (!t541) t524 t525 t526 t527 t528 t529 t530 t534 t535 t536 t537 t538 t539 t540 bt543.1 bt543.2.1 bt543.2.2.1 bt543.2.2.2.1 bt543.2.2.2.2.1 bt543.2.2.2.2.2.1 bt543.2.2.2.2.2.2.1) else (laws_FnCartWrites.j0 k t531 t532 t541 bt543.2.2.2.2.2.2.2 true t524 t525 t526 t527 t528 t529 t530 t534 t535 t536 t537 t538 t539 t540 bt543.1 bt543.2.1 bt543.2.2.1 bt543.2.2.2.1 bt543.2.2.2.2.1 bt543.2.2.2.2.2.1 bt543.2.2.2.2.2.2.1))))) = some r := H
  have A5 := Aside0.mk A50
  clear A50
  replace H := Option.bind_eq_some_iff.mp H
  obtain ⟨⟨t543, t544, t545, t546, t547, t548, t549, t550⟩, A60, H⟩ := H
  replace H : (if (t541 != t550) = true then (laws_FnCartWrites.j0 k t531 t532 t541 t550 true t524 t525 t526 t527 t528 t529 t530 t534 t535 t536 t537 t538 t539 t540 t543 t544 t545 t546 t547 t548 t549) else ((laws_sameCart.f t534 t535 t536 t537 t538 t539 t540 t543 t544 t545 t546 t547 t548 t549).bind fun t552 => (if t552 = true then (laws_FnCartWrites.j0 k t531 t532 t541 t550 (!t541) t524 t525 t526 t527 t528 t529 t530 t534 t535 t536 t537 t538 t539 t540 t543 t544 t545 t546 t547 t548 t549) else (laws_FnCartWrites.j0 k t531 t532 t541 t550 true t524 t525 t526 t527 t528 t529 t530 t534 t535 t536 t537 t538 t539 t540 t543 t544 t545 t546 t547 t548 t549)))) = some r := H
  have A6 := Aside0.mk A60
  clear A60
  have HC7 := Aside0.mk H
  clear H
  go_enter Try.func8, Try.ntmps8
  go_upto_region 6 with (first | ((with_reducible refine gate_callee (f := 12) rfl ?_); refine goesL_ (some 14) rfl rfl Try.func12 (by kernel_rfl) rfl #[.slice A0 l0.length c0] rfl q101_ ?_; (with_reducible refine (laws_big.calls _ _ l0 false _ ?side1 ?side2 A2.out).mono ?_); (case side1 => exact q173_); (case side2 => exact HC0.out); rintro e w' ⟨rfl, ⟨nd, rfl⟩⟩; refine ⟨_, rfl, ?_⟩) | ((with_reducible refine gate_callee (f := 17) rfl ?_); refine goesL_ (some 17) rfl rfl Try.func17 (by kernel_rfl) rfl #[.slice A0 l0.length c0] rfl q101_ ?_; (with_reducible refine (spec_DrawCartWrite.calls k _ _ l0 t524 t525 t526 t527 t528 t529 t530 t531 t532 _ ?side1 ?side2 A4.out).mono ?_); (case side1 => exact q173_); (case side2 => exact HC0.out); rintro e w8 ⟨rfl, hb⟩; refine ⟨_, rfl, ?_⟩; replace HB := Aside0.mk (below_step q102_ hb); (try clear hb)) | ((with_reducible refine gate_dst (N := 3) rfl ?_); refine box_event ?hg (N := 3) ?hd (cs := #[.string (⟨#[]⟩ : ByteArray), .int .i64 0, .int .i64 0, .string (⟨#[]⟩ : ByteArray), .int .i64 0, .bool false, .int .i64 0]) (t := 32) ?hr ?_; (case hd => rfl); (case hg => rfl); (case hr => exact q175_); intro gb533 hg w9 hbox hb; have n0_ := Aside0.mk (below_step q102_ hb); have n1_ := Aside0.mk (hbox); have n2_ := Aside0.mk ((q80_ : w.heap.size ≤ gb533)); have n3_ := Aside0.mk ((q80_ : w.heap.size ≤ gb533)); clear HB; have HB := n0_; have BK533 := n1_; have GW533 := n2_; have GE533 := n3_; clear n0_ n1_ n2_ n3_; clear hb hbox hg; have hcz10_0 : w9.cell? ⟨gb533, 0, none⟩ = some (.string (⟨#[]⟩ : ByteArray)) := (blk_cell BK533.out 0).trans rfl; have hcz10_1 : w9.cell? ⟨gb533, 1, none⟩ = some (.int .i64 0) := (blk_cell BK533.out 1).trans rfl; have hcz10_2 : w9.cell? ⟨gb533, 2, none⟩ = some (.int .i64 0) := (blk_cell BK533.out 2).trans rfl; have hcz10_3 : w9.cell? ⟨gb533, 3, none⟩ = some (.string (⟨#[]⟩ : ByteArray)) := (blk_cell BK533.out 3).trans rfl; have hcz10_4 : w9.cell? ⟨gb533, 4, none⟩ = some (.int .i64 0) := (blk_cell BK533.out 4).trans rfl; have hcz10_5 : w9.cell? ⟨gb533, 5, none⟩ = some (.bool false) := (blk_cell BK533.out 5).trans rfl; have hcz10_6 : w9.cell? ⟨gb533, 6, none⟩ = some (.int .i64 0) := (blk_cell BK533.out 6).trans rfl; have hfz10_0 := blk_frozen BK533.out 0; have hfz10_1 := blk_frozen BK533.out 1; have hfz10_2 := blk_frozen BK533.out 2; have hfz10_3 := blk_frozen BK533.out 3; have hfz10_4 := blk_frozen BK533.out 4; have hfz10_5 := blk_frozen BK533.out 5; have hfz10_6 := blk_frozen BK533.out 6) | ((with_reducible refine gate_callee (f := 18) rfl ?_); refine goesL_ (some 25) rfl rfl Try.func18 (by kernel_rfl) rfl #[.agg #[.string t524, .int .i64 t525, .int .i64 t526, .string t527, .int .i64 t528, .bool t529, .int .i64 t530], .int .i64 t531, .int .i64 t532] rfl q101_ ?_; (with_reducible refine (impl_CartWrite.calls k t524 t525 t526 t527 t528 t529 t530 t531 t532 t534 t535 t536 t537 t538 t539 t540 t541 _ A5.out).mono ?_); rintro e w11 ⟨rfl, hb⟩; refine ⟨_, rfl, ?_⟩; have n0_ := Aside0.mk (blk_below (g := gb533) (o := .cells #[.string t524, .int .i64 t525, .int .i64 t526, .string t527, .int .i64 t528, .bool t529, .int .i64 t530] 32 (0, 0)) (by (with_reducible repeat (first | refine blk_drewN ?_ _ | refine blk_drew ?_ | refine blk_alloc ?_ _)); refine blk_put (cs := #[.string t524, .int .i64 t525, .int .i64 t526, .string t527, .int .i64 t528, .bool t529, .int .i64 0]) ?_ 6 _ rfl; (with_reducible repeat (first | refine blk_drewN ?_ _ | refine blk_drew ?_ | refine blk_alloc ?_ _)); refine blk_put (cs := #[.string t524, .int .i64 t525, .int .i64 t526, .string t527, .int .i64 t528, .bool false, .int .i64 0]) ?_ 5 _ rfl; (with_reducible repeat (first | refine blk_drewN ?_ _ | refine blk_drew ?_ | refine blk_alloc ?_ _)); refine blk_put (cs := #[.string t524, .int .i64 t525, .int .i64 t526, .string t527, .int .i64 0, .bool false, .int .i64 0]) ?_ 4 _ rfl; (with_reducible repeat (first | refine blk_drewN ?_ _ | refine blk_drew ?_ | refine blk_alloc ?_ _)); refine blk_put (cs := #[.string t524, .int .i64 t525, .int .i64 t526, .string (⟨#[]⟩ : ByteArray), .int .i64 0, .bool false, .int .i64 0]) ?_ 3 _ rfl; (with_reducible repeat (first | refine blk_drewN ?_ _ | refine blk_drew ?_ | refine blk_alloc ?_ _)); refine blk_put (cs := #[.string t524, .int .i64 t525, .int .i64 0, .string (⟨#[]⟩ : ByteArray), .int .i64 0, .bool false, .int .i64 0]) ?_ 2 _ rfl; (with_reducible repeat (first | refine blk_drewN ?_ _ | refine blk_drew ?_ | refine blk_alloc ?_ _)); refine blk_put (cs := #[.string t524, .int .i64 0, .int .i64 0, .string (⟨#[]⟩ : ByteArray), .int .i64 0, .bool false, .int .i64 0]) ?_ 1 _ rfl; (with_reducible repeat (first | refine blk_drewN ?_ _ | refine blk_drew ?_ | refine blk_alloc ?_ _)); refine blk_put (cs := #[.string (⟨#[]⟩ : ByteArray), .int .i64 0, .int .i64 0, .string (⟨#[]⟩ : ByteArray), .int .i64 0, .bool false, .int .i64 0]) ?_ 0 _ rfl; (with_reducible repeat (first | refine blk_drewN ?_ _ | refine blk_drew ?_ | refine blk_alloc ?_ _)); exact BK533.out) hb); have n1_ := Aside0.mk (below_step q94_ hb); clear BK533; clear HB; have BK533 := n0_; have HB := n1_; clear n0_ n1_; (try clear hb)) | ((with_reducible refine gate_dst (N := 6) rfl ?_); refine box_event ?hg (N := 6) ?hd (cs := #[.string (⟨#[]⟩ : ByteArray), .int .i64 0, .int .i64 0, .string (⟨#[]⟩ : ByteArray), .int .i64 0, .bool false, .int .i64 0]) (t := 32) ?hr ?_; (case hd => rfl); (case hg => rfl); (case hr => exact q175_); intro gb542 hg w12 hbox hb; have n0_ := Aside0.mk (blk_below (g := gb533) (o := .cells #[.string t524, .int .i64 t525, .int .i64 t526, .string t527, .int .i64 t528, .bool t529, .int .i64 t530] 32 (0, 0)) q129_ hb); have n1_ := Aside0.mk (below_step q94_ hb); have n2_ := Aside0.mk (hbox); have n3_ := Aside0.mk ((q66_ : w.heap.size ≤ gb542)); have n4_ := Aside0.mk ((q66_ : w.heap.size ≤ gb542)); have n5_ := Aside0.mk ((q28_ : gb533 ≠ gb542)); have n6_ := Aside0.mk ((q29_ : gb542 ≠ gb533)); clear BK533; clear HB; have BK533 := n0_; have HB := n1_; have BK542 := n2_; have GW542 := n3_; have GE542 := n4_; have NB533_542 := n5_; have NB542_533 := n6_; clear n0_ n1_ n2_ n3_ n4_ n5_ n6_; clear hb hbox hg; have hnb13 := NB542_533.out; have hnc13 := NB533_542.out; have hcz14_0 : w12.cell? ⟨gb542, 0, none⟩ = some (.string (⟨#[]⟩ : ByteArray)) := (blk_cell BK542.out 0).trans rfl; have hcz14_1 : w12.cell? ⟨gb542, 1, none⟩ = some (.int .i64 0) := (blk_cell BK542.out 1).trans rfl; have hcz14_2 : w12.cell? ⟨gb542, 2, none⟩ = some (.int .i64 0) := (blk_cell BK542.out 2).trans rfl; have hcz14_3 : w12.cell? ⟨gb542, 3, none⟩ = some (.string (⟨#[]⟩ : ByteArray)) := (blk_cell BK542.out 3).trans rfl; have hcz14_4 : w12.cell? ⟨gb542, 4, none⟩ = some (.int .i64 0) := (blk_cell BK542.out 4).trans rfl; have hcz14_5 : w12.cell? ⟨gb542, 5, none⟩ = some (.bool false) := (blk_cell BK542.out 5).trans rfl; have hcz14_6 : w12.cell? ⟨gb542, 6, none⟩ = some (.int .i64 0) := (blk_cell BK542.out 6).trans rfl; have hfz14_0 := blk_frozen BK542.out 0; have hfz14_1 := blk_frozen BK542.out 1; have hfz14_2 := blk_frozen BK542.out 2; have hfz14_3 := blk_frozen BK542.out 3; have hfz14_4 := blk_frozen BK542.out 4; have hfz14_5 := blk_frozen BK542.out 5; have hfz14_6 := blk_frozen BK542.out 6; have hcz15_0 : w12.cell? ⟨gb533, 0, none⟩ = some (.string t524) := (blk_cell BK533.out 0).trans rfl; have hcz15_1 : w12.cell? ⟨gb533, 1, none⟩ = some (.int .i64 t525) := (blk_cell BK533.out 1).trans rfl; have hcz15_2 : w12.cell? ⟨gb533, 2, none⟩ = some (.int .i64 t526) := (blk_cell BK533.out 2).trans rfl; have hcz15_3 : w12.cell? ⟨gb533, 3, none⟩ = some (.string t527) := (blk_cell BK533.out 3).trans rfl; have hcz15_4 : w12.cell? ⟨gb533, 4, none⟩ = some (.int .i64 t528) := (blk_cell BK533.out 4).trans rfl; have hcz15_5 : w12.cell? ⟨gb533, 5, none⟩ = some (.bool t529) := (blk_cell BK533.out 5).trans rfl; have hcz15_6 : w12.cell? ⟨gb533, 6, none⟩ = some (.int .i64 t530) := (blk_cell BK533.out 6).trans rfl; have hfz15_0 := blk_frozen BK533.out 0; have hfz15_1 := blk_frozen BK533.out 1; have hfz15_2 := blk_frozen BK533.out 2; have hfz15_3 := blk_frozen BK533.out 3; have hfz15_4 := blk_frozen BK533.out 4; have hfz15_5 := blk_frozen BK533.out 5; have hfz15_6 := blk_frozen BK533.out 6) | ((with_reducible refine gate_callee (f := 19) rfl ?_); refine goesL_ (some 32) rfl rfl Try.func19 (by kernel_rfl) rfl #[.agg #[.string t524, .int .i64 t525, .int .i64 t526, .string t527, .int .i64 t528, .bool t529, .int .i64 t530], .int .i64 t531, .int .i64 t532] rfl q101_ ?_; (with_reducible refine (spec_CartWrite.calls k t524 t525 t526 t527 t528 t529 t530 t531 t532 t543 t544 t545 t546 t547 t548 t549 t550 _ A6.out).mono ?_); rintro e w16 ⟨rfl, hb⟩; refine ⟨_, rfl, ?_⟩; have n0_ := Aside0.mk (blk_below (g := gb533) (o := .cells #[.string t524, .int .i64 t525, .int .i64 t526, .string t527, .int .i64 t528, .bool t529, .int .i64 t530] 32 (0, 0)) (by (with_reducible repeat (first | refine blk_drewN ?_ _ | refine blk_drew ?_ | refine blk_alloc ?_ _)); refine blk_far ?_ NB533_542.out _; (with_reducible repeat (first | refine blk_drewN ?_ _ | refine blk_drew ?_ | refine blk_alloc ?_ _)); refine blk_far ?_ NB533_542.out _; (with_reducible repeat (first | refine blk_drewN ?_ _ | refine blk_drew ?_ | refine blk_alloc ?_ _)); refine blk_far ?_ NB533_542.out _; (with_reducible repeat (first | refine blk_drewN ?_ _ | refine blk_drew ?_ | refine blk_alloc ?_ _)); refine blk_far ?_ NB533_542.out _; (with_reducible repeat (first | refine blk_drewN ?_ _ | refine blk_drew ?_ | refine blk_alloc ?_ _)); refine blk_far ?_ NB533_542.out _; (with_reducible repeat (first | refine blk_drewN ?_ _ | refine blk_drew ?_ | refine blk_alloc ?_ _)); refine blk_far ?_ NB533_542.out _; (with_reducible repeat (first | refine blk_drewN ?_ _ | refine blk_drew ?_ | refine blk_alloc ?_ _)); refine blk_far ?_ NB533_542.out _; (with_reducible repeat (first | refine blk_drewN ?_ _ | refine blk_drew ?_ | refine blk_alloc ?_ _)); exact BK533.out) hb); have n1_ := Aside0.mk (blk_below (g := gb542) (o := .cells #[.string t534, .int .i64 t535, .int .i64 t536, .string t537, .int .i64 t538, .bool t539, .int .i64 t540] 32 (0, 0)) (by (with_reducible repeat (first | refine blk_drewN ?_ _ | refine blk_drew ?_ | refine blk_alloc ?_ _)); refine blk_put (cs := #[.string t534, .int .i64 t535, .int .i64 t536, .string t537, .int .i64 t538, .bool t539, .int .i64 0]) ?_ 6 _ rfl; (with_reducible repeat (first | refine blk_drewN ?_ _ | refine blk_drew ?_ | refine blk_alloc ?_ _)); refine blk_put (cs := #[.string t534, .int .i64 t535, .int .i64 t536, .string t537, .int .i64 t538, .bool false, .int .i64 0]) ?_ 5 _ rfl; (with_reducible repeat (first | refine blk_drewN ?_ _ | refine blk_drew ?_ | refine blk_alloc ?_ _)); refine blk_put (cs := #[.string t534, .int .i64 t535, .int .i64 t536, .string t537, .int .i64 0, .bool false, .int .i64 0]) ?_ 4 _ rfl; (with_reducible repeat (first | refine blk_drewN ?_ _ | refine blk_drew ?_ | refine blk_alloc ?_ _)); refine blk_put (cs := #[.string t534, .int .i64 t535, .int .i64 t536, .string (⟨#[]⟩ : ByteArray), .int .i64 0, .bool false, .int .i64 0]) ?_ 3 _ rfl; (with_reducible repeat (first | refine blk_drewN ?_ _ | refine blk_drew ?_ | refine blk_alloc ?_ _)); refine blk_put (cs := #[.string t534, .int .i64 t535, .int .i64 0, .string (⟨#[]⟩ : ByteArray), .int .i64 0, .bool false, .int .i64 0]) ?_ 2 _ rfl; (with_reducible repeat (first | refine blk_drewN ?_ _ | refine blk_drew ?_ | refine blk_alloc ?_ _)); refine blk_put (cs := #[.string t534, .int .i64 0, .int .i64 0, .string (⟨#[]⟩ : ByteArray), .int .i64 0, .bool false, .int .i64 0]) ?_ 1 _ rfl; (with_reducible repeat (first | refine blk_drewN ?_ _ | refine blk_drew ?_ | refine blk_alloc ?_ _)); refine blk_put (cs := #[.string (⟨#[]⟩ : ByteArray), .int .i64 0, .int .i64 0, .string (⟨#[]⟩ : ByteArray), .int .i64 0, .bool false, .int .i64 0]) ?_ 0 _ rfl; (with_reducible repeat (first | refine blk_drewN ?_ _ | refine blk_drew ?_ | refine blk_alloc ?_ _)); exact BK542.out) hb); have n2_ := Aside0.mk (below_step q72_ hb); clear BK533; clear BK542; clear HB; have BK533 := n0_; have BK542 := n1_; have HB := n2_; clear n0_ n1_ n2_; (try clear hb)) | ((with_reducible refine gate_dst (N := 8) rfl ?_); refine box_event ?hg (N := 8) ?hd (cs := #[.string (⟨#[]⟩ : ByteArray), .int .i64 0, .int .i64 0, .string (⟨#[]⟩ : ByteArray), .int .i64 0, .bool false, .int .i64 0]) (t := 32) ?hr ?_; (case hd => rfl); (case hg => rfl); (case hr => exact q175_); intro gb551 hg w17 hbox hb; have n0_ := Aside0.mk (blk_below (g := gb533) (o := .cells #[.string t524, .int .i64 t525, .int .i64 t526, .string t527, .int .i64 t528, .bool t529, .int .i64 t530] 32 (0, 0)) q129_ hb); have n1_ := Aside0.mk (blk_below (g := gb542) (o := .cells #[.string t534, .int .i64 t535, .int .i64 t536, .string t537, .int .i64 t538, .bool t539, .int .i64 t540] 32 (0, 0)) q130_ hb); have n2_ := Aside0.mk (below_step q72_ hb); have n3_ := Aside0.mk (hbox); have n4_ := Aside0.mk ((q42_ : w.heap.size ≤ gb551)); have n5_ := Aside0.mk ((q42_ : w.heap.size ≤ gb551)); have n6_ := Aside0.mk ((q28_ : gb533 ≠ gb551)); have n7_ := Aside0.mk ((q29_ : gb551 ≠ gb533)); have n8_ := Aside0.mk ((by rw [hg]; exact Nat.ne_of_lt (blk_lt (g := gb542) (o := .cells #[.string t534, .int .i64 t535, .int .i64 t536, .string t537, .int .i64 t538, .bool t539, .int .i64 t540] 32 (0, 0)) q130_) : gb542 ≠ gb551)); have n9_ := Aside0.mk ((by rw [hg]; exact Nat.ne_of_gt (blk_lt (g := gb542) (o := .cells #[.string t534, .int .i64 t535, .int .i64 t536, .string t537, .int .i64 t538, .bool t539, .int .i64 t540] 32 (0, 0)) q130_) : gb551 ≠ gb542)); clear BK533; clear BK542; clear HB; have BK533 := n0_; have BK542 := n1_; have HB := n2_; have BK551 := n3_; have GW551 := n4_; have GE551 := n5_; have NB533_551 := n6_; have NB551_533 := n7_; have NB542_551 := n8_; have NB551_542 := n9_; clear n0_ n1_ n2_ n3_ n4_ n5_ n6_ n7_ n8_ n9_; clear hb hbox hg; have hnb18 := NB551_533.out; have hnc18 := NB533_551.out; have hnb19 := NB551_542.out; have hnc19 := NB542_551.out; have hcz20_0 : w17.cell? ⟨gb551, 0, none⟩ = some (.string (⟨#[]⟩ : ByteArray)) := (blk_cell BK551.out 0).trans rfl; have hcz20_1 : w17.cell? ⟨gb551, 1, none⟩ = some (.int .i64 0) := (blk_cell BK551.out 1).trans rfl; have hcz20_2 : w17.cell? ⟨gb551, 2, none⟩ = some (.int .i64 0) := (blk_cell BK551.out 2).trans rfl; have hcz20_3 : w17.cell? ⟨gb551, 3, none⟩ = some (.string (⟨#[]⟩ : ByteArray)) := (blk_cell BK551.out 3).trans rfl; have hcz20_4 : w17.cell? ⟨gb551, 4, none⟩ = some (.int .i64 0) := (blk_cell BK551.out 4).trans rfl; have hcz20_5 : w17.cell? ⟨gb551, 5, none⟩ = some (.bool false) := (blk_cell BK551.out 5).trans rfl; have hcz20_6 : w17.cell? ⟨gb551, 6, none⟩ = some (.int .i64 0) := (blk_cell BK551.out 6).trans rfl; have hfz20_0 := blk_frozen BK551.out 0; have hfz20_1 := blk_frozen BK551.out 1; have hfz20_2 := blk_frozen BK551.out 2; have hfz20_3 := blk_frozen BK551.out 3; have hfz20_4 := blk_frozen BK551.out 4; have hfz20_5 := blk_frozen BK551.out 5; have hfz20_6 := blk_frozen BK551.out 6))
  (try simp only [Act.put, List.setIfInBounds_toArray, List.set_cons_zero, List.set_cons_succ])
  go_cut [47] (fun v47 wc => ∃ (kq : Nat) (x47_6 : Bool), v47 = .bool x47_6 ∧ Aside0 (laws_FnCartWrites.j0 kq t531 t532 t541 t550 x47_6 t524 t525 t526 t527 t528 t529 t530 t534 t535 t536 t537 t538 t539 t540 t543 t544 t545 t546 t547 t548 t549 = some r) ∧ Aside0 (kq ≤ k) ∧ Aside0 (wc.heap[gb533]? = some (.cells #[.string t524, .int .i64 t525, .int .i64 t526, .string t527, .int .i64 t528, .bool t529, .int .i64 t530] 32 (0, 0))) ∧ Aside0 (wc.heap[gb542]? = some (.cells #[.string t534, .int .i64 t535, .int .i64 t536, .string t537, .int .i64 t538, .bool t539, .int .i64 t540] 32 (0, 0))) ∧ Aside0 (wc.heap[gb551]? = some (.cells #[.string t543, .int .i64 t544, .int .i64 t545, .string t546, .int .i64 t547, .bool t548, .int .i64 t549] 32 (0, 0))) ∧ Aside0 (Below w.heap.size w wc))
  case first =>
   have H := HC7.out
   clear HC7
   by_cases c21 : (t541 != t550) = true
   ·rw [if_pos c21] at H
    have c21b0 : (t541 != t550) = true := c21
    (try (have c21b1 : decide (t541 = t550) = false := by simpa using c21))
    (try (have c21b2 : (t541 == t550) = false := by simpa using c21))
    (try (have c21b3 : ¬ (t541 = t550) := by simpa using c21))
    clear c21
    (first | rw [c21b0] | (simp only [i64_w, i32_w]; rw [c21b0]) | skip)
    have H' := Aside0.mk H
    clear H
    go_wp2
    go_meet
    case rel => exact ⟨_, (true), q133_, H', ⟨q153_⟩, ⟨q11_⟩, ⟨q12_⟩, ⟨q6_⟩, ⟨q43_⟩⟩
   ·rw [if_neg c21] at H
    have c21b0 : (t541 != t550) = false := by simpa using c21
    (try (have c21b1 : decide (t541 = t550) = true := by simpa using c21))
    (try (have c21b2 : (t541 == t550) = true := by simpa using c21))
    clear c21
    (first | rw [c21b0] | (simp only [i64_w, i32_w]; rw [c21b0]) | skip)
    replace H := Option.bind_eq_some_iff.mp H
    obtain ⟨t552, A220, H⟩ := H
    have A22 := Aside0.mk A220
    clear A220
    by_cases c23 : t552 = true
    ·subst c23
     replace H : (laws_FnCartWrites.j0 k t531 t532 t541 t550 (!t541) t524 t525 t526 t527 t528 t529 t530 t534 t535 t536 t537 t538 t539 t540 t543 t544 t545 t546 t547 t548 t549) = some r := by rw [if_pos rfl] at H; exact H
     have H' := Aside0.mk H
     clear H
     have hnb24 := NB542_533.out
     have hnc24 := NB533_542.out
     have hnb25 := NB542_551.out
     have hnc25 := NB551_542.out
     have hcz26_0 : w17.cell? ⟨gb542, 0, none⟩ = some (.string t534) := bz_ BK542 0
     have hcz26_1 : w17.cell? ⟨gb542, 1, none⟩ = some (.int .i64 t535) := bz_ BK542 1
     have hcz26_2 : w17.cell? ⟨gb542, 2, none⟩ = some (.int .i64 t536) := bz_ BK542 2
     have hcz26_3 : w17.cell? ⟨gb542, 3, none⟩ = some (.string t537) := bz_ BK542 3
     have hcz26_4 : w17.cell? ⟨gb542, 4, none⟩ = some (.int .i64 t538) := bz_ BK542 4
     have hcz26_5 : w17.cell? ⟨gb542, 5, none⟩ = some (.bool t539) := bz_ BK542 5
     have hcz26_6 : w17.cell? ⟨gb542, 6, none⟩ = some (.int .i64 t540) := bz_ BK542 6
     have hfz26_0 := blk_frozen BK542.out 0
     have hfz26_1 := blk_frozen BK542.out 1
     have hfz26_2 := blk_frozen BK542.out 2
     have hfz26_3 := blk_frozen BK542.out 3
     have hfz26_4 := blk_frozen BK542.out 4
     have hfz26_5 := blk_frozen BK542.out 5
     have hfz26_6 := blk_frozen BK542.out 6
     have hnb27 := NB551_533.out
     have hnc27 := NB533_551.out
     have hcz28_0 : w17.cell? ⟨gb551, 0, none⟩ = some (.string (⟨#[]⟩ : ByteArray)) := bz_ BK551 0
     have hcz28_1 : w17.cell? ⟨gb551, 1, none⟩ = some (.int .i64 0) := bz_ BK551 1
     have hcz28_2 : w17.cell? ⟨gb551, 2, none⟩ = some (.int .i64 0) := bz_ BK551 2
     have hcz28_3 : w17.cell? ⟨gb551, 3, none⟩ = some (.string (⟨#[]⟩ : ByteArray)) := bz_ BK551 3
     have hcz28_4 : w17.cell? ⟨gb551, 4, none⟩ = some (.int .i64 0) := bz_ BK551 4
     have hcz28_5 : w17.cell? ⟨gb551, 5, none⟩ = some (.bool false) := bz_ BK551 5
     have hcz28_6 : w17.cell? ⟨gb551, 6, none⟩ = some (.int .i64 0) := bz_ BK551 6
     have hfz28_0 := blk_frozen BK551.out 0
     have hfz28_1 := blk_frozen BK551.out 1
     have hfz28_2 := blk_frozen BK551.out 2
     have hfz28_3 := blk_frozen BK551.out 3
     have hfz28_4 := blk_frozen BK551.out 4
     have hfz28_5 := blk_frozen BK551.out 5
     have hfz28_6 := blk_frozen BK551.out 6
     go_wp2_with (first | (go_at_call 27; (with_reducible refine (laws_sameCart.calls t534 t535 t536 t537 t538 t539 t540 t543 t544 t545 t546 t547 t548 t549 true _ A22.out).mono ?_); rintro e w29 ⟨rfl, hb⟩; have n0_ := Aside0.mk (blk_below (g := gb533) (o := .cells #[.string t524, .int .i64 t525, .int .i64 t526, .string t527, .int .i64 t528, .bool t529, .int .i64 t530] 32 (0, 0)) q11_ hb); have n1_ := Aside0.mk (blk_below (g := gb542) (o := .cells #[.string t534, .int .i64 t535, .int .i64 t536, .string t537, .int .i64 t538, .bool t539, .int .i64 t540] 32 (0, 0)) q12_ hb); have n2_ := Aside0.mk (blk_below (g := gb551) (o := .cells #[.string t543, .int .i64 t544, .int .i64 t545, .string t546, .int .i64 t547, .bool t548, .int .i64 t549] 32 (0, 0)) q6_ hb); have n3_ := Aside0.mk (below_step q43_ hb); clear BK533; clear BK542; clear BK551; clear HB; have BK533 := n0_; have BK542 := n1_; have BK551 := n2_; have HB := n3_; clear n0_ n1_ n2_ n3_; (try clear hb)))
     go_meet
     case rel => exact ⟨_, (!t541), q133_, H', ⟨q153_⟩, ⟨q129_⟩, ⟨q130_⟩, ⟨q131_⟩, ⟨q43_⟩⟩
    ·replace c23 := Bool.eq_false_iff.mpr c23
     subst c23
     replace H : (laws_FnCartWrites.j0 k t531 t532 t541 t550 true t524 t525 t526 t527 t528 t529 t530 t534 t535 t536 t537 t538 t539 t540 t543 t544 t545 t546 t547 t548 t549) = some r := by rw [if_neg (show ¬ (false = true) by decide)] at H; exact H
     have H' := Aside0.mk H
     clear H
     have hnb30 := NB542_533.out
     have hnc30 := NB533_542.out
     have hnb31 := NB542_551.out
     have hnc31 := NB551_542.out
     have hcz32_0 : w17.cell? ⟨gb542, 0, none⟩ = some (.string t534) := bz_ BK542 0
     have hcz32_1 : w17.cell? ⟨gb542, 1, none⟩ = some (.int .i64 t535) := bz_ BK542 1
     have hcz32_2 : w17.cell? ⟨gb542, 2, none⟩ = some (.int .i64 t536) := bz_ BK542 2
     have hcz32_3 : w17.cell? ⟨gb542, 3, none⟩ = some (.string t537) := bz_ BK542 3
     have hcz32_4 : w17.cell? ⟨gb542, 4, none⟩ = some (.int .i64 t538) := bz_ BK542 4
     have hcz32_5 : w17.cell? ⟨gb542, 5, none⟩ = some (.bool t539) := bz_ BK542 5
     have hcz32_6 : w17.cell? ⟨gb542, 6, none⟩ = some (.int .i64 t540) := bz_ BK542 6
     have hfz32_0 := blk_frozen BK542.out 0
     have hfz32_1 := blk_frozen BK542.out 1
     have hfz32_2 := blk_frozen BK542.out 2
     have hfz32_3 := blk_frozen BK542.out 3
     have hfz32_4 := blk_frozen BK542.out 4
     have hfz32_5 := blk_frozen BK542.out 5
     have hfz32_6 := blk_frozen BK542.out 6
     have hnb33 := NB551_533.out
     have hnc33 := NB533_551.out
     have hcz34_0 : w17.cell? ⟨gb551, 0, none⟩ = some (.string (⟨#[]⟩ : ByteArray)) := bz_ BK551 0
     have hcz34_1 : w17.cell? ⟨gb551, 1, none⟩ = some (.int .i64 0) := bz_ BK551 1
     have hcz34_2 : w17.cell? ⟨gb551, 2, none⟩ = some (.int .i64 0) := bz_ BK551 2
     have hcz34_3 : w17.cell? ⟨gb551, 3, none⟩ = some (.string (⟨#[]⟩ : ByteArray)) := bz_ BK551 3
     have hcz34_4 : w17.cell? ⟨gb551, 4, none⟩ = some (.int .i64 0) := bz_ BK551 4
     have hcz34_5 : w17.cell? ⟨gb551, 5, none⟩ = some (.bool false) := bz_ BK551 5
     have hcz34_6 : w17.cell? ⟨gb551, 6, none⟩ = some (.int .i64 0) := bz_ BK551 6
     have hfz34_0 := blk_frozen BK551.out 0
     have hfz34_1 := blk_frozen BK551.out 1
     have hfz34_2 := blk_frozen BK551.out 2
     have hfz34_3 := blk_frozen BK551.out 3
     have hfz34_4 := blk_frozen BK551.out 4
     have hfz34_5 := blk_frozen BK551.out 5
     have hfz34_6 := blk_frozen BK551.out 6
     go_wp2_with (first | (go_at_call 27; (with_reducible refine (laws_sameCart.calls t534 t535 t536 t537 t538 t539 t540 t543 t544 t545 t546 t547 t548 t549 false _ A22.out).mono ?_); rintro e w35 ⟨rfl, hb⟩; have n0_ := Aside0.mk (blk_below (g := gb533) (o := .cells #[.string t524, .int .i64 t525, .int .i64 t526, .string t527, .int .i64 t528, .bool t529, .int .i64 t530] 32 (0, 0)) q11_ hb); have n1_ := Aside0.mk (blk_below (g := gb542) (o := .cells #[.string t534, .int .i64 t535, .int .i64 t536, .string t537, .int .i64 t538, .bool t539, .int .i64 t540] 32 (0, 0)) q12_ hb); have n2_ := Aside0.mk (blk_below (g := gb551) (o := .cells #[.string t543, .int .i64 t544, .int .i64 t545, .string t546, .int .i64 t547, .bool t548, .int .i64 t549] 32 (0, 0)) q6_ hb); have n3_ := Aside0.mk (below_step q43_ hb); clear BK533; clear BK542; clear BK551; clear HB; have BK533 := n0_; have BK542 := n1_; have BK551 := n2_; have HB := n3_; clear n0_ n1_ n2_ n3_; (try clear hb)))
     go_meet
     case rel => exact ⟨_, (true), q133_, H', ⟨q153_⟩, ⟨q129_⟩, ⟨q130_⟩, ⟨q131_⟩, ⟨q43_⟩⟩
  case rest =>
   clear HC7
   try clear c1
   try clear c2
   try clear p2
   try clear c3
   try clear p6
   try clear c8
   try clear c12
   try clear c13
   try clear c17
   try clear c18
   try clear c19
   try clear c21
   try clear c21b0
   try clear c21b1
   try clear c21b2
   try clear c23
   try clear c24
   try clear c25
   try clear c27
   try clear c30
   try clear c31
   try clear c33
   try clear hcz10_0 hcz10_1 hcz10_2 hcz10_3 hcz10_4 hcz10_5 hcz10_6
   try clear hcz14_0 hcz14_1 hcz14_2 hcz14_3 hcz14_4 hcz14_5 hcz14_6
   try clear hcz15_0 hcz15_1 hcz15_2 hcz15_3 hcz15_4 hcz15_5 hcz15_6
   try clear hcz20_0 hcz20_1 hcz20_2 hcz20_3 hcz20_4 hcz20_5 hcz20_6
   try clear hcz26_0 hcz26_1 hcz26_2 hcz26_3 hcz26_4 hcz26_5 hcz26_6
   try clear hcz28_0 hcz28_1 hcz28_2 hcz28_3 hcz28_4 hcz28_5 hcz28_6
   try clear hcz32_0 hcz32_1 hcz32_2 hcz32_3 hcz32_4 hcz32_5 hcz32_6
   try clear hcz34_0 hcz34_1 hcz34_2 hcz34_3 hcz34_4 hcz34_5 hcz34_6
   try clear hfz10_0 hfz10_1 hfz10_2 hfz10_3 hfz10_4 hfz10_5 hfz10_6
   try clear hfz14_0 hfz14_1 hfz14_2 hfz14_3 hfz14_4 hfz14_5 hfz14_6
   try clear hfz15_0 hfz15_1 hfz15_2 hfz15_3 hfz15_4 hfz15_5 hfz15_6
   try clear hfz20_0 hfz20_1 hfz20_2 hfz20_3 hfz20_4 hfz20_5 hfz20_6
   try clear hfz26_0 hfz26_1 hfz26_2 hfz26_3 hfz26_4 hfz26_5 hfz26_6
   try clear hfz28_0 hfz28_1 hfz28_2 hfz28_3 hfz28_4 hfz28_5 hfz28_6
   try clear hfz32_0 hfz32_1 hfz32_2 hfz32_3 hfz32_4 hfz32_5 hfz32_6
   try clear hfz34_0 hfz34_1 hfz34_2 hfz34_3 hfz34_4 hfz34_5 hfz34_6
   obtain ⟨kq, x47_6, rfl, HA, HJ6, BK533, BK542, BK551, HB⟩ := hcut
   cases kq with
   | zero => exact absurd HA.out (by simp [laws_FnCartWrites.j0])
   | succ kj6 =>
    have H := HA.out
    clear HA
    simp only [laws_FnCartWrites.j0] at H
    by_cases c36 : x47_6 = true
    ·subst c36
     replace H : (if (t541 == t550) = true then ((laws_sameCart.f t534 t535 t536 t537 t538 t539 t540 t543 t544 t545 t546 t547 t548 t549).bind fun t553 => (some t553)) else (some false)) = some r := by rw [if_pos rfl] at H; exact H
     by_cases c37 : (t541 == t550) = true
     ·rw [if_pos c37] at H
      have c37b0 : (t541 == t550) = true := c37
      (try (have c37b1 : decide (t541 = t550) = true := by simpa using c37))
      (try (have c37b2 : (t541 == t550) = true := by simpa using c37))
      clear c37
      replace H := Option.bind_eq_some_iff.mp H
      obtain ⟨t553, A380, H⟩ := H
      have A38 := Aside0.mk A380
      clear A380
      obtain rfl := Option.some.inj H
      have hnb39 := NB542_533.out
      have hnc39 := NB533_542.out
      have hnb40 := NB542_551.out
      have hnc40 := NB551_542.out
      have hcz41_0 : wc.cell? ⟨gb542, 0, none⟩ = some (.string t534) := bz_ BK542 0
      have hcz41_1 : wc.cell? ⟨gb542, 1, none⟩ = some (.int .i64 t535) := bz_ BK542 1
      have hcz41_2 : wc.cell? ⟨gb542, 2, none⟩ = some (.int .i64 t536) := bz_ BK542 2
      have hcz41_3 : wc.cell? ⟨gb542, 3, none⟩ = some (.string t537) := bz_ BK542 3
      have hcz41_4 : wc.cell? ⟨gb542, 4, none⟩ = some (.int .i64 t538) := bz_ BK542 4
      have hcz41_5 : wc.cell? ⟨gb542, 5, none⟩ = some (.bool t539) := bz_ BK542 5
      have hcz41_6 : wc.cell? ⟨gb542, 6, none⟩ = some (.int .i64 t540) := bz_ BK542 6
      have hfz41_0 := blk_frozen BK542.out 0
      have hfz41_1 := blk_frozen BK542.out 1
      have hfz41_2 := blk_frozen BK542.out 2
      have hfz41_3 := blk_frozen BK542.out 3
      have hfz41_4 := blk_frozen BK542.out 4
      have hfz41_5 := blk_frozen BK542.out 5
      have hfz41_6 := blk_frozen BK542.out 6
      have hnb42 := NB551_533.out
      have hnc42 := NB533_551.out
      have hcz43_0 : wc.cell? ⟨gb551, 0, none⟩ = some (.string t543) := bz_ BK551 0
      have hcz43_1 : wc.cell? ⟨gb551, 1, none⟩ = some (.int .i64 t544) := bz_ BK551 1
      have hcz43_2 : wc.cell? ⟨gb551, 2, none⟩ = some (.int .i64 t545) := bz_ BK551 2
      have hcz43_3 : wc.cell? ⟨gb551, 3, none⟩ = some (.string t546) := bz_ BK551 3
      have hcz43_4 : wc.cell? ⟨gb551, 4, none⟩ = some (.int .i64 t547) := bz_ BK551 4
      have hcz43_5 : wc.cell? ⟨gb551, 5, none⟩ = some (.bool t548) := bz_ BK551 5
      have hcz43_6 : wc.cell? ⟨gb551, 6, none⟩ = some (.int .i64 t549) := bz_ BK551 6
      have hfz43_0 := blk_frozen BK551.out 0
      have hfz43_1 := blk_frozen BK551.out 1
      have hfz43_2 := blk_frozen BK551.out 2
      have hfz43_3 := blk_frozen BK551.out 3
      have hfz43_4 := blk_frozen BK551.out 4
      have hfz43_5 := blk_frozen BK551.out 5
      have hfz43_6 := blk_frozen BK551.out 6
      go_wp2_with (first | (go_at_call 27; (with_reducible refine (laws_sameCart.calls t534 t535 t536 t537 t538 t539 t540 t543 t544 t545 t546 t547 t548 t549 t553 _ A38.out).mono ?_); rintro e w44 ⟨rfl, hb⟩; have n0_ := Aside0.mk (blk_below (g := gb533) (o := .cells #[.string t524, .int .i64 t525, .int .i64 t526, .string t527, .int .i64 t528, .bool t529, .int .i64 t530] 32 (0, 0)) q129_ hb); have n1_ := Aside0.mk (blk_below (g := gb542) (o := .cells #[.string t534, .int .i64 t535, .int .i64 t536, .string t537, .int .i64 t538, .bool t539, .int .i64 t540] 32 (0, 0)) q130_ hb); have n2_ := Aside0.mk (blk_below (g := gb551) (o := .cells #[.string t543, .int .i64 t544, .int .i64 t545, .string t546, .int .i64 t547, .bool t548, .int .i64 t549] 32 (0, 0)) q131_ hb); have n3_ := Aside0.mk (below_step q43_ hb); clear BK533; clear BK542; clear BK551; clear HB; have BK533 := n0_; have BK542 := n1_; have BK551 := n2_; have HB := n3_; clear n0_ n1_ n2_ n3_; (try clear hb)))
      go_ret
      exact ⟨q103_, q43_⟩
     ·rw [if_neg c37] at H
      have c37b0 : (t541 == t550) = false := by simpa using c37
      (try (have c37b1 : decide (t541 = t550) = false := by simpa using c37))
      (try (have c37b2 : (t541 == t550) = false := by simpa using c37))
      (try (have c37b3 : ¬ (t541 = t550) := by simpa using c37))
      clear c37
      obtain rfl := Option.some.inj H
      go_wp2
      go_ret
      exact ⟨q103_, q43_⟩
    ·replace c36 := Bool.eq_false_iff.mpr c36
     subst c36
     replace H : (if t531 ≥ 40960 then (if t531 < 41024 then (laws_FnCartWrites.j1 kj6 t531 t532 t529 t524 t525 t526 t527 t528 t529 t530 t534 t535 t536 t537 t538 t539 t540) else (laws_FnCartWrites.j1 kj6 t531 t532 false t524 t525 t526 t527 t528 t529 t530 t534 t535 t536 t537 t538 t539 t540)) else (laws_FnCartWrites.j1 kj6 t531 t532 false t524 t525 t526 t527 t528 t529 t530 t534 t535 t536 t537 t538 t539 t540)) = some r := by rw [if_neg (show ¬ (false = true) by decide)] at H; exact H
     have HC45 := Aside0.mk H
     clear H
     go_upto_region 8 with (fail)
     go_cut [10] (fun v10 wc => ∃ (kq : Nat) (x10_44 : Bool), v10 = .bool x10_44 ∧ Aside0 (laws_FnCartWrites.j1 kq t531 t532 x10_44 t524 t525 t526 t527 t528 t529 t530 t534 t535 t536 t537 t538 t539 t540 = some r) ∧ Aside0 (kq ≤ kj6) ∧ Aside0 (wc.heap[gb533]? = some (.cells #[.string t524, .int .i64 t525, .int .i64 t526, .string t527, .int .i64 t528, .bool t529, .int .i64 t530] 32 (0, 0))) ∧ Aside0 (wc.heap[gb542]? = some (.cells #[.string t534, .int .i64 t535, .int .i64 t536, .string t537, .int .i64 t538, .bool t539, .int .i64 t540] 32 (0, 0))) ∧ Aside0 (wc.heap[gb551]? = some (.cells #[.string t543, .int .i64 t544, .int .i64 t545, .string t546, .int .i64 t547, .bool t548, .int .i64 t549] 32 (0, 0))) ∧ Aside0 (Below w.heap.size w wc))
     case first =>
      have H := HC45.out
      clear HC45
      by_cases c46 : t531 ≥ 40960
      ·rw [if_pos c46] at H
       have c46b0 : decide (40960 ≤ t531) = true := decide_eq_true c46
       clear c46
       (first | rw [c46b0] | (simp only [i64_w, i32_w]; rw [c46b0]) | skip)
       by_cases c47 : t531 < 41024
       ·rw [if_pos c47] at H
        have c47b0 : decide (t531 < 41024) = true := decide_eq_true c47
        clear c47
        have H' := Aside0.mk H
        clear H
        have hnb48 := NB533_542.out
        have hnc48 := NB542_533.out
        have hnb49 := NB533_551.out
        have hnc49 := NB551_533.out
        have hcz50_0 : wc.cell? ⟨gb533, 0, none⟩ = some (.string t524) := bz_ BK533 0
        have hcz50_1 : wc.cell? ⟨gb533, 1, none⟩ = some (.int .i64 t525) := bz_ BK533 1
        have hcz50_2 : wc.cell? ⟨gb533, 2, none⟩ = some (.int .i64 t526) := bz_ BK533 2
        have hcz50_3 : wc.cell? ⟨gb533, 3, none⟩ = some (.string t527) := bz_ BK533 3
        have hcz50_4 : wc.cell? ⟨gb533, 4, none⟩ = some (.int .i64 t528) := bz_ BK533 4
        have hcz50_5 : wc.cell? ⟨gb533, 5, none⟩ = some (.bool t529) := bz_ BK533 5
        have hcz50_6 : wc.cell? ⟨gb533, 6, none⟩ = some (.int .i64 t530) := bz_ BK533 6
        have hfz50_0 := blk_frozen BK533.out 0
        have hfz50_1 := blk_frozen BK533.out 1
        have hfz50_2 := blk_frozen BK533.out 2
        have hfz50_3 := blk_frozen BK533.out 3
        have hfz50_4 := blk_frozen BK533.out 4
        have hfz50_5 := blk_frozen BK533.out 5
        have hfz50_6 := blk_frozen BK533.out 6
        go_wp2
        go_meet
        case rel => exact ⟨_, (t529), q133_, H', ⟨by have := HJ6.out; first | omega | exact Nat.le_refl _⟩, ⟨q129_⟩, ⟨q130_⟩, ⟨q131_⟩, ⟨q43_⟩⟩
       ·rw [if_neg c47] at H
        have c47b0 : decide (t531 < 41024) = false := decide_eq_false c47
        clear c47
        have H' := Aside0.mk H
        clear H
        go_wp2
        go_meet
        case rel => exact ⟨_, (false), q133_, H', ⟨by have := HJ6.out; first | omega | exact Nat.le_refl _⟩, ⟨q129_⟩, ⟨q130_⟩, ⟨q131_⟩, ⟨q43_⟩⟩
      ·rw [if_neg c46] at H
       have c46b0 : decide (40960 ≤ t531) = false := decide_eq_false c46
       clear c46
       (first | rw [c46b0] | (simp only [i64_w, i32_w]; rw [c46b0]) | skip)
       have H' := Aside0.mk H
       clear H
       go_wp2
       go_meet
       case rel => exact ⟨_, (false), q133_, H', ⟨by have := HJ6.out; first | omega | exact Nat.le_refl _⟩, ⟨q129_⟩, ⟨q130_⟩, ⟨q131_⟩, ⟨q43_⟩⟩
     case rest =>
      clear HC45
      try clear c1
      try clear c2
      try clear p2 p2
      try clear c3
      try clear c4
      try clear p6 p6
      try clear c8
      try clear c12
      try clear c13
      try clear c17
      try clear c18
      try clear c19
      try clear c21
      try clear c21b0
      try clear c21b1
      try clear c21b2
      try clear c23
      try clear c24
      try clear c25
      try clear c27
      try clear c30
      try clear c31
      try clear c33
      try clear c36
      try clear c37
      try clear c37b0
      try clear c37b1
      try clear c37b2
      try clear c39
      try clear c40
      try clear c42
      try clear c46
      try clear c46b0
      try clear c47
      try clear c47b0
      try clear c48
      try clear c49
      try clear hcz10_0 hcz10_1 hcz10_2 hcz10_3 hcz10_4 hcz10_5 hcz10_6
      try clear hcz14_0 hcz14_1 hcz14_2 hcz14_3 hcz14_4 hcz14_5 hcz14_6
      try clear hcz15_0 hcz15_1 hcz15_2 hcz15_3 hcz15_4 hcz15_5 hcz15_6
      try clear hcz20_0 hcz20_1 hcz20_2 hcz20_3 hcz20_4 hcz20_5 hcz20_6
      try clear hcz26_0 hcz26_1 hcz26_2 hcz26_3 hcz26_4 hcz26_5 hcz26_6
      try clear hcz28_0 hcz28_1 hcz28_2 hcz28_3 hcz28_4 hcz28_5 hcz28_6
      try clear hcz32_0 hcz32_1 hcz32_2 hcz32_3 hcz32_4 hcz32_5 hcz32_6
      try clear hcz34_0 hcz34_1 hcz34_2 hcz34_3 hcz34_4 hcz34_5 hcz34_6
      try clear hcz41_0 hcz41_1 hcz41_2 hcz41_3 hcz41_4 hcz41_5 hcz41_6
      try clear hcz43_0 hcz43_1 hcz43_2 hcz43_3 hcz43_4 hcz43_5 hcz43_6
      try clear hcz50_0 hcz50_1 hcz50_2 hcz50_3 hcz50_4 hcz50_5 hcz50_6
      try clear hfz10_0 hfz10_1 hfz10_2 hfz10_3 hfz10_4 hfz10_5 hfz10_6
      try clear hfz14_0 hfz14_1 hfz14_2 hfz14_3 hfz14_4 hfz14_5 hfz14_6
      try clear hfz15_0 hfz15_1 hfz15_2 hfz15_3 hfz15_4 hfz15_5 hfz15_6
      try clear hfz20_0 hfz20_1 hfz20_2 hfz20_3 hfz20_4 hfz20_5 hfz20_6
      try clear hfz26_0 hfz26_1 hfz26_2 hfz26_3 hfz26_4 hfz26_5 hfz26_6
      try clear hfz28_0 hfz28_1 hfz28_2 hfz28_3 hfz28_4 hfz28_5 hfz28_6
      try clear hfz32_0 hfz32_1 hfz32_2 hfz32_3 hfz32_4 hfz32_5 hfz32_6
      try clear hfz34_0 hfz34_1 hfz34_2 hfz34_3 hfz34_4 hfz34_5 hfz34_6
      try clear hfz41_0 hfz41_1 hfz41_2 hfz41_3 hfz41_4 hfz41_5 hfz41_6
      try clear hfz43_0 hfz43_1 hfz43_2 hfz43_3 hfz43_4 hfz43_5 hfz43_6
      try clear hfz50_0 hfz50_1 hfz50_2 hfz50_3 hfz50_4 hfz50_5 hfz50_6
      obtain ⟨kq, x10_44, rfl, HA, HJ44, BK533, BK542, BK551, HB⟩ := hcut
      cases kq with
      | zero => exact absurd HA.out (by simp [laws_FnCartWrites.j1])
      | succ kj44 =>
       have H := HA.out
       clear HA
       simp only [laws_FnCartWrites.j1] at H
       have H' := Aside0.mk H
       clear H
       go_wp2
       go_loopg [11] kj44 (fun kq v11 w' => ∃ (x11_3 : Int), v11 = .int .i64 x11_3 ∧ Aside0 (laws_FnCartWrites.l0 kq t531 t532 x10_44 x11_3 t524 t525 t526 t527 t528 t529 t530 t534 t535 t536 t537 t538 t539 t540 = some r) ∧ Aside0 (kq ≤ kj44) ∧ Aside0 (w'.heap[gb533]? = some (.cells #[.string t524, .int .i64 t525, .int .i64 t526, .string t527, .int .i64 t528, .bool t529, .int .i64 t530] 32 (0, 0))) ∧ Aside0 (w'.heap[gb542]? = some (.cells #[.string t534, .int .i64 t535, .int .i64 t536, .string t537, .int .i64 t538, .bool t539, .int .i64 t540] 32 (0, 0))) ∧ Aside0 (w'.heap[gb551]? = some (.cells #[.string t543, .int .i64 t544, .int .i64 t545, .string t546, .int .i64 t547, .bool t548, .int .i64 t549] 32 (0, 0))) ∧ Aside0 (Below w.heap.size w w'))
       case atStart => exact ⟨(40960), q133_, H', ⟨Nat.le_refl _⟩, ⟨q129_⟩, ⟨q130_⟩, ⟨q131_⟩, ⟨q43_⟩⟩
       case round =>
        clear H'
        try clear c1
        try clear c2
        try clear p2 p2
        try clear c3
        try clear c4
        try clear p6 p6
        try clear c8
        try clear c12
        try clear c13
        try clear c17
        try clear c18
        try clear c19
        try clear c21
        try clear c21b0
        try clear c21b1
        try clear c21b2
        try clear c23
        try clear c24
        try clear c25
        try clear c27
        try clear c30
        try clear c31
        try clear c33
        try clear c36
        try clear c37
        try clear c37b0
        try clear c37b1
        try clear c37b2
        try clear c39
        try clear c40
        try clear c42
        try clear c46
        try clear c46b0
        try clear c47
        try clear c47b0
        try clear c48
        try clear c49
        try clear hcz10_0 hcz10_1 hcz10_2 hcz10_3 hcz10_4 hcz10_5 hcz10_6
        try clear hcz14_0 hcz14_1 hcz14_2 hcz14_3 hcz14_4 hcz14_5 hcz14_6
        try clear hcz15_0 hcz15_1 hcz15_2 hcz15_3 hcz15_4 hcz15_5 hcz15_6
        try clear hcz20_0 hcz20_1 hcz20_2 hcz20_3 hcz20_4 hcz20_5 hcz20_6
        try clear hcz26_0 hcz26_1 hcz26_2 hcz26_3 hcz26_4 hcz26_5 hcz26_6
        try clear hcz28_0 hcz28_1 hcz28_2 hcz28_3 hcz28_4 hcz28_5 hcz28_6
        try clear hcz32_0 hcz32_1 hcz32_2 hcz32_3 hcz32_4 hcz32_5 hcz32_6
        try clear hcz34_0 hcz34_1 hcz34_2 hcz34_3 hcz34_4 hcz34_5 hcz34_6
        try clear hcz41_0 hcz41_1 hcz41_2 hcz41_3 hcz41_4 hcz41_5 hcz41_6
        try clear hcz43_0 hcz43_1 hcz43_2 hcz43_3 hcz43_4 hcz43_5 hcz43_6
        try clear hcz50_0 hcz50_1 hcz50_2 hcz50_3 hcz50_4 hcz50_5 hcz50_6
        try clear hfz10_0 hfz10_1 hfz10_2 hfz10_3 hfz10_4 hfz10_5 hfz10_6
        try clear hfz14_0 hfz14_1 hfz14_2 hfz14_3 hfz14_4 hfz14_5 hfz14_6
        try clear hfz15_0 hfz15_1 hfz15_2 hfz15_3 hfz15_4 hfz15_5 hfz15_6
        try clear hfz20_0 hfz20_1 hfz20_2 hfz20_3 hfz20_4 hfz20_5 hfz20_6
        try clear hfz26_0 hfz26_1 hfz26_2 hfz26_3 hfz26_4 hfz26_5 hfz26_6
        try clear hfz28_0 hfz28_1 hfz28_2 hfz28_3 hfz28_4 hfz28_5 hfz28_6
        try clear hfz32_0 hfz32_1 hfz32_2 hfz32_3 hfz32_4 hfz32_5 hfz32_6
        try clear hfz34_0 hfz34_1 hfz34_2 hfz34_3 hfz34_4 hfz34_5 hfz34_6
        try clear hfz41_0 hfz41_1 hfz41_2 hfz41_3 hfz41_4 hfz41_5 hfz41_6
        try clear hfz43_0 hfz43_1 hfz43_2 hfz43_3 hfz43_4 hfz43_5 hfz43_6
        try clear hfz50_0 hfz50_1 hfz50_2 hfz50_3 hfz50_4 hfz50_5 hfz50_6
        obtain ⟨x11_3, rfl, HA, HK3, BK533, BK542, BK551, HB⟩ := hrel
        cases gk with
        | zero => exact absurd HA.out (by simp [laws_FnCartWrites.l0])
        | succ k3 =>
         have H := HA.out
         clear HA
         simp only [laws_FnCartWrites.l0] at H
         have HC51 := Aside0.mk H
         clear H
         go_upto_region 10 with (fail)
         go_cut [70] (fun v70 wc => ∃ (kq : Nat) (x70_50 : Bool), v70 = .bool x70_50 ∧ Aside0 (laws_FnCartWrites.j3 kq t531 t532 x10_44 x11_3 x70_50 t524 t525 t526 t527 t528 t529 t530 t534 t535 t536 t537 t538 t539 t540 = some r) ∧ Aside0 (kq ≤ k3) ∧ Aside0 (wc.heap[gb533]? = some (.cells #[.string t524, .int .i64 t525, .int .i64 t526, .string t527, .int .i64 t528, .bool t529, .int .i64 t530] 32 (0, 0))) ∧ Aside0 (wc.heap[gb542]? = some (.cells #[.string t534, .int .i64 t535, .int .i64 t536, .string t537, .int .i64 t538, .bool t539, .int .i64 t540] 32 (0, 0))) ∧ Aside0 (wc.heap[gb551]? = some (.cells #[.string t543, .int .i64 t544, .int .i64 t545, .string t546, .int .i64 t547, .bool t548, .int .i64 t549] 32 (0, 0))) ∧ Aside0 (Below w.heap.size w wc))
         case first =>
          have H := HC51.out
          clear HC51
          by_cases c52 : x11_3 < 41024
          ·rw [if_pos c52] at H
           have c52b0 : decide (x11_3 < 41024) = true := decide_eq_true c52
           clear c52
           (first | rw [c52b0] | (simp only [i64_w, i32_w]; rw [c52b0]) | skip)
           have H' := Aside0.mk H
           clear H
           go_wp2
           go_meet
           case rel => exact ⟨_, (x10_44), q133_, H', ⟨by have := HJ6.out; have := HJ44.out; have := HK3.out; first | omega | exact Nat.le_refl _⟩, ⟨q129_⟩, ⟨q130_⟩, ⟨q131_⟩, ⟨q43_⟩⟩
          ·rw [if_neg c52] at H
           have c52b0 : decide (x11_3 < 41024) = false := decide_eq_false c52
           clear c52
           (first | rw [c52b0] | (simp only [i64_w, i32_w]; rw [c52b0]) | skip)
           have H' := Aside0.mk H
           clear H
           go_wp2
           go_meet
           case rel => exact ⟨_, (false), q133_, H', ⟨by have := HJ6.out; have := HJ44.out; have := HK3.out; first | omega | exact Nat.le_refl _⟩, ⟨q129_⟩, ⟨q130_⟩, ⟨q131_⟩, ⟨q43_⟩⟩
         case rest =>
          clear HC51
          try clear c1
          try clear c2
          try clear p2 p2
          try clear c3
          try clear c4
          try clear c5
          try clear p6 p6
          try clear c8
          try clear c12
          try clear c13
          try clear c17
          try clear c18
          try clear c19
          try clear c21
          try clear c21b0
          try clear c21b1
          try clear c21b2
          try clear c23
          try clear c24
          try clear c25
          try clear c27
          try clear c30
          try clear c31
          try clear c33
          try clear c36
          try clear c37
          try clear c37b0
          try clear c37b1
          try clear c37b2
          try clear c39
          try clear c40
          try clear c42
          try clear c46
          try clear c46b0
          try clear c47
          try clear c47b0
          try clear c48
          try clear c49
          try clear c52
          try clear c52b0
          try clear hcz10_0 hcz10_1 hcz10_2 hcz10_3 hcz10_4 hcz10_5 hcz10_6
          try clear hcz14_0 hcz14_1 hcz14_2 hcz14_3 hcz14_4 hcz14_5 hcz14_6
          try clear hcz15_0 hcz15_1 hcz15_2 hcz15_3 hcz15_4 hcz15_5 hcz15_6
          try clear hcz20_0 hcz20_1 hcz20_2 hcz20_3 hcz20_4 hcz20_5 hcz20_6
          try clear hcz26_0 hcz26_1 hcz26_2 hcz26_3 hcz26_4 hcz26_5 hcz26_6
          try clear hcz28_0 hcz28_1 hcz28_2 hcz28_3 hcz28_4 hcz28_5 hcz28_6
          try clear hcz32_0 hcz32_1 hcz32_2 hcz32_3 hcz32_4 hcz32_5 hcz32_6
          try clear hcz34_0 hcz34_1 hcz34_2 hcz34_3 hcz34_4 hcz34_5 hcz34_6
          try clear hcz41_0 hcz41_1 hcz41_2 hcz41_3 hcz41_4 hcz41_5 hcz41_6
          try clear hcz43_0 hcz43_1 hcz43_2 hcz43_3 hcz43_4 hcz43_5 hcz43_6
          try clear hcz50_0 hcz50_1 hcz50_2 hcz50_3 hcz50_4 hcz50_5 hcz50_6
          try clear hfz10_0 hfz10_1 hfz10_2 hfz10_3 hfz10_4 hfz10_5 hfz10_6
          try clear hfz14_0 hfz14_1 hfz14_2 hfz14_3 hfz14_4 hfz14_5 hfz14_6
          try clear hfz15_0 hfz15_1 hfz15_2 hfz15_3 hfz15_4 hfz15_5 hfz15_6
          try clear hfz20_0 hfz20_1 hfz20_2 hfz20_3 hfz20_4 hfz20_5 hfz20_6
          try clear hfz26_0 hfz26_1 hfz26_2 hfz26_3 hfz26_4 hfz26_5 hfz26_6
          try clear hfz28_0 hfz28_1 hfz28_2 hfz28_3 hfz28_4 hfz28_5 hfz28_6
          try clear hfz32_0 hfz32_1 hfz32_2 hfz32_3 hfz32_4 hfz32_5 hfz32_6
          try clear hfz34_0 hfz34_1 hfz34_2 hfz34_3 hfz34_4 hfz34_5 hfz34_6
          try clear hfz41_0 hfz41_1 hfz41_2 hfz41_3 hfz41_4 hfz41_5 hfz41_6
          try clear hfz43_0 hfz43_1 hfz43_2 hfz43_3 hfz43_4 hfz43_5 hfz43_6
          try clear hfz50_0 hfz50_1 hfz50_2 hfz50_3 hfz50_4 hfz50_5 hfz50_6
          obtain ⟨kq, x70_50, rfl, HA, HJ50, BK533, BK542, BK551, HB⟩ := hcut
          cases kq with
          | zero => exact absurd HA.out (by simp [laws_FnCartWrites.j3])
          | succ kj50 =>
           have H := HA.out
           clear HA
           simp only [laws_FnCartWrites.j3] at H
           by_cases c53 : x70_50 = true
           ·subst c53
            replace H : ((impl_CartRead.f kj50 t524 t525 t526 t527 t528 t529 t530 x11_3).bind fun t557 => (if x11_3 = t531 then ((impl_CartRead.f kj50 t534 t535 t536 t537 t538 t539 t540 x11_3).bind fun t558 => (if t558 = t532 then (laws_FnCartWrites.l0 kj50 t531 t532 x10_44 (wrap64 (x11_3 + 1)) t524 t525 t526 t527 t528 t529 t530 t534 t535 t536 t537 t538 t539 t540) else (some false))) else ((impl_CartRead.f kj50 t534 t535 t536 t537 t538 t539 t540 x11_3).bind fun t559 => (if t559 = t557 then (laws_FnCartWrites.l0 kj50 t531 t532 x10_44 (wrap64 (x11_3 + 1)) t524 t525 t526 t527 t528 t529 t530 t534 t535 t536 t537 t538 t539 t540) else (some false))))) = some r := by rw [if_pos rfl] at H; exact H
            replace H := Option.bind_eq_some_iff.mp H
            obtain ⟨t557, A540, H⟩ := H
            have A54 := Aside0.mk A540
            clear A540
            by_cases c55 : x11_3 = t531
            ·rw [if_pos c55] at H
             have c55b0 : (x11_3 == t531) = true := beq_iff_eq.mpr c55
             have c55b1 : (x11_3 != t531) = false := bne_eq_false_iff_eq.mpr c55
             clear c55
             replace H := Option.bind_eq_some_iff.mp H
             obtain ⟨t558, A560, H⟩ := H
             have A56 := Aside0.mk A560
             clear A560
             by_cases c57 : t558 = t532
             ·rw [if_pos c57] at H
              have c57b0 : (t558 == t532) = true := beq_iff_eq.mpr c57
              have c57b1 : (t558 != t532) = false := bne_eq_false_iff_eq.mpr c57
              clear c57
              have H' := Aside0.mk H
              clear H
              have hnb58 := NB533_542.out
              have hnc58 := NB542_533.out
              have hnb59 := NB533_551.out
              have hnc59 := NB551_533.out
              have hcz60_0 : wc.cell? ⟨gb533, 0, none⟩ = some (.string t524) := bz_ BK533 0
              have hcz60_1 : wc.cell? ⟨gb533, 1, none⟩ = some (.int .i64 t525) := bz_ BK533 1
              have hcz60_2 : wc.cell? ⟨gb533, 2, none⟩ = some (.int .i64 t526) := bz_ BK533 2
              have hcz60_3 : wc.cell? ⟨gb533, 3, none⟩ = some (.string t527) := bz_ BK533 3
              have hcz60_4 : wc.cell? ⟨gb533, 4, none⟩ = some (.int .i64 t528) := bz_ BK533 4
              have hcz60_5 : wc.cell? ⟨gb533, 5, none⟩ = some (.bool t529) := bz_ BK533 5
              have hcz60_6 : wc.cell? ⟨gb533, 6, none⟩ = some (.int .i64 t530) := bz_ BK533 6
              have hfz60_0 := blk_frozen BK533.out 0
              have hfz60_1 := blk_frozen BK533.out 1
              have hfz60_2 := blk_frozen BK533.out 2
              have hfz60_3 := blk_frozen BK533.out 3
              have hfz60_4 := blk_frozen BK533.out 4
              have hfz60_5 := blk_frozen BK533.out 5
              have hfz60_6 := blk_frozen BK533.out 6
              go_wp2_with (first | ((with_reducible refine gate_callee (f := 22) rfl ?_); refine goesL_ (some 75) rfl rfl Try.func22 (by kernel_rfl) rfl #[.agg #[.string t524, .int .i64 t525, .int .i64 t526, .string t527, .int .i64 t528, .bool t529, .int .i64 t530], .int .i64 x11_3] rfl q101_ ?_; (with_reducible refine (impl_CartRead.calls kj50 t524 t525 t526 t527 t528 t529 t530 x11_3 t557 _ A54.out).mono ?_); rintro e w61 ⟨rfl, hb⟩; refine ⟨_, rfl, ?_⟩; have n0_ := Aside0.mk (blk_below (g := gb533) (o := .cells #[.string t524, .int .i64 t525, .int .i64 t526, .string t527, .int .i64 t528, .bool t529, .int .i64 t530] 32 (0, 0)) q129_ hb); have n1_ := Aside0.mk (blk_below (g := gb542) (o := .cells #[.string t534, .int .i64 t535, .int .i64 t536, .string t537, .int .i64 t538, .bool t539, .int .i64 t540] 32 (0, 0)) q130_ hb); have n2_ := Aside0.mk (blk_below (g := gb551) (o := .cells #[.string t543, .int .i64 t544, .int .i64 t545, .string t546, .int .i64 t547, .bool t548, .int .i64 t549] 32 (0, 0)) q131_ hb); have n3_ := Aside0.mk (below_step q43_ hb); clear BK533; clear BK542; clear BK551; clear HB; have BK533 := n0_; have BK542 := n1_; have BK551 := n2_; have HB := n3_; clear n0_ n1_ n2_ n3_; (try clear hb); have hnb62 := NB542_551.out; have hnc62 := NB551_542.out; have hcz63_0 : w61.cell? ⟨gb542, 0, none⟩ = some (.string t534) := (blk_cell BK542.out 0).trans rfl; have hcz63_1 : w61.cell? ⟨gb542, 1, none⟩ = some (.int .i64 t535) := (blk_cell BK542.out 1).trans rfl; have hcz63_2 : w61.cell? ⟨gb542, 2, none⟩ = some (.int .i64 t536) := (blk_cell BK542.out 2).trans rfl; have hcz63_3 : w61.cell? ⟨gb542, 3, none⟩ = some (.string t537) := (blk_cell BK542.out 3).trans rfl; have hcz63_4 : w61.cell? ⟨gb542, 4, none⟩ = some (.int .i64 t538) := (blk_cell BK542.out 4).trans rfl; have hcz63_5 : w61.cell? ⟨gb542, 5, none⟩ = some (.bool t539) := (blk_cell BK542.out 5).trans rfl; have hcz63_6 : w61.cell? ⟨gb542, 6, none⟩ = some (.int .i64 t540) := (blk_cell BK542.out 6).trans rfl; have hfz63_0 := blk_frozen BK542.out 0; have hfz63_1 := blk_frozen BK542.out 1; have hfz63_2 := blk_frozen BK542.out 2; have hfz63_3 := blk_frozen BK542.out 3; have hfz63_4 := blk_frozen BK542.out 4; have hfz63_5 := blk_frozen BK542.out 5; have hfz63_6 := blk_frozen BK542.out 6) | ((with_reducible refine gate_callee (f := 22) rfl ?_); refine goesL_ (some 82) rfl rfl Try.func22 (by kernel_rfl) rfl #[.agg #[.string t534, .int .i64 t535, .int .i64 t536, .string t537, .int .i64 t538, .bool t539, .int .i64 t540], .int .i64 x11_3] rfl q101_ ?_; (with_reducible refine (impl_CartRead.calls kj50 t534 t535 t536 t537 t538 t539 t540 x11_3 t558 _ A56.out).mono ?_); rintro e w64 ⟨rfl, hb⟩; refine ⟨_, rfl, ?_⟩; have n0_ := Aside0.mk (blk_below (g := gb533) (o := .cells #[.string t524, .int .i64 t525, .int .i64 t526, .string t527, .int .i64 t528, .bool t529, .int .i64 t530] 32 (0, 0)) q129_ hb); have n1_ := Aside0.mk (blk_below (g := gb542) (o := .cells #[.string t534, .int .i64 t535, .int .i64 t536, .string t537, .int .i64 t538, .bool t539, .int .i64 t540] 32 (0, 0)) q130_ hb); have n2_ := Aside0.mk (blk_below (g := gb551) (o := .cells #[.string t543, .int .i64 t544, .int .i64 t545, .string t546, .int .i64 t547, .bool t548, .int .i64 t549] 32 (0, 0)) q131_ hb); have n3_ := Aside0.mk (below_step q43_ hb); clear BK533; clear BK542; clear BK551; clear HB; have BK533 := n0_; have BK542 := n1_; have BK551 := n2_; have HB := n3_; clear n0_ n1_ n2_ n3_; (try clear hb)))
              go_roundg kj50
              case measure => have := HJ6.out; have := HJ44.out; have := HK3.out; have := HJ50.out; omega
              case rel => exact ⟨(wrap64 (x11_3 + 1)), q133_, H', ⟨by have := HJ6.out; have := HJ44.out; have := HK3.out; have := HJ50.out; omega⟩, ⟨q129_⟩, ⟨q130_⟩, ⟨q131_⟩, ⟨q43_⟩⟩
             ·rw [if_neg c57] at H
              have c57b0 : (t558 == t532) = false := beq_eq_false_iff_ne.mpr c57
              have c57b1 : (t558 != t532) = true := bne_iff_ne.mpr c57
              obtain rfl := Option.some.inj H
              have hnb65 := NB533_542.out
              have hnc65 := NB542_533.out
              have hnb66 := NB533_551.out
              have hnc66 := NB551_533.out
              have hcz67_0 : wc.cell? ⟨gb533, 0, none⟩ = some (.string t524) := bz_ BK533 0
              have hcz67_1 : wc.cell? ⟨gb533, 1, none⟩ = some (.int .i64 t525) := bz_ BK533 1
              have hcz67_2 : wc.cell? ⟨gb533, 2, none⟩ = some (.int .i64 t526) := bz_ BK533 2
              have hcz67_3 : wc.cell? ⟨gb533, 3, none⟩ = some (.string t527) := bz_ BK533 3
              have hcz67_4 : wc.cell? ⟨gb533, 4, none⟩ = some (.int .i64 t528) := bz_ BK533 4
              have hcz67_5 : wc.cell? ⟨gb533, 5, none⟩ = some (.bool t529) := bz_ BK533 5
              have hcz67_6 : wc.cell? ⟨gb533, 6, none⟩ = some (.int .i64 t530) := bz_ BK533 6
              have hfz67_0 := blk_frozen BK533.out 0
              have hfz67_1 := blk_frozen BK533.out 1
              have hfz67_2 := blk_frozen BK533.out 2
              have hfz67_3 := blk_frozen BK533.out 3
              have hfz67_4 := blk_frozen BK533.out 4
              have hfz67_5 := blk_frozen BK533.out 5
              have hfz67_6 := blk_frozen BK533.out 6
              go_wp2_with (first | ((with_reducible refine gate_callee (f := 22) rfl ?_); refine goesL_ (some 75) rfl rfl Try.func22 (by kernel_rfl) rfl #[.agg #[.string t524, .int .i64 t525, .int .i64 t526, .string t527, .int .i64 t528, .bool t529, .int .i64 t530], .int .i64 x11_3] rfl q101_ ?_; (with_reducible refine (impl_CartRead.calls kj50 t524 t525 t526 t527 t528 t529 t530 x11_3 t557 _ A54.out).mono ?_); rintro e w68 ⟨rfl, hb⟩; refine ⟨_, rfl, ?_⟩; have n0_ := Aside0.mk (blk_below (g := gb533) (o := .cells #[.string t524, .int .i64 t525, .int .i64 t526, .string t527, .int .i64 t528, .bool t529, .int .i64 t530] 32 (0, 0)) q129_ hb); have n1_ := Aside0.mk (blk_below (g := gb542) (o := .cells #[.string t534, .int .i64 t535, .int .i64 t536, .string t537, .int .i64 t538, .bool t539, .int .i64 t540] 32 (0, 0)) q130_ hb); have n2_ := Aside0.mk (blk_below (g := gb551) (o := .cells #[.string t543, .int .i64 t544, .int .i64 t545, .string t546, .int .i64 t547, .bool t548, .int .i64 t549] 32 (0, 0)) q131_ hb); have n3_ := Aside0.mk (below_step q43_ hb); clear BK533; clear BK542; clear BK551; clear HB; have BK533 := n0_; have BK542 := n1_; have BK551 := n2_; have HB := n3_; clear n0_ n1_ n2_ n3_; (try clear hb); have hnb69 := NB542_551.out; have hnc69 := NB551_542.out; have hcz70_0 : w68.cell? ⟨gb542, 0, none⟩ = some (.string t534) := (blk_cell BK542.out 0).trans rfl; have hcz70_1 : w68.cell? ⟨gb542, 1, none⟩ = some (.int .i64 t535) := (blk_cell BK542.out 1).trans rfl; have hcz70_2 : w68.cell? ⟨gb542, 2, none⟩ = some (.int .i64 t536) := (blk_cell BK542.out 2).trans rfl; have hcz70_3 : w68.cell? ⟨gb542, 3, none⟩ = some (.string t537) := (blk_cell BK542.out 3).trans rfl; have hcz70_4 : w68.cell? ⟨gb542, 4, none⟩ = some (.int .i64 t538) := (blk_cell BK542.out 4).trans rfl; have hcz70_5 : w68.cell? ⟨gb542, 5, none⟩ = some (.bool t539) := (blk_cell BK542.out 5).trans rfl; have hcz70_6 : w68.cell? ⟨gb542, 6, none⟩ = some (.int .i64 t540) := (blk_cell BK542.out 6).trans rfl; have hfz70_0 := blk_frozen BK542.out 0; have hfz70_1 := blk_frozen BK542.out 1; have hfz70_2 := blk_frozen BK542.out 2; have hfz70_3 := blk_frozen BK542.out 3; have hfz70_4 := blk_frozen BK542.out 4; have hfz70_5 := blk_frozen BK542.out 5; have hfz70_6 := blk_frozen BK542.out 6) | ((with_reducible refine gate_callee (f := 22) rfl ?_); refine goesL_ (some 82) rfl rfl Try.func22 (by kernel_rfl) rfl #[.agg #[.string t534, .int .i64 t535, .int .i64 t536, .string t537, .int .i64 t538, .bool t539, .int .i64 t540], .int .i64 x11_3] rfl q101_ ?_; (with_reducible refine (impl_CartRead.calls kj50 t534 t535 t536 t537 t538 t539 t540 x11_3 t558 _ A56.out).mono ?_); rintro e w71 ⟨rfl, hb⟩; refine ⟨_, rfl, ?_⟩; have n0_ := Aside0.mk (blk_below (g := gb533) (o := .cells #[.string t524, .int .i64 t525, .int .i64 t526, .string t527, .int .i64 t528, .bool t529, .int .i64 t530] 32 (0, 0)) q129_ hb); have n1_ := Aside0.mk (blk_below (g := gb542) (o := .cells #[.string t534, .int .i64 t535, .int .i64 t536, .string t537, .int .i64 t538, .bool t539, .int .i64 t540] 32 (0, 0)) q130_ hb); have n2_ := Aside0.mk (blk_below (g := gb551) (o := .cells #[.string t543, .int .i64 t544, .int .i64 t545, .string t546, .int .i64 t547, .bool t548, .int .i64 t549] 32 (0, 0)) q131_ hb); have n3_ := Aside0.mk (below_step q43_ hb); clear BK533; clear BK542; clear BK551; clear HB; have BK533 := n0_; have BK542 := n1_; have BK551 := n2_; have HB := n3_; clear n0_ n1_ n2_ n3_; (try clear hb)))
              go_ret
              exact ⟨q103_, q43_⟩
            ·rw [if_neg c55] at H
             have c55b0 : (x11_3 == t531) = false := beq_eq_false_iff_ne.mpr c55
             have c55b1 : (x11_3 != t531) = true := bne_iff_ne.mpr c55
             replace H := Option.bind_eq_some_iff.mp H
             obtain ⟨t559, A720, H⟩ := H
             have A72 := Aside0.mk A720
             clear A720
             by_cases c73 : t559 = t557
             ·rw [if_pos c73] at H
              have c73b0 : (t559 == t557) = true := beq_iff_eq.mpr c73
              have c73b1 : (t559 != t557) = false := bne_eq_false_iff_eq.mpr c73
              clear c73
              have H' := Aside0.mk H
              clear H
              have hnb74 := NB533_542.out
              have hnc74 := NB542_533.out
              have hnb75 := NB533_551.out
              have hnc75 := NB551_533.out
              have hcz76_0 : wc.cell? ⟨gb533, 0, none⟩ = some (.string t524) := bz_ BK533 0
              have hcz76_1 : wc.cell? ⟨gb533, 1, none⟩ = some (.int .i64 t525) := bz_ BK533 1
              have hcz76_2 : wc.cell? ⟨gb533, 2, none⟩ = some (.int .i64 t526) := bz_ BK533 2
              have hcz76_3 : wc.cell? ⟨gb533, 3, none⟩ = some (.string t527) := bz_ BK533 3
              have hcz76_4 : wc.cell? ⟨gb533, 4, none⟩ = some (.int .i64 t528) := bz_ BK533 4
              have hcz76_5 : wc.cell? ⟨gb533, 5, none⟩ = some (.bool t529) := bz_ BK533 5
              have hcz76_6 : wc.cell? ⟨gb533, 6, none⟩ = some (.int .i64 t530) := bz_ BK533 6
              have hfz76_0 := blk_frozen BK533.out 0
              have hfz76_1 := blk_frozen BK533.out 1
              have hfz76_2 := blk_frozen BK533.out 2
              have hfz76_3 := blk_frozen BK533.out 3
              have hfz76_4 := blk_frozen BK533.out 4
              have hfz76_5 := blk_frozen BK533.out 5
              have hfz76_6 := blk_frozen BK533.out 6
              go_wp2_with (first | ((with_reducible refine gate_callee (f := 22) rfl ?_); refine goesL_ (some 75) rfl rfl Try.func22 (by kernel_rfl) rfl #[.agg #[.string t524, .int .i64 t525, .int .i64 t526, .string t527, .int .i64 t528, .bool t529, .int .i64 t530], .int .i64 x11_3] rfl q101_ ?_; (with_reducible refine (impl_CartRead.calls kj50 t524 t525 t526 t527 t528 t529 t530 x11_3 t557 _ A54.out).mono ?_); rintro e w77 ⟨rfl, hb⟩; refine ⟨_, rfl, ?_⟩; have n0_ := Aside0.mk (blk_below (g := gb533) (o := .cells #[.string t524, .int .i64 t525, .int .i64 t526, .string t527, .int .i64 t528, .bool t529, .int .i64 t530] 32 (0, 0)) q129_ hb); have n1_ := Aside0.mk (blk_below (g := gb542) (o := .cells #[.string t534, .int .i64 t535, .int .i64 t536, .string t537, .int .i64 t538, .bool t539, .int .i64 t540] 32 (0, 0)) q130_ hb); have n2_ := Aside0.mk (blk_below (g := gb551) (o := .cells #[.string t543, .int .i64 t544, .int .i64 t545, .string t546, .int .i64 t547, .bool t548, .int .i64 t549] 32 (0, 0)) q131_ hb); have n3_ := Aside0.mk (below_step q43_ hb); clear BK533; clear BK542; clear BK551; clear HB; have BK533 := n0_; have BK542 := n1_; have BK551 := n2_; have HB := n3_; clear n0_ n1_ n2_ n3_; (try clear hb); have hnb78 := NB542_551.out; have hnc78 := NB551_542.out; have hcz79_0 : w77.cell? ⟨gb542, 0, none⟩ = some (.string t534) := (blk_cell BK542.out 0).trans rfl; have hcz79_1 : w77.cell? ⟨gb542, 1, none⟩ = some (.int .i64 t535) := (blk_cell BK542.out 1).trans rfl; have hcz79_2 : w77.cell? ⟨gb542, 2, none⟩ = some (.int .i64 t536) := (blk_cell BK542.out 2).trans rfl; have hcz79_3 : w77.cell? ⟨gb542, 3, none⟩ = some (.string t537) := (blk_cell BK542.out 3).trans rfl; have hcz79_4 : w77.cell? ⟨gb542, 4, none⟩ = some (.int .i64 t538) := (blk_cell BK542.out 4).trans rfl; have hcz79_5 : w77.cell? ⟨gb542, 5, none⟩ = some (.bool t539) := (blk_cell BK542.out 5).trans rfl; have hcz79_6 : w77.cell? ⟨gb542, 6, none⟩ = some (.int .i64 t540) := (blk_cell BK542.out 6).trans rfl; have hfz79_0 := blk_frozen BK542.out 0; have hfz79_1 := blk_frozen BK542.out 1; have hfz79_2 := blk_frozen BK542.out 2; have hfz79_3 := blk_frozen BK542.out 3; have hfz79_4 := blk_frozen BK542.out 4; have hfz79_5 := blk_frozen BK542.out 5; have hfz79_6 := blk_frozen BK542.out 6) | ((with_reducible refine gate_callee (f := 22) rfl ?_); refine goesL_ (some 82) rfl rfl Try.func22 (by kernel_rfl) rfl #[.agg #[.string t534, .int .i64 t535, .int .i64 t536, .string t537, .int .i64 t538, .bool t539, .int .i64 t540], .int .i64 x11_3] rfl q101_ ?_; (with_reducible refine (impl_CartRead.calls kj50 t534 t535 t536 t537 t538 t539 t540 x11_3 t559 _ A72.out).mono ?_); rintro e w80 ⟨rfl, hb⟩; refine ⟨_, rfl, ?_⟩; have n0_ := Aside0.mk (blk_below (g := gb533) (o := .cells #[.string t524, .int .i64 t525, .int .i64 t526, .string t527, .int .i64 t528, .bool t529, .int .i64 t530] 32 (0, 0)) q129_ hb); have n1_ := Aside0.mk (blk_below (g := gb542) (o := .cells #[.string t534, .int .i64 t535, .int .i64 t536, .string t537, .int .i64 t538, .bool t539, .int .i64 t540] 32 (0, 0)) q130_ hb); have n2_ := Aside0.mk (blk_below (g := gb551) (o := .cells #[.string t543, .int .i64 t544, .int .i64 t545, .string t546, .int .i64 t547, .bool t548, .int .i64 t549] 32 (0, 0)) q131_ hb); have n3_ := Aside0.mk (below_step q43_ hb); clear BK533; clear BK542; clear BK551; clear HB; have BK533 := n0_; have BK542 := n1_; have BK551 := n2_; have HB := n3_; clear n0_ n1_ n2_ n3_; (try clear hb)))
              go_roundg kj50
              case measure => have := HJ6.out; have := HJ44.out; have := HK3.out; have := HJ50.out; omega
              case rel => exact ⟨(wrap64 (x11_3 + 1)), q133_, H', ⟨by have := HJ6.out; have := HJ44.out; have := HK3.out; have := HJ50.out; omega⟩, ⟨q129_⟩, ⟨q130_⟩, ⟨q131_⟩, ⟨q43_⟩⟩
             ·rw [if_neg c73] at H
              have c73b0 : (t559 == t557) = false := beq_eq_false_iff_ne.mpr c73
              have c73b1 : (t559 != t557) = true := bne_iff_ne.mpr c73
              obtain rfl := Option.some.inj H
              have hnb81 := NB533_542.out
              have hnc81 := NB542_533.out
              have hnb82 := NB533_551.out
              have hnc82 := NB551_533.out
              have hcz83_0 : wc.cell? ⟨gb533, 0, none⟩ = some (.string t524) := bz_ BK533 0
              have hcz83_1 : wc.cell? ⟨gb533, 1, none⟩ = some (.int .i64 t525) := bz_ BK533 1
              have hcz83_2 : wc.cell? ⟨gb533, 2, none⟩ = some (.int .i64 t526) := bz_ BK533 2
              have hcz83_3 : wc.cell? ⟨gb533, 3, none⟩ = some (.string t527) := bz_ BK533 3
              have hcz83_4 : wc.cell? ⟨gb533, 4, none⟩ = some (.int .i64 t528) := bz_ BK533 4
              have hcz83_5 : wc.cell? ⟨gb533, 5, none⟩ = some (.bool t529) := bz_ BK533 5
              have hcz83_6 : wc.cell? ⟨gb533, 6, none⟩ = some (.int .i64 t530) := bz_ BK533 6
              have hfz83_0 := blk_frozen BK533.out 0
              have hfz83_1 := blk_frozen BK533.out 1
              have hfz83_2 := blk_frozen BK533.out 2
              have hfz83_3 := blk_frozen BK533.out 3
              have hfz83_4 := blk_frozen BK533.out 4
              have hfz83_5 := blk_frozen BK533.out 5
              have hfz83_6 := blk_frozen BK533.out 6
              go_wp2_with (first | ((with_reducible refine gate_callee (f := 22) rfl ?_); refine goesL_ (some 75) rfl rfl Try.func22 (by kernel_rfl) rfl #[.agg #[.string t524, .int .i64 t525, .int .i64 t526, .string t527, .int .i64 t528, .bool t529, .int .i64 t530], .int .i64 x11_3] rfl q101_ ?_; (with_reducible refine (impl_CartRead.calls kj50 t524 t525 t526 t527 t528 t529 t530 x11_3 t557 _ A54.out).mono ?_); rintro e w84 ⟨rfl, hb⟩; refine ⟨_, rfl, ?_⟩; have n0_ := Aside0.mk (blk_below (g := gb533) (o := .cells #[.string t524, .int .i64 t525, .int .i64 t526, .string t527, .int .i64 t528, .bool t529, .int .i64 t530] 32 (0, 0)) q129_ hb); have n1_ := Aside0.mk (blk_below (g := gb542) (o := .cells #[.string t534, .int .i64 t535, .int .i64 t536, .string t537, .int .i64 t538, .bool t539, .int .i64 t540] 32 (0, 0)) q130_ hb); have n2_ := Aside0.mk (blk_below (g := gb551) (o := .cells #[.string t543, .int .i64 t544, .int .i64 t545, .string t546, .int .i64 t547, .bool t548, .int .i64 t549] 32 (0, 0)) q131_ hb); have n3_ := Aside0.mk (below_step q43_ hb); clear BK533; clear BK542; clear BK551; clear HB; have BK533 := n0_; have BK542 := n1_; have BK551 := n2_; have HB := n3_; clear n0_ n1_ n2_ n3_; (try clear hb); have hnb85 := NB542_551.out; have hnc85 := NB551_542.out; have hcz86_0 : w84.cell? ⟨gb542, 0, none⟩ = some (.string t534) := (blk_cell BK542.out 0).trans rfl; have hcz86_1 : w84.cell? ⟨gb542, 1, none⟩ = some (.int .i64 t535) := (blk_cell BK542.out 1).trans rfl; have hcz86_2 : w84.cell? ⟨gb542, 2, none⟩ = some (.int .i64 t536) := (blk_cell BK542.out 2).trans rfl; have hcz86_3 : w84.cell? ⟨gb542, 3, none⟩ = some (.string t537) := (blk_cell BK542.out 3).trans rfl; have hcz86_4 : w84.cell? ⟨gb542, 4, none⟩ = some (.int .i64 t538) := (blk_cell BK542.out 4).trans rfl; have hcz86_5 : w84.cell? ⟨gb542, 5, none⟩ = some (.bool t539) := (blk_cell BK542.out 5).trans rfl; have hcz86_6 : w84.cell? ⟨gb542, 6, none⟩ = some (.int .i64 t540) := (blk_cell BK542.out 6).trans rfl; have hfz86_0 := blk_frozen BK542.out 0; have hfz86_1 := blk_frozen BK542.out 1; have hfz86_2 := blk_frozen BK542.out 2; have hfz86_3 := blk_frozen BK542.out 3; have hfz86_4 := blk_frozen BK542.out 4; have hfz86_5 := blk_frozen BK542.out 5; have hfz86_6 := blk_frozen BK542.out 6) | ((with_reducible refine gate_callee (f := 22) rfl ?_); refine goesL_ (some 82) rfl rfl Try.func22 (by kernel_rfl) rfl #[.agg #[.string t534, .int .i64 t535, .int .i64 t536, .string t537, .int .i64 t538, .bool t539, .int .i64 t540], .int .i64 x11_3] rfl q101_ ?_; (with_reducible refine (impl_CartRead.calls kj50 t534 t535 t536 t537 t538 t539 t540 x11_3 t559 _ A72.out).mono ?_); rintro e w87 ⟨rfl, hb⟩; refine ⟨_, rfl, ?_⟩; have n0_ := Aside0.mk (blk_below (g := gb533) (o := .cells #[.string t524, .int .i64 t525, .int .i64 t526, .string t527, .int .i64 t528, .bool t529, .int .i64 t530] 32 (0, 0)) q129_ hb); have n1_ := Aside0.mk (blk_below (g := gb542) (o := .cells #[.string t534, .int .i64 t535, .int .i64 t536, .string t537, .int .i64 t538, .bool t539, .int .i64 t540] 32 (0, 0)) q130_ hb); have n2_ := Aside0.mk (blk_below (g := gb551) (o := .cells #[.string t543, .int .i64 t544, .int .i64 t545, .string t546, .int .i64 t547, .bool t548, .int .i64 t549] 32 (0, 0)) q131_ hb); have n3_ := Aside0.mk (below_step q43_ hb); clear BK533; clear BK542; clear BK551; clear HB; have BK533 := n0_; have BK542 := n1_; have BK551 := n2_; have HB := n3_; clear n0_ n1_ n2_ n3_; (try clear hb)))
              go_ret
              exact ⟨q103_, q43_⟩
           ·replace c53 := Bool.eq_false_iff.mpr c53
            subst c53
            replace H : ((impl_CartOk.f kj50 t534 t535 t536 t537 t538 t539 t540).bind fun t554 => (if t554 = true then (if t534.toList = t524.toList then (if x10_44 = true then (if t525 = 0 then ((laws_sameCart.f t534 t535 t536 t537 t538 t539 t540 t524 t525 t526 t527 t528 t529 t530).bind fun t555 => (some t555)) else (some true)) else (if t537.toList = t527.toList then (if t525 = 0 then ((laws_sameCart.f t534 t535 t536 t537 t538 t539 t540 t524 t525 t526 t527 t528 t529 t530).bind fun t556 => (some t556)) else (some true)) else (some false))) else (some false)) else (some false))) = some r := by rw [if_neg (show ¬ (false = true) by decide)] at H; exact H
            replace H := Option.bind_eq_some_iff.mp H
            obtain ⟨t554, A880, H⟩ := H
            have A88 := Aside0.mk A880
            clear A880
            by_cases c89 : t554 = true
            ·subst c89
             replace H : (if t534.toList = t524.toList then (if x10_44 = true then (if t525 = 0 then ((laws_sameCart.f t534 t535 t536 t537 t538 t539 t540 t524 t525 t526 t527 t528 t529 t530).bind fun t555 => (some t555)) else (some true)) else (if t537.toList = t527.toList then (if t525 = 0 then ((laws_sameCart.f t534 t535 t536 t537 t538 t539 t540 t524 t525 t526 t527 t528 t529 t530).bind fun t556 => (some t556)) else (some true)) else (some false))) else (some false)) = some r := by rw [if_pos rfl] at H; exact H
             by_cases c90 : t534.toList = t524.toList
             ·rw [if_pos c90] at H
              have c90b0 : (t534.toList == t524.toList) = true := beq_iff_eq.mpr c90
              have c90b1 : (t534.toList != t524.toList) = false := bne_eq_false_iff_eq.mpr c90
              clear c90
              by_cases c91 : x10_44 = true
              ·subst c91
               replace H : (if t525 = 0 then ((laws_sameCart.f t534 t535 t536 t537 t538 t539 t540 t524 t525 t526 t527 t528 t529 t530).bind fun t555 => (some t555)) else (some true)) = some r := by rw [if_pos rfl] at H; exact H
               by_cases c92 : t525 = 0
               ·rw [if_pos c92] at H
                have c92b0 : (t525 == 0) = true := beq_iff_eq.mpr c92
                have c92b1 : (t525 != 0) = false := bne_eq_false_iff_eq.mpr c92
                clear c92
                replace H := Option.bind_eq_some_iff.mp H
                obtain ⟨t555, A930, H⟩ := H
                have A93 := Aside0.mk A930
                clear A930
                obtain rfl := Option.some.inj H
                have hnb94 := NB542_533.out
                have hnc94 := NB533_542.out
                have hnb95 := NB542_551.out
                have hnc95 := NB551_542.out
                have hcz96_0 : wc.cell? ⟨gb542, 0, none⟩ = some (.string t534) := bz_ BK542 0
                have hcz96_1 : wc.cell? ⟨gb542, 1, none⟩ = some (.int .i64 t535) := bz_ BK542 1
                have hcz96_2 : wc.cell? ⟨gb542, 2, none⟩ = some (.int .i64 t536) := bz_ BK542 2
                have hcz96_3 : wc.cell? ⟨gb542, 3, none⟩ = some (.string t537) := bz_ BK542 3
                have hcz96_4 : wc.cell? ⟨gb542, 4, none⟩ = some (.int .i64 t538) := bz_ BK542 4
                have hcz96_5 : wc.cell? ⟨gb542, 5, none⟩ = some (.bool t539) := bz_ BK542 5
                have hcz96_6 : wc.cell? ⟨gb542, 6, none⟩ = some (.int .i64 t540) := bz_ BK542 6
                have hfz96_0 := blk_frozen BK542.out 0
                have hfz96_1 := blk_frozen BK542.out 1
                have hfz96_2 := blk_frozen BK542.out 2
                have hfz96_3 := blk_frozen BK542.out 3
                have hfz96_4 := blk_frozen BK542.out 4
                have hfz96_5 := blk_frozen BK542.out 5
                have hfz96_6 := blk_frozen BK542.out 6
                go_wp2_with (first | ((with_reducible refine gate_callee (f := 24) rfl ?_); refine goesL_ (some 86) rfl rfl Try.func24 (by kernel_rfl) rfl #[.agg #[.string t534, .int .i64 t535, .int .i64 t536, .string t537, .int .i64 t538, .bool t539, .int .i64 t540]] rfl q101_ ?_; (with_reducible refine (impl_CartOk.calls kj50 t534 t535 t536 t537 t538 t539 t540 true _ A88.out).mono ?_); rintro e w97 ⟨rfl, hb⟩; refine ⟨_, rfl, ?_⟩; have n0_ := Aside0.mk (blk_below (g := gb533) (o := .cells #[.string t524, .int .i64 t525, .int .i64 t526, .string t527, .int .i64 t528, .bool t529, .int .i64 t530] 32 (0, 0)) q129_ hb); have n1_ := Aside0.mk (blk_below (g := gb542) (o := .cells #[.string t534, .int .i64 t535, .int .i64 t536, .string t537, .int .i64 t538, .bool t539, .int .i64 t540] 32 (0, 0)) q130_ hb); have n2_ := Aside0.mk (blk_below (g := gb551) (o := .cells #[.string t543, .int .i64 t544, .int .i64 t545, .string t546, .int .i64 t547, .bool t548, .int .i64 t549] 32 (0, 0)) q131_ hb); have n3_ := Aside0.mk (below_step q43_ hb); clear BK533; clear BK542; clear BK551; clear HB; have BK533 := n0_; have BK542 := n1_; have BK551 := n2_; have HB := n3_; clear n0_ n1_ n2_ n3_; (try clear hb); have hcz98_0 : w97.cell? ⟨gb542, 0, none⟩ = some (.string t534) := (blk_cell BK542.out 0).trans rfl; have hcz98_1 : w97.cell? ⟨gb542, 1, none⟩ = some (.int .i64 t535) := (blk_cell BK542.out 1).trans rfl; have hcz98_2 : w97.cell? ⟨gb542, 2, none⟩ = some (.int .i64 t536) := (blk_cell BK542.out 2).trans rfl; have hcz98_3 : w97.cell? ⟨gb542, 3, none⟩ = some (.string t537) := (blk_cell BK542.out 3).trans rfl; have hcz98_4 : w97.cell? ⟨gb542, 4, none⟩ = some (.int .i64 t538) := (blk_cell BK542.out 4).trans rfl; have hcz98_5 : w97.cell? ⟨gb542, 5, none⟩ = some (.bool t539) := (blk_cell BK542.out 5).trans rfl; have hcz98_6 : w97.cell? ⟨gb542, 6, none⟩ = some (.int .i64 t540) := (blk_cell BK542.out 6).trans rfl; have hfz98_0 := blk_frozen BK542.out 0; have hfz98_1 := blk_frozen BK542.out 1; have hfz98_2 := blk_frozen BK542.out 2; have hfz98_3 := blk_frozen BK542.out 3; have hfz98_4 := blk_frozen BK542.out 4; have hfz98_5 := blk_frozen BK542.out 5; have hfz98_6 := blk_frozen BK542.out 6; have hnb99 := NB533_551.out; have hnc99 := NB551_533.out; have hcz100_0 : w97.cell? ⟨gb533, 0, none⟩ = some (.string t524) := (blk_cell BK533.out 0).trans rfl; have hcz100_1 : w97.cell? ⟨gb533, 1, none⟩ = some (.int .i64 t525) := (blk_cell BK533.out 1).trans rfl; have hcz100_2 : w97.cell? ⟨gb533, 2, none⟩ = some (.int .i64 t526) := (blk_cell BK533.out 2).trans rfl; have hcz100_3 : w97.cell? ⟨gb533, 3, none⟩ = some (.string t527) := (blk_cell BK533.out 3).trans rfl; have hcz100_4 : w97.cell? ⟨gb533, 4, none⟩ = some (.int .i64 t528) := (blk_cell BK533.out 4).trans rfl; have hcz100_5 : w97.cell? ⟨gb533, 5, none⟩ = some (.bool t529) := (blk_cell BK533.out 5).trans rfl; have hcz100_6 : w97.cell? ⟨gb533, 6, none⟩ = some (.int .i64 t530) := (blk_cell BK533.out 6).trans rfl; have hfz100_0 := blk_frozen BK533.out 0; have hfz100_1 := blk_frozen BK533.out 1; have hfz100_2 := blk_frozen BK533.out 2; have hfz100_3 := blk_frozen BK533.out 3; have hfz100_4 := blk_frozen BK533.out 4; have hfz100_5 := blk_frozen BK533.out 5; have hfz100_6 := blk_frozen BK533.out 6) | (go_at_call 27; (with_reducible refine (laws_sameCart.calls t534 t535 t536 t537 t538 t539 t540 t524 t525 t526 t527 t528 t529 t530 t555 _ A93.out).mono ?_); rintro e w101 ⟨rfl, hb⟩; have n0_ := Aside0.mk (blk_below (g := gb533) (o := .cells #[.string t524, .int .i64 t525, .int .i64 t526, .string t527, .int .i64 t528, .bool t529, .int .i64 t530] 32 (0, 0)) q129_ hb); have n1_ := Aside0.mk (blk_below (g := gb542) (o := .cells #[.string t534, .int .i64 t535, .int .i64 t536, .string t537, .int .i64 t538, .bool t539, .int .i64 t540] 32 (0, 0)) q130_ hb); have n2_ := Aside0.mk (blk_below (g := gb551) (o := .cells #[.string t543, .int .i64 t544, .int .i64 t545, .string t546, .int .i64 t547, .bool t548, .int .i64 t549] 32 (0, 0)) q131_ hb); have n3_ := Aside0.mk (below_step q43_ hb); clear BK533; clear BK542; clear BK551; clear HB; have BK533 := n0_; have BK542 := n1_; have BK551 := n2_; have HB := n3_; clear n0_ n1_ n2_ n3_; (try clear hb)))
                go_ret
                exact ⟨q103_, q43_⟩
               ·rw [if_neg c92] at H
                have c92b0 : (t525 == 0) = false := beq_eq_false_iff_ne.mpr c92
                have c92b1 : (t525 != 0) = true := bne_iff_ne.mpr c92
                obtain rfl := Option.some.inj H
                have hnb102 := NB542_533.out
                have hnc102 := NB533_542.out
                have hnb103 := NB542_551.out
                have hnc103 := NB551_542.out
                have hcz104_0 : wc.cell? ⟨gb542, 0, none⟩ = some (.string t534) := bz_ BK542 0
                have hcz104_1 : wc.cell? ⟨gb542, 1, none⟩ = some (.int .i64 t535) := bz_ BK542 1
                have hcz104_2 : wc.cell? ⟨gb542, 2, none⟩ = some (.int .i64 t536) := bz_ BK542 2
                have hcz104_3 : wc.cell? ⟨gb542, 3, none⟩ = some (.string t537) := bz_ BK542 3
                have hcz104_4 : wc.cell? ⟨gb542, 4, none⟩ = some (.int .i64 t538) := bz_ BK542 4
                have hcz104_5 : wc.cell? ⟨gb542, 5, none⟩ = some (.bool t539) := bz_ BK542 5
                have hcz104_6 : wc.cell? ⟨gb542, 6, none⟩ = some (.int .i64 t540) := bz_ BK542 6
                have hfz104_0 := blk_frozen BK542.out 0
                have hfz104_1 := blk_frozen BK542.out 1
                have hfz104_2 := blk_frozen BK542.out 2
                have hfz104_3 := blk_frozen BK542.out 3
                have hfz104_4 := blk_frozen BK542.out 4
                have hfz104_5 := blk_frozen BK542.out 5
                have hfz104_6 := blk_frozen BK542.out 6
                go_wp2_with (first | ((with_reducible refine gate_callee (f := 24) rfl ?_); refine goesL_ (some 86) rfl rfl Try.func24 (by kernel_rfl) rfl #[.agg #[.string t534, .int .i64 t535, .int .i64 t536, .string t537, .int .i64 t538, .bool t539, .int .i64 t540]] rfl q101_ ?_; (with_reducible refine (impl_CartOk.calls kj50 t534 t535 t536 t537 t538 t539 t540 true _ A88.out).mono ?_); rintro e w105 ⟨rfl, hb⟩; refine ⟨_, rfl, ?_⟩; have n0_ := Aside0.mk (blk_below (g := gb533) (o := .cells #[.string t524, .int .i64 t525, .int .i64 t526, .string t527, .int .i64 t528, .bool t529, .int .i64 t530] 32 (0, 0)) q129_ hb); have n1_ := Aside0.mk (blk_below (g := gb542) (o := .cells #[.string t534, .int .i64 t535, .int .i64 t536, .string t537, .int .i64 t538, .bool t539, .int .i64 t540] 32 (0, 0)) q130_ hb); have n2_ := Aside0.mk (blk_below (g := gb551) (o := .cells #[.string t543, .int .i64 t544, .int .i64 t545, .string t546, .int .i64 t547, .bool t548, .int .i64 t549] 32 (0, 0)) q131_ hb); have n3_ := Aside0.mk (below_step q43_ hb); clear BK533; clear BK542; clear BK551; clear HB; have BK533 := n0_; have BK542 := n1_; have BK551 := n2_; have HB := n3_; clear n0_ n1_ n2_ n3_; (try clear hb); have hcz106_0 : w105.cell? ⟨gb542, 0, none⟩ = some (.string t534) := (blk_cell BK542.out 0).trans rfl; have hcz106_1 : w105.cell? ⟨gb542, 1, none⟩ = some (.int .i64 t535) := (blk_cell BK542.out 1).trans rfl; have hcz106_2 : w105.cell? ⟨gb542, 2, none⟩ = some (.int .i64 t536) := (blk_cell BK542.out 2).trans rfl; have hcz106_3 : w105.cell? ⟨gb542, 3, none⟩ = some (.string t537) := (blk_cell BK542.out 3).trans rfl; have hcz106_4 : w105.cell? ⟨gb542, 4, none⟩ = some (.int .i64 t538) := (blk_cell BK542.out 4).trans rfl; have hcz106_5 : w105.cell? ⟨gb542, 5, none⟩ = some (.bool t539) := (blk_cell BK542.out 5).trans rfl; have hcz106_6 : w105.cell? ⟨gb542, 6, none⟩ = some (.int .i64 t540) := (blk_cell BK542.out 6).trans rfl; have hfz106_0 := blk_frozen BK542.out 0; have hfz106_1 := blk_frozen BK542.out 1; have hfz106_2 := blk_frozen BK542.out 2; have hfz106_3 := blk_frozen BK542.out 3; have hfz106_4 := blk_frozen BK542.out 4; have hfz106_5 := blk_frozen BK542.out 5; have hfz106_6 := blk_frozen BK542.out 6; have hnb107 := NB533_551.out; have hnc107 := NB551_533.out; have hcz108_0 : w105.cell? ⟨gb533, 0, none⟩ = some (.string t524) := (blk_cell BK533.out 0).trans rfl; have hcz108_1 : w105.cell? ⟨gb533, 1, none⟩ = some (.int .i64 t525) := (blk_cell BK533.out 1).trans rfl; have hcz108_2 : w105.cell? ⟨gb533, 2, none⟩ = some (.int .i64 t526) := (blk_cell BK533.out 2).trans rfl; have hcz108_3 : w105.cell? ⟨gb533, 3, none⟩ = some (.string t527) := (blk_cell BK533.out 3).trans rfl; have hcz108_4 : w105.cell? ⟨gb533, 4, none⟩ = some (.int .i64 t528) := (blk_cell BK533.out 4).trans rfl; have hcz108_5 : w105.cell? ⟨gb533, 5, none⟩ = some (.bool t529) := (blk_cell BK533.out 5).trans rfl; have hcz108_6 : w105.cell? ⟨gb533, 6, none⟩ = some (.int .i64 t530) := (blk_cell BK533.out 6).trans rfl; have hfz108_0 := blk_frozen BK533.out 0; have hfz108_1 := blk_frozen BK533.out 1; have hfz108_2 := blk_frozen BK533.out 2; have hfz108_3 := blk_frozen BK533.out 3; have hfz108_4 := blk_frozen BK533.out 4; have hfz108_5 := blk_frozen BK533.out 5; have hfz108_6 := blk_frozen BK533.out 6))
                go_ret
                exact ⟨q103_, q43_⟩
              ·replace c91 := Bool.eq_false_iff.mpr c91
               subst c91
               replace H : (if t537.toList = t527.toList then (if t525 = 0 then ((laws_sameCart.f t534 t535 t536 t537 t538 t539 t540 t524 t525 t526 t527 t528 t529 t530).bind fun t556 => (some t556)) else (some true)) else (some false)) = some r := by rw [if_neg (show ¬ (false = true) by decide)] at H; exact H
               by_cases c109 : t537.toList = t527.toList
               ·rw [if_pos c109] at H
                have c109b0 : (t537.toList == t527.toList) = true := beq_iff_eq.mpr c109
                have c109b1 : (t537.toList != t527.toList) = false := bne_eq_false_iff_eq.mpr c109
                clear c109
                by_cases c110 : t525 = 0
                ·rw [if_pos c110] at H
                 have c110b0 : (t525 == 0) = true := beq_iff_eq.mpr c110
                 have c110b1 : (t525 != 0) = false := bne_eq_false_iff_eq.mpr c110
                 clear c110
                 replace H := Option.bind_eq_some_iff.mp H
                 obtain ⟨t556, A1110, H⟩ := H
                 have A111 := Aside0.mk A1110
                 clear A1110
                 obtain rfl := Option.some.inj H
                 have hnb112 := NB542_533.out
                 have hnc112 := NB533_542.out
                 have hnb113 := NB542_551.out
                 have hnc113 := NB551_542.out
                 have hcz114_0 : wc.cell? ⟨gb542, 0, none⟩ = some (.string t534) := bz_ BK542 0
                 have hcz114_1 : wc.cell? ⟨gb542, 1, none⟩ = some (.int .i64 t535) := bz_ BK542 1
                 have hcz114_2 : wc.cell? ⟨gb542, 2, none⟩ = some (.int .i64 t536) := bz_ BK542 2
                 have hcz114_3 : wc.cell? ⟨gb542, 3, none⟩ = some (.string t537) := bz_ BK542 3
                 have hcz114_4 : wc.cell? ⟨gb542, 4, none⟩ = some (.int .i64 t538) := bz_ BK542 4
                 have hcz114_5 : wc.cell? ⟨gb542, 5, none⟩ = some (.bool t539) := bz_ BK542 5
                 have hcz114_6 : wc.cell? ⟨gb542, 6, none⟩ = some (.int .i64 t540) := bz_ BK542 6
                 have hfz114_0 := blk_frozen BK542.out 0
                 have hfz114_1 := blk_frozen BK542.out 1
                 have hfz114_2 := blk_frozen BK542.out 2
                 have hfz114_3 := blk_frozen BK542.out 3
                 have hfz114_4 := blk_frozen BK542.out 4
                 have hfz114_5 := blk_frozen BK542.out 5
                 have hfz114_6 := blk_frozen BK542.out 6
                 go_wp2_with (first | ((with_reducible refine gate_callee (f := 24) rfl ?_); refine goesL_ (some 86) rfl rfl Try.func24 (by kernel_rfl) rfl #[.agg #[.string t534, .int .i64 t535, .int .i64 t536, .string t537, .int .i64 t538, .bool t539, .int .i64 t540]] rfl q101_ ?_; (with_reducible refine (impl_CartOk.calls kj50 t534 t535 t536 t537 t538 t539 t540 true _ A88.out).mono ?_); rintro e w115 ⟨rfl, hb⟩; refine ⟨_, rfl, ?_⟩; have n0_ := Aside0.mk (blk_below (g := gb533) (o := .cells #[.string t524, .int .i64 t525, .int .i64 t526, .string t527, .int .i64 t528, .bool t529, .int .i64 t530] 32 (0, 0)) q129_ hb); have n1_ := Aside0.mk (blk_below (g := gb542) (o := .cells #[.string t534, .int .i64 t535, .int .i64 t536, .string t537, .int .i64 t538, .bool t539, .int .i64 t540] 32 (0, 0)) q130_ hb); have n2_ := Aside0.mk (blk_below (g := gb551) (o := .cells #[.string t543, .int .i64 t544, .int .i64 t545, .string t546, .int .i64 t547, .bool t548, .int .i64 t549] 32 (0, 0)) q131_ hb); have n3_ := Aside0.mk (below_step q43_ hb); clear BK533; clear BK542; clear BK551; clear HB; have BK533 := n0_; have BK542 := n1_; have BK551 := n2_; have HB := n3_; clear n0_ n1_ n2_ n3_; (try clear hb); have hcz116_0 : w115.cell? ⟨gb542, 0, none⟩ = some (.string t534) := (blk_cell BK542.out 0).trans rfl; have hcz116_1 : w115.cell? ⟨gb542, 1, none⟩ = some (.int .i64 t535) := (blk_cell BK542.out 1).trans rfl; have hcz116_2 : w115.cell? ⟨gb542, 2, none⟩ = some (.int .i64 t536) := (blk_cell BK542.out 2).trans rfl; have hcz116_3 : w115.cell? ⟨gb542, 3, none⟩ = some (.string t537) := (blk_cell BK542.out 3).trans rfl; have hcz116_4 : w115.cell? ⟨gb542, 4, none⟩ = some (.int .i64 t538) := (blk_cell BK542.out 4).trans rfl; have hcz116_5 : w115.cell? ⟨gb542, 5, none⟩ = some (.bool t539) := (blk_cell BK542.out 5).trans rfl; have hcz116_6 : w115.cell? ⟨gb542, 6, none⟩ = some (.int .i64 t540) := (blk_cell BK542.out 6).trans rfl; have hfz116_0 := blk_frozen BK542.out 0; have hfz116_1 := blk_frozen BK542.out 1; have hfz116_2 := blk_frozen BK542.out 2; have hfz116_3 := blk_frozen BK542.out 3; have hfz116_4 := blk_frozen BK542.out 4; have hfz116_5 := blk_frozen BK542.out 5; have hfz116_6 := blk_frozen BK542.out 6; have hnb117 := NB533_551.out; have hnc117 := NB551_533.out; have hcz118_0 : w115.cell? ⟨gb533, 0, none⟩ = some (.string t524) := (blk_cell BK533.out 0).trans rfl; have hcz118_1 : w115.cell? ⟨gb533, 1, none⟩ = some (.int .i64 t525) := (blk_cell BK533.out 1).trans rfl; have hcz118_2 : w115.cell? ⟨gb533, 2, none⟩ = some (.int .i64 t526) := (blk_cell BK533.out 2).trans rfl; have hcz118_3 : w115.cell? ⟨gb533, 3, none⟩ = some (.string t527) := (blk_cell BK533.out 3).trans rfl; have hcz118_4 : w115.cell? ⟨gb533, 4, none⟩ = some (.int .i64 t528) := (blk_cell BK533.out 4).trans rfl; have hcz118_5 : w115.cell? ⟨gb533, 5, none⟩ = some (.bool t529) := (blk_cell BK533.out 5).trans rfl; have hcz118_6 : w115.cell? ⟨gb533, 6, none⟩ = some (.int .i64 t530) := (blk_cell BK533.out 6).trans rfl; have hfz118_0 := blk_frozen BK533.out 0; have hfz118_1 := blk_frozen BK533.out 1; have hfz118_2 := blk_frozen BK533.out 2; have hfz118_3 := blk_frozen BK533.out 3; have hfz118_4 := blk_frozen BK533.out 4; have hfz118_5 := blk_frozen BK533.out 5; have hfz118_6 := blk_frozen BK533.out 6) | (go_at_call 27; (with_reducible refine (laws_sameCart.calls t534 t535 t536 t537 t538 t539 t540 t524 t525 t526 t527 t528 t529 t530 t556 _ A111.out).mono ?_); rintro e w119 ⟨rfl, hb⟩; have n0_ := Aside0.mk (blk_below (g := gb533) (o := .cells #[.string t524, .int .i64 t525, .int .i64 t526, .string t527, .int .i64 t528, .bool t529, .int .i64 t530] 32 (0, 0)) q129_ hb); have n1_ := Aside0.mk (blk_below (g := gb542) (o := .cells #[.string t534, .int .i64 t535, .int .i64 t536, .string t537, .int .i64 t538, .bool t539, .int .i64 t540] 32 (0, 0)) q130_ hb); have n2_ := Aside0.mk (blk_below (g := gb551) (o := .cells #[.string t543, .int .i64 t544, .int .i64 t545, .string t546, .int .i64 t547, .bool t548, .int .i64 t549] 32 (0, 0)) q131_ hb); have n3_ := Aside0.mk (below_step q43_ hb); clear BK533; clear BK542; clear BK551; clear HB; have BK533 := n0_; have BK542 := n1_; have BK551 := n2_; have HB := n3_; clear n0_ n1_ n2_ n3_; (try clear hb)))
                 go_ret
                 exact ⟨q103_, q43_⟩
                ·rw [if_neg c110] at H
                 have c110b0 : (t525 == 0) = false := beq_eq_false_iff_ne.mpr c110
                 have c110b1 : (t525 != 0) = true := bne_iff_ne.mpr c110
                 obtain rfl := Option.some.inj H
                 have hnb120 := NB542_533.out
                 have hnc120 := NB533_542.out
                 have hnb121 := NB542_551.out
                 have hnc121 := NB551_542.out
                 have hcz122_0 : wc.cell? ⟨gb542, 0, none⟩ = some (.string t534) := bz_ BK542 0
                 have hcz122_1 : wc.cell? ⟨gb542, 1, none⟩ = some (.int .i64 t535) := bz_ BK542 1
                 have hcz122_2 : wc.cell? ⟨gb542, 2, none⟩ = some (.int .i64 t536) := bz_ BK542 2
                 have hcz122_3 : wc.cell? ⟨gb542, 3, none⟩ = some (.string t537) := bz_ BK542 3
                 have hcz122_4 : wc.cell? ⟨gb542, 4, none⟩ = some (.int .i64 t538) := bz_ BK542 4
                 have hcz122_5 : wc.cell? ⟨gb542, 5, none⟩ = some (.bool t539) := bz_ BK542 5
                 have hcz122_6 : wc.cell? ⟨gb542, 6, none⟩ = some (.int .i64 t540) := bz_ BK542 6
                 have hfz122_0 := blk_frozen BK542.out 0
                 have hfz122_1 := blk_frozen BK542.out 1
                 have hfz122_2 := blk_frozen BK542.out 2
                 have hfz122_3 := blk_frozen BK542.out 3
                 have hfz122_4 := blk_frozen BK542.out 4
                 have hfz122_5 := blk_frozen BK542.out 5
                 have hfz122_6 := blk_frozen BK542.out 6
                 go_wp2_with (first | ((with_reducible refine gate_callee (f := 24) rfl ?_); refine goesL_ (some 86) rfl rfl Try.func24 (by kernel_rfl) rfl #[.agg #[.string t534, .int .i64 t535, .int .i64 t536, .string t537, .int .i64 t538, .bool t539, .int .i64 t540]] rfl q101_ ?_; (with_reducible refine (impl_CartOk.calls kj50 t534 t535 t536 t537 t538 t539 t540 true _ A88.out).mono ?_); rintro e w123 ⟨rfl, hb⟩; refine ⟨_, rfl, ?_⟩; have n0_ := Aside0.mk (blk_below (g := gb533) (o := .cells #[.string t524, .int .i64 t525, .int .i64 t526, .string t527, .int .i64 t528, .bool t529, .int .i64 t530] 32 (0, 0)) q129_ hb); have n1_ := Aside0.mk (blk_below (g := gb542) (o := .cells #[.string t534, .int .i64 t535, .int .i64 t536, .string t537, .int .i64 t538, .bool t539, .int .i64 t540] 32 (0, 0)) q130_ hb); have n2_ := Aside0.mk (blk_below (g := gb551) (o := .cells #[.string t543, .int .i64 t544, .int .i64 t545, .string t546, .int .i64 t547, .bool t548, .int .i64 t549] 32 (0, 0)) q131_ hb); have n3_ := Aside0.mk (below_step q43_ hb); clear BK533; clear BK542; clear BK551; clear HB; have BK533 := n0_; have BK542 := n1_; have BK551 := n2_; have HB := n3_; clear n0_ n1_ n2_ n3_; (try clear hb); have hcz124_0 : w123.cell? ⟨gb542, 0, none⟩ = some (.string t534) := (blk_cell BK542.out 0).trans rfl; have hcz124_1 : w123.cell? ⟨gb542, 1, none⟩ = some (.int .i64 t535) := (blk_cell BK542.out 1).trans rfl; have hcz124_2 : w123.cell? ⟨gb542, 2, none⟩ = some (.int .i64 t536) := (blk_cell BK542.out 2).trans rfl; have hcz124_3 : w123.cell? ⟨gb542, 3, none⟩ = some (.string t537) := (blk_cell BK542.out 3).trans rfl; have hcz124_4 : w123.cell? ⟨gb542, 4, none⟩ = some (.int .i64 t538) := (blk_cell BK542.out 4).trans rfl; have hcz124_5 : w123.cell? ⟨gb542, 5, none⟩ = some (.bool t539) := (blk_cell BK542.out 5).trans rfl; have hcz124_6 : w123.cell? ⟨gb542, 6, none⟩ = some (.int .i64 t540) := (blk_cell BK542.out 6).trans rfl; have hfz124_0 := blk_frozen BK542.out 0; have hfz124_1 := blk_frozen BK542.out 1; have hfz124_2 := blk_frozen BK542.out 2; have hfz124_3 := blk_frozen BK542.out 3; have hfz124_4 := blk_frozen BK542.out 4; have hfz124_5 := blk_frozen BK542.out 5; have hfz124_6 := blk_frozen BK542.out 6; have hnb125 := NB533_551.out; have hnc125 := NB551_533.out; have hcz126_0 : w123.cell? ⟨gb533, 0, none⟩ = some (.string t524) := (blk_cell BK533.out 0).trans rfl; have hcz126_1 : w123.cell? ⟨gb533, 1, none⟩ = some (.int .i64 t525) := (blk_cell BK533.out 1).trans rfl; have hcz126_2 : w123.cell? ⟨gb533, 2, none⟩ = some (.int .i64 t526) := (blk_cell BK533.out 2).trans rfl; have hcz126_3 : w123.cell? ⟨gb533, 3, none⟩ = some (.string t527) := (blk_cell BK533.out 3).trans rfl; have hcz126_4 : w123.cell? ⟨gb533, 4, none⟩ = some (.int .i64 t528) := (blk_cell BK533.out 4).trans rfl; have hcz126_5 : w123.cell? ⟨gb533, 5, none⟩ = some (.bool t529) := (blk_cell BK533.out 5).trans rfl; have hcz126_6 : w123.cell? ⟨gb533, 6, none⟩ = some (.int .i64 t530) := (blk_cell BK533.out 6).trans rfl; have hfz126_0 := blk_frozen BK533.out 0; have hfz126_1 := blk_frozen BK533.out 1; have hfz126_2 := blk_frozen BK533.out 2; have hfz126_3 := blk_frozen BK533.out 3; have hfz126_4 := blk_frozen BK533.out 4; have hfz126_5 := blk_frozen BK533.out 5; have hfz126_6 := blk_frozen BK533.out 6))
                 go_ret
                 exact ⟨q103_, q43_⟩
               ·rw [if_neg c109] at H
                have c109b0 : (t537.toList == t527.toList) = false := beq_eq_false_iff_ne.mpr c109
                have c109b1 : (t537.toList != t527.toList) = true := bne_iff_ne.mpr c109
                obtain rfl := Option.some.inj H
                have hnb127 := NB542_533.out
                have hnc127 := NB533_542.out
                have hnb128 := NB542_551.out
                have hnc128 := NB551_542.out
                have hcz129_0 : wc.cell? ⟨gb542, 0, none⟩ = some (.string t534) := bz_ BK542 0
                have hcz129_1 : wc.cell? ⟨gb542, 1, none⟩ = some (.int .i64 t535) := bz_ BK542 1
                have hcz129_2 : wc.cell? ⟨gb542, 2, none⟩ = some (.int .i64 t536) := bz_ BK542 2
                have hcz129_3 : wc.cell? ⟨gb542, 3, none⟩ = some (.string t537) := bz_ BK542 3
                have hcz129_4 : wc.cell? ⟨gb542, 4, none⟩ = some (.int .i64 t538) := bz_ BK542 4
                have hcz129_5 : wc.cell? ⟨gb542, 5, none⟩ = some (.bool t539) := bz_ BK542 5
                have hcz129_6 : wc.cell? ⟨gb542, 6, none⟩ = some (.int .i64 t540) := bz_ BK542 6
                have hfz129_0 := blk_frozen BK542.out 0
                have hfz129_1 := blk_frozen BK542.out 1
                have hfz129_2 := blk_frozen BK542.out 2
                have hfz129_3 := blk_frozen BK542.out 3
                have hfz129_4 := blk_frozen BK542.out 4
                have hfz129_5 := blk_frozen BK542.out 5
                have hfz129_6 := blk_frozen BK542.out 6
                go_wp2_with (first | ((with_reducible refine gate_callee (f := 24) rfl ?_); refine goesL_ (some 86) rfl rfl Try.func24 (by kernel_rfl) rfl #[.agg #[.string t534, .int .i64 t535, .int .i64 t536, .string t537, .int .i64 t538, .bool t539, .int .i64 t540]] rfl q101_ ?_; (with_reducible refine (impl_CartOk.calls kj50 t534 t535 t536 t537 t538 t539 t540 true _ A88.out).mono ?_); rintro e w130 ⟨rfl, hb⟩; refine ⟨_, rfl, ?_⟩; have n0_ := Aside0.mk (blk_below (g := gb533) (o := .cells #[.string t524, .int .i64 t525, .int .i64 t526, .string t527, .int .i64 t528, .bool t529, .int .i64 t530] 32 (0, 0)) q129_ hb); have n1_ := Aside0.mk (blk_below (g := gb542) (o := .cells #[.string t534, .int .i64 t535, .int .i64 t536, .string t537, .int .i64 t538, .bool t539, .int .i64 t540] 32 (0, 0)) q130_ hb); have n2_ := Aside0.mk (blk_below (g := gb551) (o := .cells #[.string t543, .int .i64 t544, .int .i64 t545, .string t546, .int .i64 t547, .bool t548, .int .i64 t549] 32 (0, 0)) q131_ hb); have n3_ := Aside0.mk (below_step q43_ hb); clear BK533; clear BK542; clear BK551; clear HB; have BK533 := n0_; have BK542 := n1_; have BK551 := n2_; have HB := n3_; clear n0_ n1_ n2_ n3_; (try clear hb); have hcz131_0 : w130.cell? ⟨gb542, 0, none⟩ = some (.string t534) := (blk_cell BK542.out 0).trans rfl; have hcz131_1 : w130.cell? ⟨gb542, 1, none⟩ = some (.int .i64 t535) := (blk_cell BK542.out 1).trans rfl; have hcz131_2 : w130.cell? ⟨gb542, 2, none⟩ = some (.int .i64 t536) := (blk_cell BK542.out 2).trans rfl; have hcz131_3 : w130.cell? ⟨gb542, 3, none⟩ = some (.string t537) := (blk_cell BK542.out 3).trans rfl; have hcz131_4 : w130.cell? ⟨gb542, 4, none⟩ = some (.int .i64 t538) := (blk_cell BK542.out 4).trans rfl; have hcz131_5 : w130.cell? ⟨gb542, 5, none⟩ = some (.bool t539) := (blk_cell BK542.out 5).trans rfl; have hcz131_6 : w130.cell? ⟨gb542, 6, none⟩ = some (.int .i64 t540) := (blk_cell BK542.out 6).trans rfl; have hfz131_0 := blk_frozen BK542.out 0; have hfz131_1 := blk_frozen BK542.out 1; have hfz131_2 := blk_frozen BK542.out 2; have hfz131_3 := blk_frozen BK542.out 3; have hfz131_4 := blk_frozen BK542.out 4; have hfz131_5 := blk_frozen BK542.out 5; have hfz131_6 := blk_frozen BK542.out 6; have hnb132 := NB533_551.out; have hnc132 := NB551_533.out; have hcz133_0 : w130.cell? ⟨gb533, 0, none⟩ = some (.string t524) := (blk_cell BK533.out 0).trans rfl; have hcz133_1 : w130.cell? ⟨gb533, 1, none⟩ = some (.int .i64 t525) := (blk_cell BK533.out 1).trans rfl; have hcz133_2 : w130.cell? ⟨gb533, 2, none⟩ = some (.int .i64 t526) := (blk_cell BK533.out 2).trans rfl; have hcz133_3 : w130.cell? ⟨gb533, 3, none⟩ = some (.string t527) := (blk_cell BK533.out 3).trans rfl; have hcz133_4 : w130.cell? ⟨gb533, 4, none⟩ = some (.int .i64 t528) := (blk_cell BK533.out 4).trans rfl; have hcz133_5 : w130.cell? ⟨gb533, 5, none⟩ = some (.bool t529) := (blk_cell BK533.out 5).trans rfl; have hcz133_6 : w130.cell? ⟨gb533, 6, none⟩ = some (.int .i64 t530) := (blk_cell BK533.out 6).trans rfl; have hfz133_0 := blk_frozen BK533.out 0; have hfz133_1 := blk_frozen BK533.out 1; have hfz133_2 := blk_frozen BK533.out 2; have hfz133_3 := blk_frozen BK533.out 3; have hfz133_4 := blk_frozen BK533.out 4; have hfz133_5 := blk_frozen BK533.out 5; have hfz133_6 := blk_frozen BK533.out 6))
                go_ret
                exact ⟨q103_, q43_⟩
             ·rw [if_neg c90] at H
              have c90b0 : (t534.toList == t524.toList) = false := beq_eq_false_iff_ne.mpr c90
              have c90b1 : (t534.toList != t524.toList) = true := bne_iff_ne.mpr c90
              obtain rfl := Option.some.inj H
              have hnb134 := NB542_533.out
              have hnc134 := NB533_542.out
              have hnb135 := NB542_551.out
              have hnc135 := NB551_542.out
              have hcz136_0 : wc.cell? ⟨gb542, 0, none⟩ = some (.string t534) := bz_ BK542 0
              have hcz136_1 : wc.cell? ⟨gb542, 1, none⟩ = some (.int .i64 t535) := bz_ BK542 1
              have hcz136_2 : wc.cell? ⟨gb542, 2, none⟩ = some (.int .i64 t536) := bz_ BK542 2
              have hcz136_3 : wc.cell? ⟨gb542, 3, none⟩ = some (.string t537) := bz_ BK542 3
              have hcz136_4 : wc.cell? ⟨gb542, 4, none⟩ = some (.int .i64 t538) := bz_ BK542 4
              have hcz136_5 : wc.cell? ⟨gb542, 5, none⟩ = some (.bool t539) := bz_ BK542 5
              have hcz136_6 : wc.cell? ⟨gb542, 6, none⟩ = some (.int .i64 t540) := bz_ BK542 6
              have hfz136_0 := blk_frozen BK542.out 0
              have hfz136_1 := blk_frozen BK542.out 1
              have hfz136_2 := blk_frozen BK542.out 2
              have hfz136_3 := blk_frozen BK542.out 3
              have hfz136_4 := blk_frozen BK542.out 4
              have hfz136_5 := blk_frozen BK542.out 5
              have hfz136_6 := blk_frozen BK542.out 6
              go_wp2_with (first | ((with_reducible refine gate_callee (f := 24) rfl ?_); refine goesL_ (some 86) rfl rfl Try.func24 (by kernel_rfl) rfl #[.agg #[.string t534, .int .i64 t535, .int .i64 t536, .string t537, .int .i64 t538, .bool t539, .int .i64 t540]] rfl q101_ ?_; (with_reducible refine (impl_CartOk.calls kj50 t534 t535 t536 t537 t538 t539 t540 true _ A88.out).mono ?_); rintro e w137 ⟨rfl, hb⟩; refine ⟨_, rfl, ?_⟩; have n0_ := Aside0.mk (blk_below (g := gb533) (o := .cells #[.string t524, .int .i64 t525, .int .i64 t526, .string t527, .int .i64 t528, .bool t529, .int .i64 t530] 32 (0, 0)) q129_ hb); have n1_ := Aside0.mk (blk_below (g := gb542) (o := .cells #[.string t534, .int .i64 t535, .int .i64 t536, .string t537, .int .i64 t538, .bool t539, .int .i64 t540] 32 (0, 0)) q130_ hb); have n2_ := Aside0.mk (blk_below (g := gb551) (o := .cells #[.string t543, .int .i64 t544, .int .i64 t545, .string t546, .int .i64 t547, .bool t548, .int .i64 t549] 32 (0, 0)) q131_ hb); have n3_ := Aside0.mk (below_step q43_ hb); clear BK533; clear BK542; clear BK551; clear HB; have BK533 := n0_; have BK542 := n1_; have BK551 := n2_; have HB := n3_; clear n0_ n1_ n2_ n3_; (try clear hb); have hcz138_0 : w137.cell? ⟨gb542, 0, none⟩ = some (.string t534) := (blk_cell BK542.out 0).trans rfl; have hcz138_1 : w137.cell? ⟨gb542, 1, none⟩ = some (.int .i64 t535) := (blk_cell BK542.out 1).trans rfl; have hcz138_2 : w137.cell? ⟨gb542, 2, none⟩ = some (.int .i64 t536) := (blk_cell BK542.out 2).trans rfl; have hcz138_3 : w137.cell? ⟨gb542, 3, none⟩ = some (.string t537) := (blk_cell BK542.out 3).trans rfl; have hcz138_4 : w137.cell? ⟨gb542, 4, none⟩ = some (.int .i64 t538) := (blk_cell BK542.out 4).trans rfl; have hcz138_5 : w137.cell? ⟨gb542, 5, none⟩ = some (.bool t539) := (blk_cell BK542.out 5).trans rfl; have hcz138_6 : w137.cell? ⟨gb542, 6, none⟩ = some (.int .i64 t540) := (blk_cell BK542.out 6).trans rfl; have hfz138_0 := blk_frozen BK542.out 0; have hfz138_1 := blk_frozen BK542.out 1; have hfz138_2 := blk_frozen BK542.out 2; have hfz138_3 := blk_frozen BK542.out 3; have hfz138_4 := blk_frozen BK542.out 4; have hfz138_5 := blk_frozen BK542.out 5; have hfz138_6 := blk_frozen BK542.out 6; have hnb139 := NB533_551.out; have hnc139 := NB551_533.out; have hcz140_0 : w137.cell? ⟨gb533, 0, none⟩ = some (.string t524) := (blk_cell BK533.out 0).trans rfl; have hcz140_1 : w137.cell? ⟨gb533, 1, none⟩ = some (.int .i64 t525) := (blk_cell BK533.out 1).trans rfl; have hcz140_2 : w137.cell? ⟨gb533, 2, none⟩ = some (.int .i64 t526) := (blk_cell BK533.out 2).trans rfl; have hcz140_3 : w137.cell? ⟨gb533, 3, none⟩ = some (.string t527) := (blk_cell BK533.out 3).trans rfl; have hcz140_4 : w137.cell? ⟨gb533, 4, none⟩ = some (.int .i64 t528) := (blk_cell BK533.out 4).trans rfl; have hcz140_5 : w137.cell? ⟨gb533, 5, none⟩ = some (.bool t529) := (blk_cell BK533.out 5).trans rfl; have hcz140_6 : w137.cell? ⟨gb533, 6, none⟩ = some (.int .i64 t530) := (blk_cell BK533.out 6).trans rfl; have hfz140_0 := blk_frozen BK533.out 0; have hfz140_1 := blk_frozen BK533.out 1; have hfz140_2 := blk_frozen BK533.out 2; have hfz140_3 := blk_frozen BK533.out 3; have hfz140_4 := blk_frozen BK533.out 4; have hfz140_5 := blk_frozen BK533.out 5; have hfz140_6 := blk_frozen BK533.out 6))
              go_ret
              exact ⟨q103_, q43_⟩
            ·replace c89 := Bool.eq_false_iff.mpr c89
             subst c89
             replace H : (some false) = some r := by rw [if_neg (show ¬ (false = true) by decide)] at H; exact H
             obtain rfl := Option.some.inj H
             have hnb141 := NB542_533.out
             have hnc141 := NB533_542.out
             have hnb142 := NB542_551.out
             have hnc142 := NB551_542.out
             have hcz143_0 : wc.cell? ⟨gb542, 0, none⟩ = some (.string t534) := bz_ BK542 0
             have hcz143_1 : wc.cell? ⟨gb542, 1, none⟩ = some (.int .i64 t535) := bz_ BK542 1
             have hcz143_2 : wc.cell? ⟨gb542, 2, none⟩ = some (.int .i64 t536) := bz_ BK542 2
             have hcz143_3 : wc.cell? ⟨gb542, 3, none⟩ = some (.string t537) := bz_ BK542 3
             have hcz143_4 : wc.cell? ⟨gb542, 4, none⟩ = some (.int .i64 t538) := bz_ BK542 4
             have hcz143_5 : wc.cell? ⟨gb542, 5, none⟩ = some (.bool t539) := bz_ BK542 5
             have hcz143_6 : wc.cell? ⟨gb542, 6, none⟩ = some (.int .i64 t540) := bz_ BK542 6
             have hfz143_0 := blk_frozen BK542.out 0
             have hfz143_1 := blk_frozen BK542.out 1
             have hfz143_2 := blk_frozen BK542.out 2
             have hfz143_3 := blk_frozen BK542.out 3
             have hfz143_4 := blk_frozen BK542.out 4
             have hfz143_5 := blk_frozen BK542.out 5
             have hfz143_6 := blk_frozen BK542.out 6
             go_wp2_with (first | ((with_reducible refine gate_callee (f := 24) rfl ?_); refine goesL_ (some 86) rfl rfl Try.func24 (by kernel_rfl) rfl #[.agg #[.string t534, .int .i64 t535, .int .i64 t536, .string t537, .int .i64 t538, .bool t539, .int .i64 t540]] rfl q101_ ?_; (with_reducible refine (impl_CartOk.calls kj50 t534 t535 t536 t537 t538 t539 t540 false _ A88.out).mono ?_); rintro e w144 ⟨rfl, hb⟩; refine ⟨_, rfl, ?_⟩; have n0_ := Aside0.mk (blk_below (g := gb533) (o := .cells #[.string t524, .int .i64 t525, .int .i64 t526, .string t527, .int .i64 t528, .bool t529, .int .i64 t530] 32 (0, 0)) q129_ hb); have n1_ := Aside0.mk (blk_below (g := gb542) (o := .cells #[.string t534, .int .i64 t535, .int .i64 t536, .string t537, .int .i64 t538, .bool t539, .int .i64 t540] 32 (0, 0)) q130_ hb); have n2_ := Aside0.mk (blk_below (g := gb551) (o := .cells #[.string t543, .int .i64 t544, .int .i64 t545, .string t546, .int .i64 t547, .bool t548, .int .i64 t549] 32 (0, 0)) q131_ hb); have n3_ := Aside0.mk (below_step q43_ hb); clear BK533; clear BK542; clear BK551; clear HB; have BK533 := n0_; have BK542 := n1_; have BK551 := n2_; have HB := n3_; clear n0_ n1_ n2_ n3_; (try clear hb)))
             go_ret
             exact ⟨q103_, q43_⟩
/-- THE ONE PURE STATEMENT of laws_FnCartWrites: yours. -/
def laws_FnCartWrites.Pure : Prop := ∀ (l0 : List Int), l0.length ≤ maxLen → l0.length * 1 ≤ 140737488351232 → (∀ x ∈ l0, (Lit.int .u8 x).wf = true) → ∃ k, laws_FnCartWrites.f k l0 = some true
theorem laws_FnCartWrites.walk (P : laws_FnCartWrites.Pure) (a0 : Option Addr) (len0 cap0 : Nat) (z0 : List Int) (w : World) (w0 : (a0 = none ∧ len0 = 0 ∧ cap0 = 0 ∧ z0 = []) ∨ ∃ x, a0 = some x ∧ len0 ≤ cap0 ∧ cap0 ≤ maxLen ∧ z0.length = cap0 ∧ (∀ i, i < z0.length → w.cell? (x.add i) = some (.int .u8 (z0.getD i 0))) ∧ ∀ n ∈ z0, (Lit.int .u8 n).wf = true) (y0 : len0 * 1 ≤ 140737488351232) :
  Calls Try.prog 8 #[.slice a0 len0 cap0] w fun e w' => e = .returned (.bool true) ∧ Below w.heap.size w w' := by
 obtain ⟨l0, rfl, hr0, hm0, hw0, hc0⟩ := ReadsInt.ofRowC w0
 obtain ⟨k, h⟩ := P l0 hm0 y0 hw0
 refine (laws_FnCartWrites.calls k _ _ l0 true w (Kd.C_of_reads (d := (0 : Int)) (h1 := fun _ => rfl) hr0) hc0 h).mono ?_
 rintro e w' ⟨rfl, hd⟩
 exact ⟨rfl, hd⟩
end Go.Proofs.Ytcohcndliaaacaa.QFnCartWrites
