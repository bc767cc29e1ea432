/- The machine's side of a law, written by a program of this session for this claim. -/
import Derived.Test.YtcohcndliaaacaaDoorYQq
import Derived.Test.YtcohcndliaaacaaDoorYQFnHeadersx0
import Derived.Test.YtcohcndliaaacaaDoorYQFnHeadersx5
import Derived.Test.YtcohcndliaaacaaDoorYQFnHeadersx12
namespace Go.Proofs.YtcohcndliaaacaaDoor.QFnHeaders
open Go.Proofs.YtcohcndliaaacaaDoor.Qq
open Go.RowKit Go.Proofs.YtcohcndliaaacaaDoor.LibX Go.Proofs.YtcohcndliaaacaaDoor.LibE Go.Proofs.YtcohcndliaaacaaDoorW.PrintWords Go.Proofs.YtcohcndliaaacaaDoorW.PrintLast Go.Proofs.YtcohcndliaaacaaDoorW.PrintMore
attribute [local go_sem] max2_int min2_int max_two min_two max_three min_three max_four min_four   -- for this text's walks alone
set_option maxHeartbeats 8000000
set_option maxRecDepth 100000
set_option linter.unusedVariables false
set_option linter.unusedSimpArgs false
def spec_DrawHeaderOf.f (k : Nat) (l0 : List Int) : Option (ByteArray) := (spec_l1Open.f l0).bind fun bt422 => ((spec_l1Rd_rom.f k bt422.1 bt422.2).bind fun bt425 => ((some (([(⟨#[]⟩ : ByteArray), (⟨#[71, 65, 77, 69]⟩ : ByteArray)] : List ByteArray) : List ByteArray)).bind fun y427 => ((spec_l1Rd_below.f bt422.1 bt425.2 2).bind fun bt430 => (if 0 ≤ bt430.1 then (if bt430.1 < (y427.length : Int) then ((spec_l1Rd_below.f bt422.1 bt430.2 3).bind fun bt433 => ((spec_Fixed.f k bt425.1 (rdOf ByteArray.empty y427 bt430.1) bt433.1).bind fun bt435 => (if bt435.2 = true then ((spec_l1Rd_once.f bt422.1 bt433.2 4).bind fun bt439 => (if bt439.1 = true then ((spec_l1Rd_below.f bt422.1 bt439.2 90).bind fun bt441 => (if 0 ≤ bt441.1 then (if bt441.1 ≤ (bt435.1.size : Int) then ((spec_l1Rd_below.f bt422.1 bt441.2 256).bind fun bt443 => ((some (([(bt443.1) % 256] : List Int) : List Int)).bind fun y445 => (if (bt435.1.extract 0 (bt441.1 : Int).toNat).size + (strOfNums y445).size ≤ 9223372036854775807 then (if 0 ≤ (wrap64 (bt441.1 + 1)) then (if (wrap64 (bt441.1 + 1)) ≤ (bt435.1.size : Int) then (if ((bt435.1.extract 0 (bt441.1 : Int).toNat) ++ (strOfNums y445)).size + (bt435.1.extract ((wrap64 (bt441.1 + 1)) : Int).toNat bt435.1.size).size ≤ 9223372036854775807 then (some (((bt435.1.extract 0 (bt441.1 : Int).toNat) ++ (strOfNums y445)) ++ (bt435.1.extract ((wrap64 (bt441.1 + 1)) : Int).toNat bt435.1.size))) else (none)) else (none)) else (none)) else (none)))) else (none)) else (none))) else (some bt435.1))) else ((spec_l1Rd_rom.f k bt422.1 bt433.2).bind fun bt437 => (some bt437.1))))) else (none)) else (none)))))
theorem spec_DrawHeaderOf.mono : ∀ a0 k, LeO (spec_DrawHeaderOf.f k a0) (spec_DrawHeaderOf.f (k + 1) a0) := by
 intro a0 k
 unfold spec_DrawHeaderOf.f
 repeat' first
   | (with_reducible first | exact spec_Fixed.mono _ _ _ _ | exact spec_l1Rd_rom.mono _ _ _ | exact LeO.refl _ | exact LeO.none _ | refine LeO.ite ?_ ?_ | refine LeO.bind ?_ (fun _ => ?_))
   | exact spec_Fixed.mono _ _ _ _
   | exact spec_l1Rd_rom.mono _ _ _
   | exact LeO.none _
   | refine LeO.ite ?_ ?_
   | refine LeO.bind ?_ (fun _ => ?_)
def spec_DrawHeaderOf.T2 : Bool × List (List Nat × List Nat) := (true, [([], []), ([0], [0]), ([], []), ([], []), ([3, 1], [3]), ([2, 4], [2, 4]), ([5], [5]), ([], []), ([7, 4], [7]), ([1, 6, 8, 8], [1, 6, 8]), ([9], [9]), ([10], [10]), ([10], [10]), ([11, 9, 0, 1, 2, 3, 4, 5, 6, 7, 8, 9, 10, 11], [11]), ([12, 13, 0, 1, 2, 3, 4, 5, 6, 7, 8, 9, 10, 11, 12, 13], [12])])
def spec_DrawHeaderOf.B2 : List Nat := [0, 1, 0, 0, 11, 31, 63, 0, 155, 511, 1023, 2047, 2047, 4095, 16383]
theorem spec_DrawHeaderOf.tab2 : rtab .any (opsOf Tryd.f16 2) = spec_DrawHeaderOf.T2 := by kernel_rfl
theorem spec_DrawHeaderOf.bits2 : waitsOk spec_DrawHeaderOf.T2.2 spec_DrawHeaderOf.B2 = true := by kernel_rfl
def spec_DrawHeaderOf.T7 : Bool × List (List Nat × List Nat) := (true, [([], []), ([], []), ([0, 1], [0, 1]), ([], []), ([3], [3]), ([4], [4]), ([5], [5]), ([6], [6]), ([2, 7], [2, 7]), ([], []), ([], []), ([10], [10]), ([9, 11], [9, 11]), ([8, 12], [8, 12]), ([13, 4, 0, 1, 2, 3, 4, 5, 6, 7, 8, 9, 10, 11, 12, 13], [13])])
def spec_DrawHeaderOf.B7 : List Nat := [0, 0, 3, 0, 8, 24, 56, 120, 255, 0, 0, 1024, 3584, 8191, 16383]
theorem spec_DrawHeaderOf.tab7 : rtab .any (opsOf Tryd.f16 7) = spec_DrawHeaderOf.T7 := by kernel_rfl
theorem spec_DrawHeaderOf.bits7 : waitsOk spec_DrawHeaderOf.T7.2 spec_DrawHeaderOf.B7 = true := by kernel_rfl
theorem spec_DrawHeaderOf.calls (k : Nat) (A0 : Option Addr) (c0 : Nat) (l0 : List Int) (r : ByteArray) (w : World) (hr0 : Kd.C (Kd.int .u8) w A0 l0.length l0) (hc0 : l0.length ≤ c0) (h : spec_DrawHeaderOf.f k l0 = some r) :
  Calls Tryd.prog 16 #[.slice A0 l0.length c0] w fun e w' => e = .returned (.string r) ∧ Below w.heap.size w w' := by
 have HR0 := Aside0.mk hr0
 have HC0 := Aside0.mk hc0
 clear hr0 hc0
 have HB := Aside0.mk (Below.refl w.heap.size w)
 have H : ((spec_l1Open.f l0).bind fun bt422 => ((spec_l1Rd_rom.f k bt422.1 bt422.2).bind fun bt425 => ((some (([(⟨#[]⟩ : ByteArray), (⟨#[71, 65, 77, 69]⟩ : ByteArray)] : List ByteArray) : List ByteArray)).bind fun y427 => ((spec_l1Rd_below.f bt422.1 bt425.2 2).bind fun bt430 => (if 0 ≤ bt430.1 then (if bt430.1 < (y427.length : Int) then ((spec_l1Rd_below.f bt422.1 bt430.2 3).bind fun bt433 => ((spec_Fixed.f k bt425.1 (rdOf ByteArray.empty y427 bt430.1) bt433.1).bind fun bt435 => (if bt435.2 = true then ((spec_l1Rd_once.f bt422.1 bt433.2 4).bind fun bt439 => (if bt439.1 = true then ((spec_l1Rd_below.f bt422.1 bt439.2 90).bind fun bt441 => (if 0 ≤ bt441.1 then (if bt441.1 ≤ (bt435.1.size : Int) then ((spec_l1Rd_below.f bt422.1 bt441.2 256).bind fun bt443 => ((some (([(bt443.1) % 256] : List Int) : List Int)).bind fun y445 => (if (bt435.1.extract 0 (bt441.1 : Int).toNat).size + (strOfNums y445).size ≤ 9223372036854775807 then (if 0 ≤ (wrap64 (bt441.1 + 1)) then (if (wrap64 (bt441.1 + 1)) ≤ (bt435.1.size : Int) then (if ((bt435.1.extract 0 (bt441.1 : Int).toNat) ++ (strOfNums y445)).size + (bt435.1.extract ((wrap64 (bt441.1 + 1)) : Int).toNat bt435.1.size).size ≤ 9223372036854775807 then (some (((bt435.1.extract 0 (bt441.1 : Int).toNat) ++ (strOfNums y445)) ++ (bt435.1.extract ((wrap64 (bt441.1 + 1)) : Int).toNat bt435.1.size))) else (none)) else (none)) else (none)) else (none)))) else (none)) else (none))) else (some bt435.1))) else ((spec_l1Rd_rom.f k bt422.1 bt433.2).bind fun bt437 => (some bt437.1))))) else (none)) else (none)))))) = some r := h
 clear h
 replace H := Option.bind_eq_some_iff.mp H
 obtain ⟨⟨t422, t423⟩, A20, H⟩ := H
 replace H : ((spec_l1Rd_rom.f k t422 t423).bind fun bt425 => ((some (([(⟨#[]⟩ : ByteArray), (⟨#[71, 65, 77, 69]⟩ : ByteArray)] : List ByteArray) : List ByteArray)).bind fun y427 => ((spec_l1Rd_below.f t422 bt425.2 2).bind fun bt430 => (if 0 ≤ bt430.1 then (if bt430.1 < (y427.length : Int) then ((spec_l1Rd_below.f t422 bt430.2 3).bind fun bt433 => ((spec_Fixed.f k bt425.1 (rdOf ByteArray.empty y427 bt430.1) bt433.1).bind fun bt435 => (if bt435.2 = true then ((spec_l1Rd_once.f t422 bt433.2 4).bind fun bt439 => (if bt439.1 = true then ((spec_l1Rd_below.f t422 bt439.2 90).bind fun bt441 => (if 0 ≤ bt441.1 then (if bt441.1 ≤ (bt435.1.size : Int) then ((spec_l1Rd_below.f t422 bt441.2 256).bind fun bt443 => ((some (([(bt443.1) % 256] : List Int) : List Int)).bind fun y445 => (if (bt435.1.extract 0 (bt441.1 : Int).toNat).size + (strOfNums y445).size ≤ 9223372036854775807 then (if 0 ≤ (wrap64 (bt441.1 + 1)) then (if (wrap64 (bt441.1 + 1)) ≤ (bt435.1.size : Int) then (if ((bt435.1.extract 0 (bt441.1 : Int).toNat) ++ (strOfNums y445)).size + (bt435.1.extract ((wrap64 (bt441.1 + 1)) : Int).toNat bt435.1.size).size ≤ 9223372036854775807 then (some (((bt435.1.extract 0 (bt441.1 : Int).toNat) ++ (strOfNums y445)) ++ (bt435.1.extract ((wrap64 (bt441.1 + 1)) : Int).toNat bt435.1.size))) else (none)) else (none)) else (none)) else (none)))) else (none)) else (none))) else (some bt435.1))) else ((spec_l1Rd_rom.f k t422 bt433.2).bind fun bt437 => (some bt437.1))))) else (none)) else (none))))) = some r := H
 have A2 := Aside0.mk A20
 clear A20
 replace H := Option.bind_eq_some_iff.mp H
 obtain ⟨⟨t425, t426⟩, A30, H⟩ := H
 replace H : ((some (([(⟨#[]⟩ : ByteArray), (⟨#[71, 65, 77, 69]⟩ : ByteArray)] : List ByteArray) : List ByteArray)).bind fun y427 => ((spec_l1Rd_below.f t422 t426 2).bind fun bt430 => (if 0 ≤ bt430.1 then (if bt430.1 < (y427.length : Int) then ((spec_l1Rd_below.f t422 bt430.2 3).bind fun bt433 => ((spec_Fixed.f k t425 (rdOf ByteArray.empty y427 bt430.1) bt433.1).bind fun bt435 => (if bt435.2 = true then ((spec_l1Rd_once.f t422 bt433.2 4).bind fun bt439 => (if bt439.1 = true then ((spec_l1Rd_below.f t422 bt439.2 90).bind fun bt441 => (if 0 ≤ bt441.1 then (if bt441.1 ≤ (bt435.1.size : Int) then ((spec_l1Rd_below.f t422 bt441.2 256).bind fun bt443 => ((some (([(bt443.1) % 256] : List Int) : List Int)).bind fun y445 => (if (bt435.1.extract 0 (bt441.1 : Int).toNat).size + (strOfNums y445).size ≤ 9223372036854775807 then (if 0 ≤ (wrap64 (bt441.1 + 1)) then (if (wrap64 (bt441.1 + 1)) ≤ (bt435.1.size : Int) then (if ((bt435.1.extract 0 (bt441.1 : Int).toNat) ++ (strOfNums y445)).size + (bt435.1.extract ((wrap64 (bt441.1 + 1)) : Int).toNat bt435.1.size).size ≤ 9223372036854775807 then (some (((bt435.1.extract 0 (bt441.1 : Int).toNat) ++ (strOfNums y445)) ++ (bt435.1.extract ((wrap64 (bt441.1 + 1)) : Int).toNat bt435.1.size))) else (none)) else (none)) else (none)) else (none)))) else (none)) else (none))) else (some bt435.1))) else ((spec_l1Rd_rom.f k t422 bt433.2).bind fun bt437 => (some bt437.1))))) else (none)) else (none)))) = some r := H
 have A3 := Aside0.mk A30
 clear A30
 obtain ⟨y427, hy427⟩ : ∃ y_ : List ByteArray, y_ = (([(⟨#[]⟩ : ByteArray), (⟨#[71, 65, 77, 69]⟩ : ByteArray)] : List ByteArray)) := ⟨_, rfl⟩
 replace H : ((spec_l1Rd_below.f t422 t426 2).bind fun bt430 => (if 0 ≤ bt430.1 then (if bt430.1 < (y427.length : Int) then ((spec_l1Rd_below.f t422 bt430.2 3).bind fun bt433 => ((spec_Fixed.f k t425 (rdOf ByteArray.empty y427 bt430.1) bt433.1).bind fun bt435 => (if bt435.2 = true then ((spec_l1Rd_once.f t422 bt433.2 4).bind fun bt439 => (if bt439.1 = true then ((spec_l1Rd_below.f t422 bt439.2 90).bind fun bt441 => (if 0 ≤ bt441.1 then (if bt441.1 ≤ (bt435.1.size : Int) then ((spec_l1Rd_below.f t422 bt441.2 256).bind fun bt443 => ((some (([(bt443.1) % 256] : List Int) : List Int)).bind fun y445 => (if (bt435.1.extract 0 (bt441.1 : Int).toNat).size + (strOfNums y445).size ≤ 9223372036854775807 then (if 0 ≤ (wrap64 (bt441.1 + 1)) then (if (wrap64 (bt441.1 + 1)) ≤ (bt435.1.size : Int) then (if ((bt435.1.extract 0 (bt441.1 : Int).toNat) ++ (strOfNums y445)).size + (bt435.1.extract ((wrap64 (bt441.1 + 1)) : Int).toNat bt435.1.size).size ≤ 9223372036854775807 then (some (((bt435.1.extract 0 (bt441.1 : Int).toNat) ++ (strOfNums y445)) ++ (bt435.1.extract ((wrap64 (bt441.1 + 1)) : Int).toNat bt435.1.size))) else (none)) else (none)) else (none)) else (none)))) else (none)) else (none))) else (some bt435.1))) else ((spec_l1Rd_rom.f k t422 bt433.2).bind fun bt437 => (some bt437.1))))) else (none)) else (none))) = some r := by first | (rw [hy427]; with_reducible exact H) | (have H2_ := (Option.bind_some _ _).symm.trans H; rw [hy427]; with_reducible exact H2_) | (have H2_ := (Option.bind_some _ _).symm.trans H; with_reducible exact H2_) | with_reducible exact H | (rw [hy427]; exact H) | exact H
 have Ny427 := Aside0.mk hy427
 clear hy427
 replace H := Option.bind_eq_some_iff.mp H
 obtain ⟨⟨t430, t431⟩, A40, H⟩ := H
 replace H : (if 0 ≤ t430 then (if t430 < (y427.length : Int) then ((spec_l1Rd_below.f t422 t431 3).bind fun bt433 => ((spec_Fixed.f k t425 (rdOf ByteArray.empty y427 t430) bt433.1).bind fun bt435 => (if bt435.2 = true then ((spec_l1Rd_once.f t422 bt433.2 4).bind fun bt439 => (if bt439.1 = true then ((spec_l1Rd_below.f t422 bt439.2 90).bind fun bt441 => (if 0 ≤ bt441.1 then (if bt441.1 ≤ (bt435.1.size : Int) then ((spec_l1Rd_below.f t422 bt441.2 256).bind fun bt443 => ((some (([(bt443.1) % 256] : List Int) : List Int)).bind fun y445 => (if (bt435.1.extract 0 (bt441.1 : Int).toNat).size + (strOfNums y445).size ≤ 9223372036854775807 then (if 0 ≤ (wrap64 (bt441.1 + 1)) then (if (wrap64 (bt441.1 + 1)) ≤ (bt435.1.size : Int) then (if ((bt435.1.extract 0 (bt441.1 : Int).toNat) ++ (strOfNums y445)).size + (bt435.1.extract ((wrap64 (bt441.1 + 1)) : Int).toNat bt435.1.size).size ≤ 9223372036854775807 then (some (((bt435.1.extract 0 (bt441.1 : Int).toNat) ++ (strOfNums y445)) ++ (bt435.1.extract ((wrap64 (bt441.1 + 1)) : Int).toNat bt435.1.size))) else (none)) else (none)) else (none)) else (none)))) else (none)) else (none))) else (some bt435.1))) else ((spec_l1Rd_rom.f k t422 bt433.2).bind fun bt437 => (some bt437.1))))) else (none)) else (none)) = some r := H
 have A4 := Aside0.mk A40
 clear A40
 by_cases c5 : 0 ≤ t430
 ·rw [if_pos c5] at H
  have c5b0 : decide (0 ≤ t430) = true := decide_eq_true c5
  clear c5
  by_cases c6 : t430 < (y427.length : Int)
  ·rw [if_pos c6] at H
   have c6b0 : decide (t430 < (y427.length : Int)) = true := decide_eq_true c6
   clear c6
   replace H := Option.bind_eq_some_iff.mp H
   obtain ⟨⟨t433, t434⟩, A70, H⟩ := H
   replace H : ((spec_Fixed.f k t425 (rdOf ByteArray.empty y427 t430) t433).bind fun bt435 => (if bt435.2 = true then ((spec_l1Rd_once.f t422 t434 4).bind fun bt439 => (if bt439.1 = true then ((spec_l1Rd_below.f t422 bt439.2 90).bind fun bt441 => (if 0 ≤ bt441.1 then (if bt441.1 ≤ (bt435.1.size : Int) then ((spec_l1Rd_below.f t422 bt441.2 256).bind fun bt443 => ((some (([(bt443.1) % 256] : List Int) : List Int)).bind fun y445 => (if (bt435.1.extract 0 (bt441.1 : Int).toNat).size + (strOfNums y445).size ≤ 9223372036854775807 then (if 0 ≤ (wrap64 (bt441.1 + 1)) then (if (wrap64 (bt441.1 + 1)) ≤ (bt435.1.size : Int) then (if ((bt435.1.extract 0 (bt441.1 : Int).toNat) ++ (strOfNums y445)).size + (bt435.1.extract ((wrap64 (bt441.1 + 1)) : Int).toNat bt435.1.size).size ≤ 9223372036854775807 then (some (((bt435.1.extract 0 (bt441.1 : Int).toNat) ++ (strOfNums y445)) ++ (bt435.1.extract ((wrap64 (bt441.1 + 1)) : Int).toNat bt435.1.size))) else (none)) else (none)) else (none)) else (none)))) else (none)) else (none))) else (some bt435.1))) else ((spec_l1Rd_rom.f k t422 t434).bind fun bt437 => (some bt437.1)))) = some r := H
   have A7 := Aside0.mk A70
   clear A70
   replace H := Option.bind_eq_some_iff.mp H
   obtain ⟨⟨t435, t436⟩, A80, H⟩ := H
   replace H : (if t436 = true then ((spec_l1Rd_once.f t422 t434 4).bind fun bt439 => (if bt439.1 = true then ((spec_l1Rd_below.f t422 bt439.2 90).bind fun bt441 => (if 0 ≤ bt441.1 then (if bt441.1 ≤ (t435.size : Int) then ((spec_l1Rd_below.f t422 bt441.2 256).bind fun bt443 => ((some (([(bt443.1) % 256] : List Int) : List Int)).bind fun y445 => (if (t435.extract 0 (bt441.1 : Int).toNat).size + (strOfNums y445).size ≤ 9223372036854775807 then (if 0 ≤ (wrap64 (bt441.1 + 1)) then (if (wrap64 (bt441.1 + 1)) ≤ (t435.size : Int) then (if ((t435.extract 0 (bt441.1 : Int).toNat) ++ (strOfNums y445)).size + (t435.extract ((wrap64 (bt441.1 + 1)) : Int).toNat t435.size).size ≤ 9223372036854775807 then (some (((t435.extract 0 (bt441.1 : Int).toNat) ++ (strOfNums y445)) ++ (t435.extract ((wrap64 (bt441.1 + 1)) : Int).toNat t435.size))) else (none)) else (none)) else (none)) else (none)))) else (none)) else (none))) else (some t435))) else ((spec_l1Rd_rom.f k t422 t434).bind fun bt437 => (some bt437.1))) = some r := H
   have A8 := Aside0.mk A80
   clear A80
   by_cases c9 : t436 = true
   ·subst c9
    replace H : ((spec_l1Rd_once.f t422 t434 4).bind fun bt439 => (if bt439.1 = true then ((spec_l1Rd_below.f t422 bt439.2 90).bind fun bt441 => (if 0 ≤ bt441.1 then (if bt441.1 ≤ (t435.size : Int) then ((spec_l1Rd_below.f t422 bt441.2 256).bind fun bt443 => ((some (([(bt443.1) % 256] : List Int) : List Int)).bind fun y445 => (if (t435.extract 0 (bt441.1 : Int).toNat).size + (strOfNums y445).size ≤ 9223372036854775807 then (if 0 ≤ (wrap64 (bt441.1 + 1)) then (if (wrap64 (bt441.1 + 1)) ≤ (t435.size : Int) then (if ((t435.extract 0 (bt441.1 : Int).toNat) ++ (strOfNums y445)).size + (t435.extract ((wrap64 (bt441.1 + 1)) : Int).toNat t435.size).size ≤ 9223372036854775807 then (some (((t435.extract 0 (bt441.1 : Int).toNat) ++ (strOfNums y445)) ++ (t435.extract ((wrap64 (bt441.1 + 1)) : Int).toNat t435.size))) else (none)) else (none)) else (none)) else (none)))) else (none)) else (none))) else (some t435))) = some r := by rw [if_pos rfl] at H; exact H
    replace H := Option.bind_eq_some_iff.mp H
    obtain ⟨⟨t439, t440⟩, A100, H⟩ := H
    replace H : (if t439 = true then ((spec_l1Rd_below.f t422 t440 90).bind fun bt441 => (if 0 ≤ bt441.1 then (if bt441.1 ≤ (t435.size : Int) then ((spec_l1Rd_below.f t422 bt441.2 256).bind fun bt443 => ((some (([(bt443.1) % 256] : List Int) : List Int)).bind fun y445 => (if (t435.extract 0 (bt441.1 : Int).toNat).size + (strOfNums y445).size ≤ 9223372036854775807 then (if 0 ≤ (wrap64 (bt441.1 + 1)) then (if (wrap64 (bt441.1 + 1)) ≤ (t435.size : Int) then (if ((t435.extract 0 (bt441.1 : Int).toNat) ++ (strOfNums y445)).size + (t435.extract ((wrap64 (bt441.1 + 1)) : Int).toNat t435.size).size ≤ 9223372036854775807 then (some (((t435.extract 0 (bt441.1 : Int).toNat) ++ (strOfNums y445)) ++ (t435.extract ((wrap64 (bt441.1 + 1)) : Int).toNat t435.size))) else (none)) else (none)) else (none)) else (none)))) else (none)) else (none))) else (some t435)) = some r := H
    have A10 := Aside0.mk A100
    clear A100
    by_cases c11 : t439 = true
    ·subst c11
     replace H : ((spec_l1Rd_below.f t422 t440 90).bind fun bt441 => (if 0 ≤ bt441.1 then (if bt441.1 ≤ (t435.size : Int) then ((spec_l1Rd_below.f t422 bt441.2 256).bind fun bt443 => ((some (([(bt443.1) % 256] : List Int) : List Int)).bind fun y445 => (if (t435.extract 0 (bt441.1 : Int).toNat).size + (strOfNums y445).size ≤ 9223372036854775807 then (if 0 ≤ (wrap64 (bt441.1 + 1)) then (if (wrap64 (bt441.1 + 1)) ≤ (t435.size : Int) then (if ((t435.extract 0 (bt441.1 : Int).toNat) ++ (strOfNums y445)).size + (t435.extract ((wrap64 (bt441.1 + 1)) : Int).toNat t435.size).size ≤ 9223372036854775807 then (some (((t435.extract 0 (bt441.1 : Int).toNat) ++ (strOfNums y445)) ++ (t435.extract ((wrap64 (bt441.1 + 1)) : Int).toNat t435.size))) else (none)) else (none)) else (none)) else (none)))) else (none)) else (none))) = some r := by rw [if_pos rfl] at H; exact H
     replace H := Option.bind_eq_some_iff.mp H
     obtain ⟨⟨t441, t442⟩, A120, H⟩ := H
     replace H : (if 0 ≤ t441 then (if t441 ≤ (t435.size : Int) then ((spec_l1Rd_below.f t422 t442 256).bind fun bt443 => ((some (([(bt443.1) % 256] : List Int) : List Int)).bind fun y445 => (if (t435.extract 0 (t441 : Int).toNat).size + (strOfNums y445).size ≤ 9223372036854775807 then (if 0 ≤ (wrap64 (t441 + 1)) then (if (wrap64 (t441 + 1)) ≤ (t435.size : Int) then (if ((t435.extract 0 (t441 : Int).toNat) ++ (strOfNums y445)).size + (t435.extract ((wrap64 (t441 + 1)) : Int).toNat t435.size).size ≤ 9223372036854775807 then (some (((t435.extract 0 (t441 : Int).toNat) ++ (strOfNums y445)) ++ (t435.extract ((wrap64 (t441 + 1)) : Int).toNat t435.size))) else (none)) else (none)) else (none)) else (none)))) else (none)) else (none)) = some r := H
     have A12 := Aside0.mk A120
     clear A120
     by_cases c13 : 0 ≤ t441
     ·rw [if_pos c13] at H
      have c13b0 := eq_true c13
      have c13b1 : decide (0 ≤ t441) = true := decide_eq_true c13
      clear c13
      by_cases c14 : t441 ≤ (t435.size : Int)
      ·rw [if_pos c14] at H
       have c14b0 := eq_true c14
       have c14b1 : decide (t441 ≤ (t435.size : Int)) = true := decide_eq_true c14
       clear c14
       replace H := Option.bind_eq_some_iff.mp H
       obtain ⟨⟨t443, t444⟩, A150, H⟩ := H
       replace H : ((some (([(t443) % 256] : List Int) : List Int)).bind fun y445 => (if (t435.extract 0 (t441 : Int).toNat).size + (strOfNums y445).size ≤ 9223372036854775807 then (if 0 ≤ (wrap64 (t441 + 1)) then (if (wrap64 (t441 + 1)) ≤ (t435.size : Int) then (if ((t435.extract 0 (t441 : Int).toNat) ++ (strOfNums y445)).size + (t435.extract ((wrap64 (t441 + 1)) : Int).toNat t435.size).size ≤ 9223372036854775807 then (some (((t435.extract 0 (t441 : Int).toNat) ++ (strOfNums y445)) ++ (t435.extract ((wrap64 (t441 + 1)) : Int).toNat t435.size))) else (none)) else (none)) else (none)) else (none))) = some r := H
       have A15 := Aside0.mk A150
       clear A150
       obtain ⟨y445, hy445⟩ : ∃ y_ : List Int, y_ = (([(t443) % 256] : List Int)) := ⟨_, rfl⟩
       replace H : (if (t435.extract 0 (t441 : Int).toNat).size + (strOfNums y445).size ≤ 9223372036854775807 then (if 0 ≤ (wrap64 (t441 + 1)) then (if (wrap64 (t441 + 1)) ≤ (t435.size : Int) then (if ((t435.extract 0 (t441 : Int).toNat) ++ (strOfNums y445)).size + (t435.extract ((wrap64 (t441 + 1)) : Int).toNat t435.size).size ≤ 9223372036854775807 then (some (((t435.extract 0 (t441 : Int).toNat) ++ (strOfNums y445)) ++ (t435.extract ((wrap64 (t441 + 1)) : Int).toNat t435.size))) else (none)) else (none)) else (none)) else (none)) = some r := by first | (rw [hy445]; with_reducible exact H) | (have H2_ := (Option.bind_some _ _).symm.trans H; rw [hy445]; with_reducible exact H2_) | (have H2_ := (Option.bind_some _ _).symm.trans H; with_reducible exact H2_) | with_reducible exact H | (rw [hy445]; exact H) | exact H
       have Ny445 := Aside0.mk hy445
       clear hy445
       by_cases c16 : (t435.extract 0 (t441 : Int).toNat).size + (strOfNums y445).size ≤ 9223372036854775807
       ·rw [if_pos c16] at H
        have c16b0 := eq_true c16
        (try (have c16b0e := c16b0; simp only [ByteArray.size_append, ByteArray.size_extract, Nat.min_self, Nat.sub_zero] at c16b0e))
        (try (have c16b0f := c16b0e; simp only [show min (t441 : Int).toNat t435.size = (t441 : Int).toNat from Nat.min_eq_left (by have q_ : t441 ≤ (t435.size : Int) := of_decide_eq_true q87_; omega)] at c16b0f))
        have c16b1 : decide ((t435.extract 0 (t441 : Int).toNat).size + (strOfNums y445).size ≤ 9223372036854775807) = true := decide_eq_true c16
        (try (have c16b1e := c16b1; simp only [ByteArray.size_append, ByteArray.size_extract, Nat.min_self, Nat.sub_zero] at c16b1e))
        (try (have c16b1f := c16b1e; simp only [show min (t441 : Int).toNat t435.size = (t441 : Int).toNat from Nat.min_eq_left (by have q_ : t441 ≤ (t435.size : Int) := of_decide_eq_true q87_; omega)] at c16b1f))
        try have c16b2 : (9223372036854775807 < (t435.extract 0 (t441 : Int).toNat).size + (strOfNums y445).size) = False := eq_false (Nat.not_lt.2 c16)
        (try (have c16b2e := c16b2; simp only [ByteArray.size_append, ByteArray.size_extract, Nat.min_self, Nat.sub_zero] at c16b2e))
        (try (have c16b2f := c16b2e; simp only [show min (t441 : Int).toNat t435.size = (t441 : Int).toNat from Nat.min_eq_left (by have q_ : t441 ≤ (t435.size : Int) := of_decide_eq_true q87_; omega)] at c16b2f))
        obtain ⟨ji17, hji17⟩ : ∃ j_ : Int, (wrap64 (t441 + 1)) = j_ := ⟨_, rfl⟩
        replace H : (if 0 ≤ (ji17) then (if (ji17) ≤ (t435.size : Int) then (if ((t435.extract 0 (t441 : Int).toNat) ++ (strOfNums y445)).size + (t435.extract ((ji17) : Int).toNat t435.size).size ≤ 9223372036854775807 then (some (((t435.extract 0 (t441 : Int).toNat) ++ (strOfNums y445)) ++ (t435.extract ((ji17) : Int).toNat t435.size))) else (none)) else (none)) else (none)) = some r := by first | (rw [hji17] at H; exact H) | (simp only [hji17] at H ⊢; exact H)
        (try rw [hji17] at A2)
        (try rw [hji17] at A3)
        (try rw [hji17] at A4)
        (try rw [hji17] at A7)
        (try rw [hji17] at A8)
        (try rw [hji17] at A10)
        (try rw [hji17] at A12)
        (try rw [hji17] at A15)
        have hji17w : (IntKind.i64.wrap (t441 + 1)) = ji17 := (i64_w _).trans hji17
        by_cases c18 : 0 ≤ (ji17)
        ·rw [if_pos c18] at H
         have c18b0 := eq_true c18
         have c18b1 : decide (0 ≤ (ji17)) = true := decide_eq_true c18
         clear c18
         by_cases c19 : (ji17) ≤ (t435.size : Int)
         ·rw [if_pos c19] at H
          have c19b0 := eq_true c19
          have c19b1 : decide ((ji17) ≤ (t435.size : Int)) = true := decide_eq_true c19
          clear c19
          by_cases c20 : ((t435.extract 0 (t441 : Int).toNat) ++ (strOfNums y445)).size + (t435.extract ((ji17) : Int).toNat t435.size).size ≤ 9223372036854775807
          ·rw [if_pos c20] at H
           have c20b0 := eq_true c20
           (try (have c20b0e := c20b0; simp only [ByteArray.size_append, ByteArray.size_extract, Nat.min_self, Nat.sub_zero] at c20b0e))
           (try (have c20b0f := c20b0e; simp only [show min (t441 : Int).toNat t435.size = (t441 : Int).toNat from Nat.min_eq_left (by have q_ : t441 ≤ (t435.size : Int) := of_decide_eq_true q87_; omega)] at c20b0f))
           have c20b1 : decide (((t435.extract 0 (t441 : Int).toNat) ++ (strOfNums y445)).size + (t435.extract ((ji17) : Int).toNat t435.size).size ≤ 9223372036854775807) = true := decide_eq_true c20
           (try (have c20b1e := c20b1; simp only [ByteArray.size_append, ByteArray.size_extract, Nat.min_self, Nat.sub_zero] at c20b1e))
           (try (have c20b1f := c20b1e; simp only [show min (t441 : Int).toNat t435.size = (t441 : Int).toNat from Nat.min_eq_left (by have q_ : t441 ≤ (t435.size : Int) := of_decide_eq_true q87_; omega)] at c20b1f))
           try have c20b2 : (9223372036854775807 < ((t435.extract 0 (t441 : Int).toNat) ++ (strOfNums y445)).size + (t435.extract ((ji17) : Int).toNat t435.size).size) = False := eq_false (Nat.not_lt.2 c20)
           (try (have c20b2e := c20b2; simp only [ByteArray.size_append, ByteArray.size_extract, Nat.min_self, Nat.sub_zero] at c20b2e))
           (try (have c20b2f := c20b2e; simp only [show min (t441 : Int).toNat t435.size = (t441 : Int).toNat from Nat.min_eq_left (by have q_ : t441 ≤ (t435.size : Int) := of_decide_eq_true q87_; omega)] at c20b2f))
           obtain rfl := Option.some.inj H
           go_enter Tryd.func16, Tryd.ntmps16
           try go_wp2_with (first | ((with_reducible refine gate_callee (f := 36) rfl ?_); refine goesL_ (some 8) rfl rfl Tryd.func36 (by kernel_rfl) rfl #[.slice A0 l0.length c0] rfl q55_ ?_; (with_reducible refine (spec_l1Open.calls _ _ l0 t422 t423 w _ ?side1 ?side2 ?side3 A2.out).mono ?_); (case side1 => exact q117_); (case side2 => exact HR0.out); (case side3 => exact HC0.out); rintro e w21 ⟨g424, rfl, hi, hb, hb2⟩; refine ⟨_, rfl, ?_⟩; have n0_ := Aside0.mk (hb); have n1_ := Aside0.mk (hi); clear HB; have HB := n0_; have HI424 := n1_; clear n0_ n1_; (try clear hb); (try clear hb2); (try clear hi)))
           have pi432 : (0 ≤ (t430 : Int)) = True := eq_true (of_decide_eq_true q87_)
           have qi432 : (t430 < (y427.length : Int)) = True := eq_true (of_decide_eq_true q87_)
           have n0_ := Aside0.mk (IsS73.drew HI424.out)
           have n1_ := Aside0.mk (below_drew1 HB.out)
           clear HI424
           clear HB
           have HI424 := n0_
           have HB := n1_
           clear n0_ n1_
           refine start_ (n := 15) (S := fun w' => True) (ds := []) #[false, false, false, false, false, false, false, false, false, false, false, false, false, false, false] (by kernel_rfl) rfl rfl trivial (fun hHeld => ?_); refine with_tabW spec_DrawHeaderOf.tab2 spec_DrawHeaderOf.bits2 (fun HT_ HW_ => ?_)
           generalize w21.drew = w22 at HI424 HB hHeld ⊢
           refine pure_ (i := 0) (N := some 10) (v := ?_) (a' := ?_) #[true, false, false, false, false, false, false, false, false, false, false, false, false, false, false] rfl rfl (any_of HT_.out (by kernel_rfl)) (fun _ _ _ h => h) (Or.inl ⟨by rfl, ?_⟩) ?_ ?_
           rotate_left
           ·intro w'
            go_simp
            with_reducible rfl
           rotate_left
           ·simp only [Act.put, List.setIfInBounds_toArray, List.set_cons_zero, List.set_cons_succ, i64_w, i32_w]
            rfl
           refine pure_ (i := 3) (N := some 13) (v := ?_) (a' := ?_) #[true, false, false, true, false, false, false, false, false, false, false, false, false, false, false] rfl rfl (any_of HT_.out (by kernel_rfl)) (fun _ _ _ h => h) (Or.inl ⟨by rfl, ?_⟩) ?_ ?_
           rotate_left
           ·intro w'
            go_simp
            with_reducible rfl
           rotate_left
           ·simp only [Act.put, List.setIfInBounds_toArray, List.set_cons_zero, List.set_cons_succ, i64_w, i32_w]
            rfl
           refine pure_ (i := 7) (N := some 17) (v := ?_) (a' := ?_) #[true, false, false, true, false, false, false, true, false, false, false, false, false, false, false] rfl rfl (any_of HT_.out (by kernel_rfl)) (fun _ _ _ h => h) (Or.inl ⟨by rfl, ?_⟩) ?_ ?_
           rotate_left
           ·intro w'
            go_simp
            with_reducible rfl
           rotate_left
           ·simp only [Act.put, List.setIfInBounds_toArray, List.set_cons_zero, List.set_cons_succ, i64_w, i32_w]
            rfl
           refine inv_at [1, 2, 4, 5, 6, 8, 9, 10, 11, 12, 13, 14] (fun a0_ b a w' => ∃ (v428 : Value) (adz_v428 : Addr) (m5_ : Value), a = putSel a0_ b [(1, 11, .string t425), (2, 12, v428), (4, 14, .int .i64 t430), (5, 15, m5_), (6, 16, .string (rdOf ByteArray.empty y427 t430)), (8, 18, .int .i64 t433), (9, 19, .tuple #[.string t435, .bool true]), (10, 9, .tuple #[.string t435, .bool true]), (11, 20, .string t435), (12, 21, .bool true), (13, 4, .string t435), (14, 5, .bool true)] ∧ (b 1 = false → IsS73 w w' g424 t422 t423) ∧ (Below w.heap.size w w') ∧ (b 1 = true → b 4 = false → IsS73 w w' g424 t422 t426) ∧ (b 2 = true → Kd.R Kd.string 9 w' w.heap.size (fun _ => True) v428 y427) ∧ (b 2 = true → ∃ c_, (v428 : Value) = .slice (some adz_v428) y427.length c_) ∧ (b 4 = true → b 8 = false → IsS73 w w' g424 t422 t431) ∧ (b 8 = true → IsS73 w w' g424 t422 t434) ∧ (b 5 = true → (m5_ : Value) = .pointer (some (adz_v428.add (t430).toNat)))) HT_.out HW_.out (by kernel_rfl) (by kernel_rfl) ?_ ?_ ?_
           ·exact ⟨.bool false, ⟨0, 0, none⟩, .bool false, q88_, fun _ => HI424.out, HB.out, fun h_ => absurd h_ (by decide), fun h_ => absurd h_ (by decide), fun h_ => absurd h_ (by decide), fun h_ => absurd h_ (by decide), fun h_ => absurd h_ (by decide), fun h_ => absurd h_ (by decide)⟩
           ·skip
            clear HB HI424
            refine steps_cons ?_ ?_
            ·rintro b a w' ⟨v428, adz_v428, m5_, ha, Q_HI424, Q_HB, Q_HI424_e1, Q_HO429, Q_HA_HO429, Q_HI424_e4, Q_HI424_e8, Q_X5_⟩ hb_ hon hoff
             refine ⟨_, rfl, fun K hK => ?_⟩
             have e10 : a.tmps[10]? = some (.pointer (some ⟨g424, 0, none⟩)) := by rw [ha]; exact (putSel_off rfl).trans rfl
             replace ha := Aside0.mk ha
             have HI424 := Aside0.mk (Q_HI424 hb_)
             have HB := Aside0.mk Q_HB
             refine goes_ Tryd.func45 (by kernel_rfl) rfl #[.pointer (some ⟨g424, 0, none⟩)] (by rfl) rfl rfl (by first | (simp only [List.map_toArray, List.map_cons, List.map_nil, Act.eval, Array.getD_eq_getD_getElem?, Option.getD_some, e10]; done) | (simp only [List.map_toArray, List.map_cons, List.map_nil, Act.eval, Array.getD_eq_getD_getElem?, Option.getD_some, e10]; rfl)) ?_
             with_reducible refine (spec_l1Rd_rom.calls k g424 t422 t423 t425 t426 w _ ?side1 ?side2 A3.out).mono ?_
             (case side1 => exact q115_)
             (case side2 => exact q113_)
             rintro e w23 ⟨rfl, hi, hb, hk⟩
             refine ⟨_, rfl, ?_⟩
             have n0_ := Aside0.mk (hb)
             have n1_ := Aside0.mk (hi)
             have z_HO429 := fun (h0_ : b 2 = true) => (show Kd.R Kd.string 9 w23 w.heap.size (fun _ => True) v428 y427 from by first | exact (Kd.R_mono (Kd.R_keep (IsS73.apart (show IsS73 w _ g424 t422 t423 from by repeat (first | (with_reducible first | exact HI424.out | apply IsS73.alloc | apply IsS73.drewN | apply IsS73.drew | apply IsS73.set_1) | exact HI424.out)) q76_ (by decide)) hk (fun _ h => h.2)) (fun _ h => h.1)) | exact Kd.R_mono (Kd.R_mono (Kd.R_keep (IsS73.apart (show IsS73 w _ g424 t422 t423 from by repeat (first | (with_reducible first | exact HI424.out | apply IsS73.alloc | apply IsS73.drewN | apply IsS73.drew | apply IsS73.set_1) | exact HI424.out)) q76_ (by decide)) hk (fun _ h => h.2)) (fun _ h => h.1)) (fun _ h_ => by first | trivial | exact h_ | exact h_.1))
             clear HB
             clear HI424
             have HB := n0_
             have HI424 := n1_
             clear n0_ n1_
             (try clear hb)
             (try clear hb2)
             (try clear hk)
             (try clear hi)
             refine hK.out _ _ ⟨v428, adz_v428, m5_, q90_, fun h0_ => absurd ((up_self b 1).symm.trans h0_) (by decide), q38_, fun _ _ => q51_, z_HO429, Q_HA_HO429, fun h0_ _ => absurd ((hoff 4 (by kernel_rfl)).symm.trans h0_) (by decide), fun h0_ => absurd ((hoff 8 (by kernel_rfl)).symm.trans h0_) (by decide), fun h0_ => absurd ((hoff 5 (by kernel_rfl)).symm.trans h0_) (by decide)⟩
            refine steps_cons ?_ ?_
            ·rintro b a w' ⟨v428, adz_v428, m5_, ha, Q_HI424, Q_HB, Q_HI424_e1, Q_HO429, Q_HA_HO429, Q_HI424_e4, Q_HI424_e8, Q_X5_⟩ hb_ hon hoff
             refine ⟨_, rfl, fun K hK => ?_⟩
             replace ha := Aside0.mk ha
             have HB := Aside0.mk Q_HB
             refine Kd.R_lit_step Kd.string _ 9 ?hg (N := 12) ?hd (xs := ([(⟨#[]⟩ : ByteArray), (⟨#[71, 65, 77, 69]⟩ : ByteArray)] : List ByteArray)) (inner := [.string (⟨#[]⟩ : ByteArray), .string (⟨#[71, 65, 77, 69]⟩ : ByteArray)]) (ok := fun _ => True) (okp := fun _ => True) ?hr ?hp (fun _ hk => hk) trivial (Below.refl _ _) (Nat.le_refl _) (by simp) ?_; (case hd => rfl); (case hg => rfl); (case hr => exact q118_); (case hp => exact q106_)
             intro v428 w23 ho24 hb hg_ hnew_
             clear hg_ hnew_
             (first | rw [← Ny427.out] at ho24 | (simp only [Int.reduceToNat] at ho24; rw [← Ny427.out] at ho24))
             have n0_ := Aside0.mk (Kd.R_lower ho24 (below_size q56_))
             have n2_ := Aside0.mk (below_step q56_ hb)
             have z_HI424 := fun (h0_ : b 1 = false) => (show IsS73 w w23 g424 t422 t423 from by first | exact (IsS73.below q49_ hb))
             have z_HI424_e1 := fun (h0_ : b 1 = true) (h1_ : b 4 = false) => (show IsS73 w w23 g424 t422 t426 from by first | exact (IsS73.below q36_ hb))
             have z_HI424_e4 := fun (h0_ : b 4 = true) (h1_ : b 8 = false) => (show IsS73 w w23 g424 t422 t431 from by first | exact (IsS73.below q37_ hb))
             have z_HI424_e8 := fun (h0_ : b 8 = true) => (show IsS73 w w23 g424 t422 t434 from by first | exact (IsS73.below q41_ hb))
             clear HB
             have HO429 := n0_
             have HB := n2_
             clear n0_ n2_
             clear hb ho24
             obtain ⟨Ao25, co25, eo25⟩ := Kd.R_slice HO429.out
             subst eo25
             obtain ⟨ado25, fo25, _⟩ := Kd.at_string (Kd.R_reads' HO429.out).2.2 0 (by decide) (by rw [Ny427.out]; simp)
             cases fo25
             refine hK.out _ _ ⟨.slice (some ado25) y427.length co25, ado25, m5_, q91_, z_HI424, q56_, z_HI424_e1, fun _ => q81_, fun _ => ⟨_, rfl⟩, z_HI424_e4, z_HI424_e8, fun h0_ => absurd ((hoff 5 (by kernel_rfl)).symm.trans h0_) (by decide)⟩
            refine steps_cons ?_ ?_
            ·rintro b a w' ⟨v428, adz_v428, m5_, ha, Q_HI424, Q_HB, Q_HI424_e1, Q_HO429, Q_HA_HO429, Q_HI424_e4, Q_HI424_e8, Q_X5_⟩ hb_ hon hoff
             refine ⟨_, rfl, fun K hK => ?_⟩
             have e13 : a.tmps[13]? = some (.pointer (some ⟨g424, 0, none⟩)) := by rw [ha]; exact (putSel_off rfl).trans rfl
             replace ha := Aside0.mk ha
             have HB := Aside0.mk Q_HB
             have HI424 := Aside0.mk (Q_HI424_e1 (hon 1 (by kernel_rfl)) hb_)
             refine goes_ Tryd.func40 (by kernel_rfl) rfl #[.pointer (some ⟨g424, 0, none⟩), .int .i64 2] (by rfl) rfl rfl (by first | (simp only [List.map_toArray, List.map_cons, List.map_nil, Act.eval, Array.getD_eq_getD_getElem?, Option.getD_some, e13]; done) | (simp only [List.map_toArray, List.map_cons, List.map_nil, Act.eval, Array.getD_eq_getD_getElem?, Option.getD_some, e13]; rfl)) ?_
             with_reducible refine (spec_l1Rd_below.calls g424 t422 t426 2 t430 t431 w _ ?side1 ?side2 A4.out).mono ?_
             (case side1 => exact q115_)
             (case side2 => exact q113_)
             rintro e w25 ⟨rfl, hi, hb, hk⟩
             refine ⟨_, rfl, ?_⟩
             have n0_ := Aside0.mk (hb)
             have n1_ := Aside0.mk (hi)
             have z_HO429 := fun (h0_ : b 2 = true) => (show Kd.R Kd.string 9 w25 w.heap.size (fun _ => True) v428 y427 from by first | exact (Kd.R_mono (Kd.R_keep (IsS73.apart (show IsS73 w _ g424 t422 t426 from by repeat (first | (with_reducible first | exact HI424.out | apply IsS73.alloc | apply IsS73.drewN | apply IsS73.drew | apply IsS73.set_1) | exact HI424.out)) q76_ (by decide)) hk (fun _ h => h.2)) (fun _ h => h.1)) | exact Kd.R_mono (Kd.R_mono (Kd.R_keep (IsS73.apart (show IsS73 w _ g424 t422 t426 from by repeat (first | (with_reducible first | exact HI424.out | apply IsS73.alloc | apply IsS73.drewN | apply IsS73.drew | apply IsS73.set_1) | exact HI424.out)) q76_ (by decide)) hk (fun _ h => h.2)) (fun _ h => h.1)) (fun _ h_ => by first | trivial | exact h_ | exact h_.1))
             clear HB
             clear HI424
             have HB := n0_
             have HI424 := n1_
             clear n0_ n1_
             (try clear hb)
             (try clear hb2)
             (try clear hk)
             (try clear hi)
             refine hK.out _ _ ⟨v428, adz_v428, m5_, q92_, fun h0_ => absurd ((hon 1 (by kernel_rfl)).symm.trans h0_) (by decide), q38_, fun _ h1_ => absurd ((up_self b 4).symm.trans h1_) (by decide), z_HO429, Q_HA_HO429, fun _ _ => q51_, fun h0_ => absurd ((hoff 8 (by kernel_rfl)).symm.trans h0_) (by decide), fun h0_ => absurd ((hoff 5 (by kernel_rfl)).symm.trans h0_) (by decide)⟩
            refine steps_cons ?_ ?_
            ·rintro b a w' ⟨v428, adz_v428, m5_, ha, Q_HI424, Q_HB, Q_HI424_e1, Q_HO429, Q_HA_HO429, Q_HI424_e4, Q_HI424_e8, Q_X5_⟩ hb_ hon hoff
             refine ⟨_, rfl, fun K hK => ?_⟩
             have e12 : a.tmps[12]? = some (v428) := by rw [ha]; exact putSel_on (e := (2, 12, v428)) 1 rfl rfl (hon 2 (by kernel_rfl)) rfl
             have e14 : a.tmps[14]? = some (.int .i64 t430) := by rw [ha]; exact putSel_on (e := (4, 14, .int .i64 t430)) 2 rfl rfl (hon 4 (by kernel_rfl)) rfl
             replace ha := Aside0.mk ha
             have HB := Aside0.mk Q_HB
             have HO429 := Aside0.mk (Q_HO429 (hon 2 (by kernel_rfl)))
             have HA_HO429 := Aside0.mk (Q_HA_HO429 (hon 2 (by kernel_rfl)))
             obtain ⟨c_, hv_⟩ := HA_HO429.out
             rw [hv_] at e12
             refine value_ (w1 := w') (v := .pointer (some (adz_v428.add (t430).toNat))) (by rfl) rfl ?_ ?_
             ·go_simp
              (try simp only [i64_w])
              try rfl
             refine hK.out _ _ ⟨v428, adz_v428, (.pointer (some (adz_v428.add (t430).toNat))), q93_, fun h0_ => absurd ((hon 1 (by kernel_rfl)).symm.trans h0_) (by decide), Q_HB, fun _ h1_ => absurd ((hon 4 (by kernel_rfl)).symm.trans h1_) (by decide), Q_HO429, Q_HA_HO429, Q_HI424_e4, Q_HI424_e8, fun _ => rfl⟩
            refine steps_cons ?_ ?_
            ·rintro b a w' ⟨v428, adz_v428, m5_, ha, Q_HI424, Q_HB, Q_HI424_e1, Q_HO429, Q_HA_HO429, Q_HI424_e4, Q_HI424_e8, Q_X5_⟩ hb_ hon hoff
             refine ⟨_, rfl, fun K hK => ?_⟩
             have e15 : a.tmps[15]? = some (m5_) := by rw [ha]; exact putSel_on (e := (5, 15, m5_)) 3 rfl rfl (hon 5 (by kernel_rfl)) rfl
             rw [Q_X5_ (hon 5 (by kernel_rfl))] at e15
             replace ha := Aside0.mk ha
             have HB := Aside0.mk Q_HB
             have HO429 := Aside0.mk (Q_HO429 (hon 2 (by kernel_rfl)))
             have HA_HO429 := Aside0.mk (Q_HA_HO429 (hon 2 (by kernel_rfl)))
             obtain ⟨c_, hv_⟩ := HA_HO429.out
             have hF_ := HO429.out
             rw [hv_] at hF_
             obtain ⟨ad_, ea_, hx_⟩ := Kd.at_string (Kd.R_reads' hF_).2.2 t430 (of_eq_true pi432) (of_eq_true qi432)
             cases ea_
             refine value_ (w1 := w') (v := .string (rdOf ByteArray.empty y427 t430)) (by rfl) rfl ?_ ?_
             ·go_simp
              (try simp only [i64_w])
              try rfl
             refine hK.out _ _ ⟨v428, adz_v428, m5_, q94_, fun h0_ => absurd ((hon 1 (by kernel_rfl)).symm.trans h0_) (by decide), Q_HB, fun _ h1_ => absurd ((hon 4 (by kernel_rfl)).symm.trans h1_) (by decide), Q_HO429, Q_HA_HO429, Q_HI424_e4, Q_HI424_e8, Q_X5_⟩
            refine steps_cons ?_ ?_
            ·rintro b a w' ⟨v428, adz_v428, m5_, ha, Q_HI424, Q_HB, Q_HI424_e1, Q_HO429, Q_HA_HO429, Q_HI424_e4, Q_HI424_e8, Q_X5_⟩ hb_ hon hoff
             refine ⟨_, rfl, fun K hK => ?_⟩
             have e17 : a.tmps[17]? = some (.pointer (some ⟨g424, 0, none⟩)) := by rw [ha]; exact (putSel_off rfl).trans rfl
             replace ha := Aside0.mk ha
             have HB := Aside0.mk Q_HB
             have HI424 := Aside0.mk (Q_HI424_e4 (hon 4 (by kernel_rfl)) hb_)
             refine goes_ Tryd.func40 (by kernel_rfl) rfl #[.pointer (some ⟨g424, 0, none⟩), .int .i64 3] (by rfl) rfl rfl (by first | (simp only [List.map_toArray, List.map_cons, List.map_nil, Act.eval, Array.getD_eq_getD_getElem?, Option.getD_some, e17]; done) | (simp only [List.map_toArray, List.map_cons, List.map_nil, Act.eval, Array.getD_eq_getD_getElem?, Option.getD_some, e17]; rfl)) ?_
             with_reducible refine (spec_l1Rd_below.calls g424 t422 t431 3 t433 t434 w _ ?side1 ?side2 A7.out).mono ?_
             (case side1 => exact q115_)
             (case side2 => exact q113_)
             rintro e w26 ⟨rfl, hi, hb, hk⟩
             refine ⟨_, rfl, ?_⟩
             have n0_ := Aside0.mk (hb)
             have n1_ := Aside0.mk (hi)
             have z_HO429 := fun (h0_ : b 2 = true) => (show Kd.R Kd.string 9 w26 w.heap.size (fun _ => True) v428 y427 from by first | exact (Kd.R_mono (Kd.R_keep (IsS73.apart (show IsS73 w _ g424 t422 t431 from by repeat (first | (with_reducible first | exact HI424.out | apply IsS73.alloc | apply IsS73.drewN | apply IsS73.drew | apply IsS73.set_1) | exact HI424.out)) q76_ (by decide)) hk (fun _ h => h.2)) (fun _ h => h.1)) | exact Kd.R_mono (Kd.R_mono (Kd.R_keep (IsS73.apart (show IsS73 w _ g424 t422 t431 from by repeat (first | (with_reducible first | exact HI424.out | apply IsS73.alloc | apply IsS73.drewN | apply IsS73.drew | apply IsS73.set_1) | exact HI424.out)) q76_ (by decide)) hk (fun _ h => h.2)) (fun _ h => h.1)) (fun _ h_ => by first | trivial | exact h_ | exact h_.1))
             clear HB
             clear HI424
             have HB := n0_
             have HI424 := n1_
             clear n0_ n1_
             (try clear hb)
             (try clear hb2)
             (try clear hk)
             (try clear hi)
             refine hK.out _ _ ⟨v428, adz_v428, m5_, q95_, fun h0_ => absurd ((hon 1 (by kernel_rfl)).symm.trans h0_) (by decide), q38_, fun _ h1_ => absurd ((hon 4 (by kernel_rfl)).symm.trans h1_) (by decide), z_HO429, Q_HA_HO429, fun _ h1_ => absurd ((up_self b 8).symm.trans h1_) (by decide), fun _ => q51_, Q_X5_⟩
            refine steps_cons ?_ ?_
            ·rintro b a w' ⟨v428, adz_v428, m5_, ha, Q_HI424, Q_HB, Q_HI424_e1, Q_HO429, Q_HA_HO429, Q_HI424_e4, Q_HI424_e8, Q_X5_⟩ hb_ hon hoff
             refine ⟨_, rfl, fun K hK => ?_⟩
             have e11 : a.tmps[11]? = some (.string t425) := by rw [ha]; exact putSel_on (e := (1, 11, .string t425)) 0 rfl rfl (hon 1 (by kernel_rfl)) rfl
             have e16 : a.tmps[16]? = some (.string (rdOf ByteArray.empty y427 t430)) := by rw [ha]; exact putSel_on (e := (6, 16, .string (rdOf ByteArray.empty y427 t430))) 4 rfl rfl (hon 6 (by kernel_rfl)) rfl
             have e18 : a.tmps[18]? = some (.int .i64 t433) := by rw [ha]; exact putSel_on (e := (8, 18, .int .i64 t433)) 5 rfl rfl (hon 8 (by kernel_rfl)) rfl
             replace ha := Aside0.mk ha
             have HB := Aside0.mk Q_HB
             have HO429 := Aside0.mk (Q_HO429 (hon 2 (by kernel_rfl)))
             have HA_HO429 := Aside0.mk (Q_HA_HO429 (hon 2 (by kernel_rfl)))
             have HI424 := Aside0.mk (Q_HI424_e8 (hon 8 (by kernel_rfl)))
             obtain ⟨co30, eo30⟩ := HA_HO429.out
             clear HA_HO429
             subst eo30
             refine goes_ Tryd.func28 (by kernel_rfl) rfl #[.string t425, .string (rdOf ByteArray.empty y427 t430), .int .i64 t433] (by rfl) rfl rfl (by first | (simp only [List.map_toArray, List.map_cons, List.map_nil, Act.eval, Array.getD_eq_getD_getElem?, Option.getD_some, e11, e16, e18]; done) | (simp only [List.map_toArray, List.map_cons, List.map_nil, Act.eval, Array.getD_eq_getD_getElem?, Option.getD_some, e11, e16, e18]; rfl)) ?_
             with_reducible refine (spec_Fixed.calls k t425 (rdOf ByteArray.empty y427 t430) t433 t435 true _ A8.out).mono ?_
             rintro e w31 ⟨rfl, hb⟩
             refine ⟨_, rfl, ?_⟩
             have n0_ := Aside0.mk (Kd.R_below q81_ hb)
             have n1_ := Aside0.mk (IsS73.below q51_ hb)
             have n2_ := Aside0.mk (below_step q38_ hb)
             clear HO429
             clear HI424
             clear HB
             have HO429 := n0_
             have HI424 := n1_
             have HB := n2_
             clear n0_ n1_ n2_
             (try clear hb)
             (try clear hb2)
             (try clear hk)
             (try clear hi)
             refine hK.out _ _ ⟨.slice (some adz_v428) y427.length co30, adz_v428, m5_, q96_, fun h0_ => absurd ((hon 1 (by kernel_rfl)).symm.trans h0_) (by decide), q38_, fun _ h1_ => absurd ((hon 4 (by kernel_rfl)).symm.trans h1_) (by decide), fun _ => q81_, fun _ => ⟨_, rfl⟩, fun _ h1_ => absurd ((hon 8 (by kernel_rfl)).symm.trans h1_) (by decide), fun _ => q51_, Q_X5_⟩
            refine steps_cons ?_ ?_
            ·rintro b a w' ⟨v428, adz_v428, m5_, ha, Q_HI424, Q_HB, Q_HI424_e1, Q_HO429, Q_HA_HO429, Q_HI424_e4, Q_HI424_e8, Q_X5_⟩ hb_ hon hoff
             refine ⟨_, rfl, fun K hK => ?_⟩
             have e19 : a.tmps[19]? = some (.tuple #[.string t435, .bool true]) := by rw [ha]; exact putSel_on (e := (9, 19, .tuple #[.string t435, .bool true])) 6 rfl rfl (hon 9 (by kernel_rfl)) rfl
             replace ha := Aside0.mk ha
             have HB := Aside0.mk Q_HB
             have HO429 := Aside0.mk (Q_HO429 (hon 2 (by kernel_rfl)))
             have HA_HO429 := Aside0.mk (Q_HA_HO429 (hon 2 (by kernel_rfl)))
             have HI424 := Aside0.mk (Q_HI424_e8 (hon 8 (by kernel_rfl)))
             refine value_ (w1 := w') (v := .tuple #[.string t435, .bool true]) (by rfl) rfl ?_ ?_
             ·go_simp
              (try simp only [i64_w])
              try rfl
             refine hK.out _ _ ⟨v428, adz_v428, m5_, q97_, fun h0_ => absurd ((hon 1 (by kernel_rfl)).symm.trans h0_) (by decide), Q_HB, fun _ h1_ => absurd ((hon 4 (by kernel_rfl)).symm.trans h1_) (by decide), Q_HO429, Q_HA_HO429, fun _ h1_ => absurd ((hon 8 (by kernel_rfl)).symm.trans h1_) (by decide), Q_HI424_e8, Q_X5_⟩
            refine steps_cons ?_ ?_
            ·rintro b a w' ⟨v428, adz_v428, m5_, ha, Q_HI424, Q_HB, Q_HI424_e1, Q_HO429, Q_HA_HO429, Q_HI424_e4, Q_HI424_e8, Q_X5_⟩ hb_ hon hoff
             refine ⟨_, rfl, fun K hK => ?_⟩
             have e9 : a.tmps[9]? = some (.tuple #[.string t435, .bool true]) := by rw [ha]; exact putSel_on (e := (10, 9, .tuple #[.string t435, .bool true])) 7 rfl rfl (hon 10 (by kernel_rfl)) rfl
             replace ha := Aside0.mk ha
             have HB := Aside0.mk Q_HB
             have HO429 := Aside0.mk (Q_HO429 (hon 2 (by kernel_rfl)))
             have HA_HO429 := Aside0.mk (Q_HA_HO429 (hon 2 (by kernel_rfl)))
             have HI424 := Aside0.mk (Q_HI424_e8 (hon 8 (by kernel_rfl)))
             refine value_ (w1 := w') (v := .string t435) (by rfl) rfl ?_ ?_
             ·go_simp
              (try simp only [i64_w])
              try rfl
             refine hK.out _ _ ⟨v428, adz_v428, m5_, q98_, fun h0_ => absurd ((hon 1 (by kernel_rfl)).symm.trans h0_) (by decide), Q_HB, fun _ h1_ => absurd ((hon 4 (by kernel_rfl)).symm.trans h1_) (by decide), Q_HO429, Q_HA_HO429, fun _ h1_ => absurd ((hon 8 (by kernel_rfl)).symm.trans h1_) (by decide), Q_HI424_e8, Q_X5_⟩
            refine steps_cons ?_ ?_
            ·rintro b a w' ⟨v428, adz_v428, m5_, ha, Q_HI424, Q_HB, Q_HI424_e1, Q_HO429, Q_HA_HO429, Q_HI424_e4, Q_HI424_e8, Q_X5_⟩ hb_ hon hoff
             refine ⟨_, rfl, fun K hK => ?_⟩
             have e9 : a.tmps[9]? = some (.tuple #[.string t435, .bool true]) := by rw [ha]; exact putSel_on (e := (10, 9, .tuple #[.string t435, .bool true])) 7 rfl rfl (hon 10 (by kernel_rfl)) rfl
             replace ha := Aside0.mk ha
             have HB := Aside0.mk Q_HB
             have HO429 := Aside0.mk (Q_HO429 (hon 2 (by kernel_rfl)))
             have HA_HO429 := Aside0.mk (Q_HA_HO429 (hon 2 (by kernel_rfl)))
             have HI424 := Aside0.mk (Q_HI424_e8 (hon 8 (by kernel_rfl)))
             refine value_ (w1 := w') (v := .bool true) (by rfl) rfl ?_ ?_
             ·go_simp
              (try simp only [i64_w])
              try rfl
             refine hK.out _ _ ⟨v428, adz_v428, m5_, q99_, fun h0_ => absurd ((hon 1 (by kernel_rfl)).symm.trans h0_) (by decide), Q_HB, fun _ h1_ => absurd ((hon 4 (by kernel_rfl)).symm.trans h1_) (by decide), Q_HO429, Q_HA_HO429, fun _ h1_ => absurd ((hon 8 (by kernel_rfl)).symm.trans h1_) (by decide), Q_HI424_e8, Q_X5_⟩
            refine steps_cons ?_ ?_
            ·rintro b a w' ⟨v428, adz_v428, m5_, ha, Q_HI424, Q_HB, Q_HI424_e1, Q_HO429, Q_HA_HO429, Q_HI424_e4, Q_HI424_e8, Q_X5_⟩ hb_ hon hoff
             refine ⟨_, rfl, fun K hK => ?_⟩
             have e20 : a.tmps[20]? = some (.string t435) := by rw [ha]; exact putSel_on (e := (11, 20, .string t435)) 8 rfl rfl (hon 11 (by kernel_rfl)) rfl
             replace ha := Aside0.mk ha
             have HB := Aside0.mk Q_HB
             have HO429 := Aside0.mk (Q_HO429 (hon 2 (by kernel_rfl)))
             have HA_HO429 := Aside0.mk (Q_HA_HO429 (hon 2 (by kernel_rfl)))
             have HI424 := Aside0.mk (Q_HI424_e8 (hon 8 (by kernel_rfl)))
             refine value_ (w1 := w') (v := .string t435) (by rfl) rfl ?_ ?_
             ·go_simp
              (try simp only [i64_w])
              try rfl
             refine hK.out _ _ ⟨v428, adz_v428, m5_, q89_, fun h0_ => absurd ((hon 1 (by kernel_rfl)).symm.trans h0_) (by decide), Q_HB, fun _ h1_ => absurd ((hon 4 (by kernel_rfl)).symm.trans h1_) (by decide), Q_HO429, Q_HA_HO429, fun _ h1_ => absurd ((hon 8 (by kernel_rfl)).symm.trans h1_) (by decide), Q_HI424_e8, Q_X5_⟩
            refine steps_cons ?_ ?_
            ·rintro b a w' ⟨v428, adz_v428, m5_, ha, Q_HI424, Q_HB, Q_HI424_e1, Q_HO429, Q_HA_HO429, Q_HI424_e4, Q_HI424_e8, Q_X5_⟩ hb_ hon hoff
             refine ⟨_, rfl, fun K hK => ?_⟩
             have e21 : a.tmps[21]? = some (.bool true) := by rw [ha]; exact putSel_on (e := (12, 21, .bool true)) 9 rfl rfl (hon 12 (by kernel_rfl)) rfl
             replace ha := Aside0.mk ha
             have HB := Aside0.mk Q_HB
             have HO429 := Aside0.mk (Q_HO429 (hon 2 (by kernel_rfl)))
             have HA_HO429 := Aside0.mk (Q_HA_HO429 (hon 2 (by kernel_rfl)))
             have HI424 := Aside0.mk (Q_HI424_e8 (hon 8 (by kernel_rfl)))
             refine value_ (w1 := w') (v := .bool true) (by rfl) rfl ?_ ?_
             ·go_simp
              (try simp only [i64_w])
              try rfl
             refine hK.out _ _ ⟨v428, adz_v428, m5_, (by rw [ha.out]; exact putSel_upk 11 hb_ rfl rfl rfl), fun h0_ => absurd ((hon 1 (by kernel_rfl)).symm.trans h0_) (by decide), Q_HB, fun _ h1_ => absurd ((hon 4 (by kernel_rfl)).symm.trans h1_) (by decide), Q_HO429, Q_HA_HO429, fun _ h1_ => absurd ((hon 8 (by kernel_rfl)).symm.trans h1_) (by decide), Q_HI424_e8, Q_X5_⟩
            exact steps_nil
           rintro b a w30 hall ⟨v428, adz_v428, m5_, ha, Q_HI424, Q_HB, Q_HI424_e1, Q_HO429, Q_HA_HO429, Q_HI424_e4, Q_HI424_e8, Q_X5_⟩
           clear HB HI424
           have hb1_ := hall 1 (by kernel_rfl)
           have hb2_ := hall 2 (by kernel_rfl)
           have hb4_ := hall 4 (by kernel_rfl)
           have hb5_ := hall 5 (by kernel_rfl)
           have hb6_ := hall 6 (by kernel_rfl)
           have hb8_ := hall 8 (by kernel_rfl)
           have hb9_ := hall 9 (by kernel_rfl)
           have hb10_ := hall 10 (by kernel_rfl)
           have hb11_ := hall 11 (by kernel_rfl)
           have hb12_ := hall 12 (by kernel_rfl)
           have hb13_ := hall 13 (by kernel_rfl)
           have hb14_ := hall 14 (by kernel_rfl)
           subst ha
           obtain rfl := Q_X5_ hb5_
           simp only [putSel, hb1_, hb2_, hb4_, hb5_, hb6_, hb8_, hb9_, hb10_, hb11_, hb12_, hb13_, hb14_, if_true, Act.put, List.setIfInBounds_toArray, List.set_cons_zero, List.set_cons_succ]
           clear Q_HI424
           have HB := Aside0.mk Q_HB
           clear Q_HB
           clear Q_HI424_e1
           have HO429 := Aside0.mk (Q_HO429 hb2_)
           clear Q_HO429
           have HA_HO429 := Aside0.mk (Q_HA_HO429 hb2_)
           clear Q_HA_HO429
           clear Q_HI424_e4
           have HI424 := Aside0.mk (Q_HI424_e8 hb8_)
           clear Q_HI424_e8
           clear hall hb1_ hb2_ hb4_ hb5_ hb6_ hb8_ hb9_ hb10_ hb11_ hb12_ hb13_ hb14_
           obtain ⟨co31, eo31⟩ := HA_HO429.out
           clear HA_HO429
           subst eo31
           try go_wp2_with (first | ((with_reducible refine gate_callee (f := 37) rfl ?_); refine goesL_ (some 27) rfl rfl Tryd.func37 (by kernel_rfl) rfl #[.pointer (some ⟨g424, 0, none⟩), .int .i64 4] rfl q55_ ?_; (with_reducible refine (spec_l1Rd_once.calls g424 t422 t434 4 true t440 w _ ?side1 ?side2 A10.out).mono ?_); (case side1 => exact q115_); (case side2 => exact q113_); rintro e w32 ⟨rfl, hi, hb, hk⟩; refine ⟨_, rfl, ?_⟩; have n0_ := Aside0.mk (Kd.R_mono (Kd.R_keep (IsS73.apart (show IsS73 w _ g424 t422 t434 from by repeat (first | (with_reducible first | exact HI424.out | apply IsS73.alloc | apply IsS73.drewN | apply IsS73.drew | apply IsS73.set_1) | exact HI424.out)) q81_ (by decide)) hk (fun _ h => h.2)) (fun _ h => h.1)); have n1_ := Aside0.mk (hb); have n2_ := Aside0.mk (hi); clear HO429; clear HB; clear HI424; have HO429 := n0_; have HB := n1_; have HI424 := n2_; clear n0_ n1_ n2_; (try clear hb); (try clear hk); (try clear hi)) | ((with_reducible refine gate_callee (f := 40) rfl ?_); refine goesL_ (some 29) rfl rfl Tryd.func40 (by kernel_rfl) rfl #[.pointer (some ⟨g424, 0, none⟩), .int .i64 90] rfl q55_ ?_; (with_reducible refine (spec_l1Rd_below.calls g424 t422 t440 90 t441 t442 w _ ?side1 ?side2 A12.out).mono ?_); (case side1 => exact q115_); (case side2 => exact q113_); rintro e w33 ⟨rfl, hi, hb, hk⟩; refine ⟨_, rfl, ?_⟩; have n0_ := Aside0.mk (Kd.R_mono (Kd.R_keep (IsS73.apart (show IsS73 w _ g424 t422 t440 from by repeat (first | (with_reducible first | exact HI424.out | apply IsS73.alloc | apply IsS73.drewN | apply IsS73.drew | apply IsS73.set_1) | exact HI424.out)) q81_ (by decide)) hk (fun _ h => h.2)) (fun _ h => h.1)); have n1_ := Aside0.mk (hb); have n2_ := Aside0.mk (hi); clear HO429; clear HB; clear HI424; have HO429 := n0_; have HB := n1_; have HI424 := n2_; clear n0_ n1_ n2_; (try clear hb); (try clear hk); (try clear hi)))
           have n0_ := Aside0.mk (Kd.R_drew HO429.out)
           have n1_ := Aside0.mk (IsS73.drew HI424.out)
           have n2_ := Aside0.mk (below_drew1 HB.out)
           clear HO429
           clear HI424
           clear HB
           have HO429 := n0_
           have HI424 := n1_
           have HB := n2_
           clear n0_ n1_ n2_
           refine start_ (n := 15) (S := fun w' => True) (ds := []) #[false, false, false, false, false, false, false, false, false, false, false, false, false, false, false] (by kernel_rfl) rfl rfl trivial (fun hHeld => ?_); refine with_tabW spec_DrawHeaderOf.tab7 spec_DrawHeaderOf.bits7 (fun HT_ HW_ => ?_)
           generalize w33.drew = w34 at HO429 HI424 HB hHeld ⊢
           refine pure_ (i := 0) (N := some 30) (v := ?_) (a' := ?_) #[true, false, false, false, false, false, false, false, false, false, false, false, false, false, false] rfl rfl (any_of HT_.out (by kernel_rfl)) (fun _ _ _ h => h) (Or.inl ⟨by rfl, ?_⟩) ?_ ?_
           rotate_left
           ·intro w'
            go_simp
            with_reducible rfl
           rotate_left
           ·simp only [Act.put, List.setIfInBounds_toArray, List.set_cons_zero, List.set_cons_succ, i64_w, i32_w]
            rfl
           refine pure_ (i := 1) (N := some 31) (v := ?_) (a' := ?_) #[true, true, false, false, false, false, false, false, false, false, false, false, false, false, false] rfl rfl (any_of HT_.out (by kernel_rfl)) (fun _ _ _ h => h) (Or.inl ⟨by rfl, ?_⟩) ?_ ?_
           rotate_left
           ·intro w'
            go_simp
            with_reducible rfl
           rotate_left
           ·simp only [Act.put, List.setIfInBounds_toArray, List.set_cons_zero, List.set_cons_succ, i64_w, i32_w]
            rfl
           refine pure_ (i := 2) (N := some 32) (v := ?_) (a' := ?_) #[true, true, true, false, false, false, false, false, false, false, false, false, false, false, false] rfl rfl (any_of HT_.out (by kernel_rfl)) (fun _ _ _ h => h) (Or.inl ⟨by rfl, ?_⟩) ?_ ?_
           rotate_left
           ·intro w'
            go_simp
            with_reducible rfl
           rotate_left
           ·simp only [Act.put, List.setIfInBounds_toArray, List.set_cons_zero, List.set_cons_succ, i64_w, i32_w]
            rfl
           refine pure_ (i := 3) (N := some 33) (v := ?_) (a' := ?_) #[true, true, true, true, false, false, false, false, false, false, false, false, false, false, false] rfl rfl (any_of HT_.out (by kernel_rfl)) (fun _ _ _ h => h) (Or.inl ⟨by rfl, ?_⟩) ?_ ?_
           rotate_left
           ·intro w'
            go_simp
            with_reducible rfl
           rotate_left
           ·simp only [Act.put, List.setIfInBounds_toArray, List.set_cons_zero, List.set_cons_succ, i64_w, i32_w]
            rfl
           refine pure_ (i := 9) (N := some 39) (v := ?_) (a' := ?_) #[true, true, true, true, false, false, false, false, false, true, false, false, false, false, false] rfl rfl (any_of HT_.out (by kernel_rfl)) (fun _ _ _ h => h) (Or.inl ⟨by rfl, ?_⟩) ?_ ?_
           rotate_left
           ·intro w'
            go_simp
            with_reducible rfl
           rotate_left
           ·simp only [Act.put, List.setIfInBounds_toArray, List.set_cons_zero, List.set_cons_succ, i64_w, i32_w]
            rfl
           refine pure_ (i := 10) (N := some 40) (v := ?_) (a' := ?_) #[true, true, true, true, false, false, false, false, false, true, true, false, false, false, false] rfl rfl (any_of HT_.out (by kernel_rfl)) (fun _ _ _ h => h) (Or.inl ⟨by rfl, ?_⟩) ?_ ?_
           rotate_left
           ·intro w'
            go_simp
            with_reducible rfl
           rotate_left
           ·simp only [Act.put, List.setIfInBounds_toArray, List.set_cons_zero, List.set_cons_succ, i64_w, i32_w]
            rfl
           refine pure_ (i := 11) (N := some 41) (v := ?_) (a' := ?_) #[true, true, true, true, false, false, false, false, false, true, true, true, false, false, false] rfl rfl (any_of HT_.out (by kernel_rfl)) (fun _ _ _ h => h) (Or.inl ⟨by rfl, ?_⟩) ?_ ?_
           rotate_left
           ·intro w'
            go_simp
            with_reducible rfl
           rotate_left
           ·simp only [Act.put, List.setIfInBounds_toArray, List.set_cons_zero, List.set_cons_succ, i64_w, i32_w]
            rfl
           refine pure_ (i := 12) (N := some 42) (v := ?_) (a' := ?_) #[true, true, true, true, false, false, false, false, false, true, true, true, true, false, false] rfl rfl (any_of HT_.out (by kernel_rfl)) (fun _ _ _ h => h) (Or.inl ⟨by rfl, ?_⟩) ?_ ?_
           rotate_left
           ·intro w'
            go_simp
            with_reducible rfl
           rotate_left
           ·simp only [Act.put, List.setIfInBounds_toArray, List.set_cons_zero, List.set_cons_succ, i64_w, i32_w]
            rfl
           refine one_ (i := 4) (N := some 34) #[true, true, true, true, true, false, false, false, false, true, true, true, true, false, false] rfl rfl (one_of HT_.out (by kernel_rfl)) (by decide) (fun K hK => ?_)
           refine goes_ Tryd.func40 (by kernel_rfl) rfl #[.pointer (some ⟨g424, 0, none⟩), .int .i64 256] (by rfl) rfl rfl q55_ ?_
           with_reducible refine (spec_l1Rd_below.calls g424 t422 t442 256 t443 t444 w _ ?side1 ?side2 A15.out).mono ?_
           (case side1 => exact q115_)
           (case side2 => exact q113_)
           rintro e w35 ⟨rfl, hi, hb, hk⟩
           refine ⟨_, rfl, ?_⟩
           have n0_ := Aside0.mk (Kd.R_mono (Kd.R_keep (IsS73.apart (show IsS73 w _ g424 t422 t442 from by repeat (first | (with_reducible first | exact HI424.out | apply IsS73.alloc | apply IsS73.drewN | apply IsS73.drew | apply IsS73.set_1) | exact HI424.out)) q81_ (by decide)) hk (fun _ h => h.2)) (fun _ h => h.1))
           have n1_ := Aside0.mk (hb)
           have n2_ := Aside0.mk (hi)
           clear HO429
           clear HB
           clear HI424
           have HO429 := n0_
           have HB := n1_
           have HI424 := n2_
           clear n0_ n1_ n2_
           (try clear hb)
           (try clear hb2)
           (try clear hk)
           (try clear hi)
           refine hK.out _ _ trivial (fun hHeld => ?_)
           clear hK K
           refine norm_ (a' := ?_) ?_ ?_
           rotate_left
           ·show Act.put _ (some 34) _ = _
            simp only [Act.put, List.setIfInBounds_toArray, List.set_cons_zero, List.set_cons_succ, i64_w, i32_w]
            rfl
           refine pure_ (i := 5) (N := some 35) (v := ?_) (a' := ?_) #[true, true, true, true, true, true, false, false, false, true, true, true, true, false, false] rfl rfl (any_of HT_.out (by kernel_rfl)) (fun _ _ _ h => h) (Or.inl ⟨by rfl, ?_⟩) ?_ ?_
           rotate_left
           ·intro w'
            go_simp
            with_reducible rfl
           rotate_left
           ·simp only [Act.put, List.setIfInBounds_toArray, List.set_cons_zero, List.set_cons_succ, i64_w, i32_w]
            rfl
           refine one_ (i := 6) (N := some 36) #[true, true, true, true, true, true, true, false, false, true, true, true, true, false, false] rfl rfl (one_of HT_.out (by kernel_rfl)) (by decide) (fun K hK => ?_)
           refine Kd.R_lit_step (Kd.int .u8) _ 5 ?hg (N := 36) ?hd (xs := ([(t443) % 256] : List Int)) (inner := [.int .u8 ((t443) % 256)]) (ok := fun _ => True) (okp := fun _ => True) ?hr ?hp (fun _ hk => hk) trivial (Below.refl _ _) (Nat.le_refl _) (by simp) ?_; (case hd => rfl); (case hg => rfl); (case hr => exact q118_); (case hp => exact (Reps.one (show Kd.M (Kd.int .u8) _ _ _ ((t443) % 256) [.int .u8 ((t443) % 256)] from rfl) (Reps.none _ _)))
           intro v446 w36 ho37 hb hg_ hnew_
           clear hg_ hnew_
           (first | rw [← Ny445.out] at ho37 | (simp only [Int.reduceToNat] at ho37; rw [← Ny445.out] at ho37))
           have n0_ := Aside0.mk (Kd.R_below q81_ hb)
           have n1_ := Aside0.mk (Kd.R_lower ho37 (below_size q38_))
           have n2_ := Aside0.mk (IsS73.below q51_ hb)
           have n3_ := Aside0.mk (below_step q38_ hb)
           clear HO429
           clear HI424
           clear HB
           have HO429 := n0_
           have HO447 := n1_
           have HI424 := n2_
           have HB := n3_
           clear n0_ n1_ n2_ n3_
           clear hb ho37
           refine hK.out _ _ trivial (fun hHeld => ?_)
           clear hK K
           refine norm_ (a' := ?_) ?_ ?_
           rotate_left
           ·show Act.put _ (some 36) _ = _
            simp only [Act.put, List.setIfInBounds_toArray, List.set_cons_zero, List.set_cons_succ, i64_w, i32_w]
            rfl
           refine one_ (i := 7) (N := some 37) #[true, true, true, true, true, true, true, true, false, true, true, true, true, false, false] rfl rfl (one_of HT_.out (by kernel_rfl)) (by decide) (fun K hK => ?_)
           have hcv38 := own_string (P := Tryd.prog) Tryd.underlying28 Tryd.underlying5 Tryd.underlying9 (Kd.own_of_R HO447.out)
           refine value_ (w1 := ?_) (v := ?_) (by rfl) rfl ?_ ?_
           rotate_left 2
           ·go_simp
            constructor
            ·rfl
            ·rfl
           clear hcv38
           refine hK.out _ _ trivial (fun hHeld => ?_)
           clear hK K
           refine norm_ (a' := ?_) ?_ ?_
           rotate_left
           ·show Act.put _ (some 37) _ = _
            simp only [Act.put, List.setIfInBounds_toArray, List.set_cons_zero, List.set_cons_succ, i64_w, i32_w]
            rfl
           refine pure_ (i := 8) (N := some 38) (v := ?_) (a' := ?_) #[true, true, true, true, true, true, true, true, true, true, true, true, true, false, false] rfl rfl (any_of HT_.out (by kernel_rfl)) (fun _ _ _ h => h) (Or.inl ⟨by rfl, ?_⟩) ?_ ?_
           rotate_left
           ·intro w'
            go_simp
            with_reducible rfl
           rotate_left
           ·simp only [Act.put, List.setIfInBounds_toArray, List.set_cons_zero, List.set_cons_succ, i64_w, i32_w]
            rfl
           refine pure_ (i := 13) (N := some 43) (v := ?_) (a' := ?_) #[true, true, true, true, true, true, true, true, true, true, true, true, true, true, false] rfl rfl (any_of HT_.out (by kernel_rfl)) (fun _ _ _ h => h) (Or.inl ⟨by rfl, ?_⟩) ?_ ?_
           rotate_left
           ·intro w'
            go_simp
            with_reducible rfl
           rotate_left
           ·simp only [Act.put, List.setIfInBounds_toArray, List.set_cons_zero, List.set_cons_succ, i64_w, i32_w]
            rfl
           refine pure_ (i := 14) (N := some 2) (v := ?_) (a' := ?_) #[true, true, true, true, true, true, true, true, true, true, true, true, true, true, true] rfl rfl (any_of HT_.out (by kernel_rfl)) (fun _ _ _ h => h) (Or.inl ⟨by rfl, ?_⟩) ?_ ?_
           rotate_left
           ·intro w'
            go_simp
            with_reducible rfl
           rotate_left
           ·simp only [Act.put, List.setIfInBounds_toArray, List.set_cons_zero, List.set_cons_succ, i64_w, i32_w]
            rfl
           refine done_ (done_of HT_.out (by kernel_rfl)) ?_
           try go_wp2
           go_ret
           exact ⟨by first | rfl | (simp [errW_none, errW_some] <;> rfl) | (simp only [← hji17]; first | rfl | (simp [errW_none, errW_some] <;> rfl)) | (simp [*, errW_none, errW_some] <;> rfl) | (exfalso; simp_all; done), q38_⟩
          ·rw [if_neg c20] at H
           exact absurd H (by simp)
         ·rw [if_neg c19] at H
          exact absurd H (by simp)
        ·rw [if_neg c18] at H
         exact absurd H (by simp)
       ·rw [if_neg c16] at H
        exact absurd H (by simp)
      ·rw [if_neg c14] at H
       exact absurd H (by simp)
     ·rw [if_neg c13] at H
      exact absurd H (by simp)
    ·replace c11 := Bool.eq_false_iff.mpr c11
     subst c11
     replace H : (some t435) = some r := by rw [if_neg (show ¬ (false = true) by decide)] at H; exact H
     obtain rfl := Option.some.inj H
     go_enter Tryd.func16, Tryd.ntmps16
     try go_wp2_with (first | ((with_reducible refine gate_callee (f := 36) rfl ?_); refine goesL_ (some 8) rfl rfl Tryd.func36 (by kernel_rfl) rfl #[.slice A0 l0.length c0] rfl q55_ ?_; (with_reducible refine (spec_l1Open.calls _ _ l0 t422 t423 w _ ?side1 ?side2 ?side3 A2.out).mono ?_); (case side1 => exact q117_); (case side2 => exact HR0.out); (case side3 => exact HC0.out); rintro e w39 ⟨g424, rfl, hi, hb, hb2⟩; refine ⟨_, rfl, ?_⟩; have n0_ := Aside0.mk (hb); have n1_ := Aside0.mk (hi); clear HB; have HB := n0_; have HI424 := n1_; clear n0_ n1_; (try clear hb); (try clear hb2); (try clear hi)))
     have pi432 : (0 ≤ (t430 : Int)) = True := eq_true (of_decide_eq_true q87_)
     have qi432 : (t430 < (y427.length : Int)) = True := eq_true (of_decide_eq_true q87_)
     have n0_ := Aside0.mk (IsS73.drew HI424.out)
     have n1_ := Aside0.mk (below_drew1 HB.out)
     clear HI424
     clear HB
     have HI424 := n0_
     have HB := n1_
     clear n0_ n1_
     refine start_ (n := 15) (S := fun w' => True) (ds := []) #[false, false, false, false, false, false, false, false, false, false, false, false, false, false, false] (by kernel_rfl) rfl rfl trivial (fun hHeld => ?_); refine with_tabW spec_DrawHeaderOf.tab2 spec_DrawHeaderOf.bits2 (fun HT_ HW_ => ?_)
     generalize w39.drew = w40 at HI424 HB hHeld ⊢
     refine pure_ (i := 0) (N := some 10) (v := ?_) (a' := ?_) #[true, false, false, false, false, false, false, false, false, false, false, false, false, false, false] rfl rfl (any_of HT_.out (by kernel_rfl)) (fun _ _ _ h => h) (Or.inl ⟨by rfl, ?_⟩) ?_ ?_
     rotate_left
     ·intro w'
      go_simp
      with_reducible rfl
     rotate_left
     ·simp only [Act.put, List.setIfInBounds_toArray, List.set_cons_zero, List.set_cons_succ, i64_w, i32_w]
      rfl
     refine pure_ (i := 3) (N := some 13) (v := ?_) (a' := ?_) #[true, false, false, true, false, false, false, false, false, false, false, false, false, false, false] rfl rfl (any_of HT_.out (by kernel_rfl)) (fun _ _ _ h => h) (Or.inl ⟨by rfl, ?_⟩) ?_ ?_
     rotate_left
     ·intro w'
      go_simp
      with_reducible rfl
     rotate_left
     ·simp only [Act.put, List.setIfInBounds_toArray, List.set_cons_zero, List.set_cons_succ, i64_w, i32_w]
      rfl
     refine pure_ (i := 7) (N := some 17) (v := ?_) (a' := ?_) #[true, false, false, true, false, false, false, true, false, false, false, false, false, false, false] rfl rfl (any_of HT_.out (by kernel_rfl)) (fun _ _ _ h => h) (Or.inl ⟨by rfl, ?_⟩) ?_ ?_
     rotate_left
     ·intro w'
      go_simp
      with_reducible rfl
     rotate_left
     ·simp only [Act.put, List.setIfInBounds_toArray, List.set_cons_zero, List.set_cons_succ, i64_w, i32_w]
      rfl
     refine inv_at [1, 2, 4, 5, 6, 8, 9, 10, 11, 12, 13, 14] (fun a0_ b a w' => ∃ (v428 : Value) (adz_v428 : Addr) (m5_ : Value), a = putSel a0_ b [(1, 11, .string t425), (2, 12, v428), (4, 14, .int .i64 t430), (5, 15, m5_), (6, 16, .string (rdOf ByteArray.empty y427 t430)), (8, 18, .int .i64 t433), (9, 19, .tuple #[.string t435, .bool true]), (10, 9, .tuple #[.string t435, .bool true]), (11, 20, .string t435), (12, 21, .bool true), (13, 4, .string t435), (14, 5, .bool true)] ∧ (b 1 = false → IsS73 w w' g424 t422 t423) ∧ (Below w.heap.size w w') ∧ (b 1 = true → b 4 = false → IsS73 w w' g424 t422 t426) ∧ (b 2 = true → Kd.R Kd.string 9 w' w.heap.size (fun _ => True) v428 y427) ∧ (b 2 = true → ∃ c_, (v428 : Value) = .slice (some adz_v428) y427.length c_) ∧ (b 4 = true → b 8 = false → IsS73 w w' g424 t422 t431) ∧ (b 8 = true → IsS73 w w' g424 t422 t434) ∧ (b 5 = true → (m5_ : Value) = .pointer (some (adz_v428.add (t430).toNat)))) HT_.out HW_.out (by kernel_rfl) (by kernel_rfl) ?_ ?_ ?_
     ·exact ⟨.bool false, ⟨0, 0, none⟩, .bool false, q88_, fun _ => HI424.out, HB.out, fun h_ => absurd h_ (by decide), fun h_ => absurd h_ (by decide), fun h_ => absurd h_ (by decide), fun h_ => absurd h_ (by decide), fun h_ => absurd h_ (by decide), fun h_ => absurd h_ (by decide)⟩
     ·skip
      clear HB HI424
      refine steps_cons ?_ ?_
      ·rintro b a w' ⟨v428, adz_v428, m5_, ha, Q_HI424, Q_HB, Q_HI424_e1, Q_HO429, Q_HA_HO429, Q_HI424_e4, Q_HI424_e8, Q_X5_⟩ hb_ hon hoff
       refine ⟨_, rfl, fun K hK => ?_⟩
       have e10 : a.tmps[10]? = some (.pointer (some ⟨g424, 0, none⟩)) := by rw [ha]; exact (putSel_off rfl).trans rfl
       replace ha := Aside0.mk ha
       have HI424 := Aside0.mk (Q_HI424 hb_)
       have HB := Aside0.mk Q_HB
       refine goes_ Tryd.func45 (by kernel_rfl) rfl #[.pointer (some ⟨g424, 0, none⟩)] (by rfl) rfl rfl (by first | (simp only [List.map_toArray, List.map_cons, List.map_nil, Act.eval, Array.getD_eq_getD_getElem?, Option.getD_some, e10]; done) | (simp only [List.map_toArray, List.map_cons, List.map_nil, Act.eval, Array.getD_eq_getD_getElem?, Option.getD_some, e10]; rfl)) ?_
       with_reducible refine (spec_l1Rd_rom.calls k g424 t422 t423 t425 t426 w _ ?side1 ?side2 A3.out).mono ?_
       (case side1 => exact q115_)
       (case side2 => exact q113_)
       rintro e w41 ⟨rfl, hi, hb, hk⟩
       refine ⟨_, rfl, ?_⟩
       have n0_ := Aside0.mk (hb)
       have n1_ := Aside0.mk (hi)
       have z_HO429 := fun (h0_ : b 2 = true) => (show Kd.R Kd.string 9 w41 w.heap.size (fun _ => True) v428 y427 from by first | exact (Kd.R_mono (Kd.R_keep (IsS73.apart (show IsS73 w _ g424 t422 t423 from by repeat (first | (with_reducible first | exact HI424.out | apply IsS73.alloc | apply IsS73.drewN | apply IsS73.drew | apply IsS73.set_1) | exact HI424.out)) q76_ (by decide)) hk (fun _ h => h.2)) (fun _ h => h.1)) | exact Kd.R_mono (Kd.R_mono (Kd.R_keep (IsS73.apart (show IsS73 w _ g424 t422 t423 from by repeat (first | (with_reducible first | exact HI424.out | apply IsS73.alloc | apply IsS73.drewN | apply IsS73.drew | apply IsS73.set_1) | exact HI424.out)) q76_ (by decide)) hk (fun _ h => h.2)) (fun _ h => h.1)) (fun _ h_ => by first | trivial | exact h_ | exact h_.1))
       clear HB
       clear HI424
       have HB := n0_
       have HI424 := n1_
       clear n0_ n1_
       (try clear hb)
       (try clear hb2)
       (try clear hk)
       (try clear hi)
       refine hK.out _ _ ⟨v428, adz_v428, m5_, q90_, fun h0_ => absurd ((up_self b 1).symm.trans h0_) (by decide), q38_, fun _ _ => q51_, z_HO429, Q_HA_HO429, fun h0_ _ => absurd ((hoff 4 (by kernel_rfl)).symm.trans h0_) (by decide), fun h0_ => absurd ((hoff 8 (by kernel_rfl)).symm.trans h0_) (by decide), fun h0_ => absurd ((hoff 5 (by kernel_rfl)).symm.trans h0_) (by decide)⟩
      refine steps_cons ?_ ?_
      ·rintro b a w' ⟨v428, adz_v428, m5_, ha, Q_HI424, Q_HB, Q_HI424_e1, Q_HO429, Q_HA_HO429, Q_HI424_e4, Q_HI424_e8, Q_X5_⟩ hb_ hon hoff
       refine ⟨_, rfl, fun K hK => ?_⟩
       replace ha := Aside0.mk ha
       have HB := Aside0.mk Q_HB
       refine Kd.R_lit_step Kd.string _ 9 ?hg (N := 12) ?hd (xs := ([(⟨#[]⟩ : ByteArray), (⟨#[71, 65, 77, 69]⟩ : ByteArray)] : List ByteArray)) (inner := [.string (⟨#[]⟩ : ByteArray), .string (⟨#[71, 65, 77, 69]⟩ : ByteArray)]) (ok := fun _ => True) (okp := fun _ => True) ?hr ?hp (fun _ hk => hk) trivial (Below.refl _ _) (Nat.le_refl _) (by simp) ?_; (case hd => rfl); (case hg => rfl); (case hr => exact q118_); (case hp => exact q106_)
       intro v428 w41 ho42 hb hg_ hnew_
       clear hg_ hnew_
       (first | rw [← Ny427.out] at ho42 | (simp only [Int.reduceToNat] at ho42; rw [← Ny427.out] at ho42))
       have n0_ := Aside0.mk (Kd.R_lower ho42 (below_size q56_))
       have n2_ := Aside0.mk (below_step q56_ hb)
       have z_HI424 := fun (h0_ : b 1 = false) => (show IsS73 w w41 g424 t422 t423 from by first | exact (IsS73.below q49_ hb))
       have z_HI424_e1 := fun (h0_ : b 1 = true) (h1_ : b 4 = false) => (show IsS73 w w41 g424 t422 t426 from by first | exact (IsS73.below q36_ hb))
       have z_HI424_e4 := fun (h0_ : b 4 = true) (h1_ : b 8 = false) => (show IsS73 w w41 g424 t422 t431 from by first | exact (IsS73.below q37_ hb))
       have z_HI424_e8 := fun (h0_ : b 8 = true) => (show IsS73 w w41 g424 t422 t434 from by first | exact (IsS73.below q41_ hb))
       clear HB
       have HO429 := n0_
       have HB := n2_
       clear n0_ n2_
       clear hb ho42
       obtain ⟨Ao43, co43, eo43⟩ := Kd.R_slice HO429.out
       subst eo43
       obtain ⟨ado43, fo43, _⟩ := Kd.at_string (Kd.R_reads' HO429.out).2.2 0 (by decide) (by rw [Ny427.out]; simp)
       cases fo43
       refine hK.out _ _ ⟨.slice (some ado43) y427.length co43, ado43, m5_, q91_, z_HI424, q56_, z_HI424_e1, fun _ => q81_, fun _ => ⟨_, rfl⟩, z_HI424_e4, z_HI424_e8, fun h0_ => absurd ((hoff 5 (by kernel_rfl)).symm.trans h0_) (by decide)⟩
      refine steps_cons ?_ ?_
      ·rintro b a w' ⟨v428, adz_v428, m5_, ha, Q_HI424, Q_HB, Q_HI424_e1, Q_HO429, Q_HA_HO429, Q_HI424_e4, Q_HI424_e8, Q_X5_⟩ hb_ hon hoff
       refine ⟨_, rfl, fun K hK => ?_⟩
       have e13 : a.tmps[13]? = some (.pointer (some ⟨g424, 0, none⟩)) := by rw [ha]; exact (putSel_off rfl).trans rfl
       replace ha := Aside0.mk ha
       have HB := Aside0.mk Q_HB
       have HI424 := Aside0.mk (Q_HI424_e1 (hon 1 (by kernel_rfl)) hb_)
       refine goes_ Tryd.func40 (by kernel_rfl) rfl #[.pointer (some ⟨g424, 0, none⟩), .int .i64 2] (by rfl) rfl rfl (by first | (simp only [List.map_toArray, List.map_cons, List.map_nil, Act.eval, Array.getD_eq_getD_getElem?, Option.getD_some, e13]; done) | (simp only [List.map_toArray, List.map_cons, List.map_nil, Act.eval, Array.getD_eq_getD_getElem?, Option.getD_some, e13]; rfl)) ?_
       with_reducible refine (spec_l1Rd_below.calls g424 t422 t426 2 t430 t431 w _ ?side1 ?side2 A4.out).mono ?_
       (case side1 => exact q115_)
       (case side2 => exact q113_)
       rintro e w43 ⟨rfl, hi, hb, hk⟩
       refine ⟨_, rfl, ?_⟩
       have n0_ := Aside0.mk (hb)
       have n1_ := Aside0.mk (hi)
       have z_HO429 := fun (h0_ : b 2 = true) => (show Kd.R Kd.string 9 w43 w.heap.size (fun _ => True) v428 y427 from by first | exact (Kd.R_mono (Kd.R_keep (IsS73.apart (show IsS73 w _ g424 t422 t426 from by repeat (first | (with_reducible first | exact HI424.out | apply IsS73.alloc | apply IsS73.drewN | apply IsS73.drew | apply IsS73.set_1) | exact HI424.out)) q76_ (by decide)) hk (fun _ h => h.2)) (fun _ h => h.1)) | exact Kd.R_mono (Kd.R_mono (Kd.R_keep (IsS73.apart (show IsS73 w _ g424 t422 t426 from by repeat (first | (with_reducible first | exact HI424.out | apply IsS73.alloc | apply IsS73.drewN | apply IsS73.drew | apply IsS73.set_1) | exact HI424.out)) q76_ (by decide)) hk (fun _ h => h.2)) (fun _ h => h.1)) (fun _ h_ => by first | trivial | exact h_ | exact h_.1))
       clear HB
       clear HI424
       have HB := n0_
       have HI424 := n1_
       clear n0_ n1_
       (try clear hb)
       (try clear hb2)
       (try clear hk)
       (try clear hi)
       refine hK.out _ _ ⟨v428, adz_v428, m5_, q92_, fun h0_ => absurd ((hon 1 (by kernel_rfl)).symm.trans h0_) (by decide), q38_, fun _ h1_ => absurd ((up_self b 4).symm.trans h1_) (by decide), z_HO429, Q_HA_HO429, fun _ _ => q51_, fun h0_ => absurd ((hoff 8 (by kernel_rfl)).symm.trans h0_) (by decide), fun h0_ => absurd ((hoff 5 (by kernel_rfl)).symm.trans h0_) (by decide)⟩
      refine steps_cons ?_ ?_
      ·rintro b a w' ⟨v428, adz_v428, m5_, ha, Q_HI424, Q_HB, Q_HI424_e1, Q_HO429, Q_HA_HO429, Q_HI424_e4, Q_HI424_e8, Q_X5_⟩ hb_ hon hoff
       refine ⟨_, rfl, fun K hK => ?_⟩
       have e12 : a.tmps[12]? = some (v428) := by rw [ha]; exact putSel_on (e := (2, 12, v428)) 1 rfl rfl (hon 2 (by kernel_rfl)) rfl
       have e14 : a.tmps[14]? = some (.int .i64 t430) := by rw [ha]; exact putSel_on (e := (4, 14, .int .i64 t430)) 2 rfl rfl (hon 4 (by kernel_rfl)) rfl
       replace ha := Aside0.mk ha
       have HB := Aside0.mk Q_HB
       have HO429 := Aside0.mk (Q_HO429 (hon 2 (by kernel_rfl)))
       have HA_HO429 := Aside0.mk (Q_HA_HO429 (hon 2 (by kernel_rfl)))
       obtain ⟨c_, hv_⟩ := HA_HO429.out
       rw [hv_] at e12
       refine value_ (w1 := w') (v := .pointer (some (adz_v428.add (t430).toNat))) (by rfl) rfl ?_ ?_
       ·go_simp
        (try simp only [i64_w])
        try rfl
       refine hK.out _ _ ⟨v428, adz_v428, (.pointer (some (adz_v428.add (t430).toNat))), q93_, fun h0_ => absurd ((hon 1 (by kernel_rfl)).symm.trans h0_) (by decide), Q_HB, fun _ h1_ => absurd ((hon 4 (by kernel_rfl)).symm.trans h1_) (by decide), Q_HO429, Q_HA_HO429, Q_HI424_e4, Q_HI424_e8, fun _ => rfl⟩
      refine steps_cons ?_ ?_
      ·rintro b a w' ⟨v428, adz_v428, m5_, ha, Q_HI424, Q_HB, Q_HI424_e1, Q_HO429, Q_HA_HO429, Q_HI424_e4, Q_HI424_e8, Q_X5_⟩ hb_ hon hoff
       refine ⟨_, rfl, fun K hK => ?_⟩
       have e15 : a.tmps[15]? = some (m5_) := by rw [ha]; exact putSel_on (e := (5, 15, m5_)) 3 rfl rfl (hon 5 (by kernel_rfl)) rfl
       rw [Q_X5_ (hon 5 (by kernel_rfl))] at e15
       replace ha := Aside0.mk ha
       have HB := Aside0.mk Q_HB
       have HO429 := Aside0.mk (Q_HO429 (hon 2 (by kernel_rfl)))
       have HA_HO429 := Aside0.mk (Q_HA_HO429 (hon 2 (by kernel_rfl)))
       obtain ⟨c_, hv_⟩ := HA_HO429.out
       have hF_ := HO429.out
       rw [hv_] at hF_
       obtain ⟨ad_, ea_, hx_⟩ := Kd.at_string (Kd.R_reads' hF_).2.2 t430 (of_eq_true pi432) (of_eq_true qi432)
       cases ea_
       refine value_ (w1 := w') (v := .string (rdOf ByteArray.empty y427 t430)) (by rfl) rfl ?_ ?_
       ·go_simp
        (try simp only [i64_w])
        try rfl
       refine hK.out _ _ ⟨v428, adz_v428, m5_, q94_, fun h0_ => absurd ((hon 1 (by kernel_rfl)).symm.trans h0_) (by decide), Q_HB, fun _ h1_ => absurd ((hon 4 (by kernel_rfl)).symm.trans h1_) (by decide), Q_HO429, Q_HA_HO429, Q_HI424_e4, Q_HI424_e8, Q_X5_⟩
      refine steps_cons ?_ ?_
      ·rintro b a w' ⟨v428, adz_v428, m5_, ha, Q_HI424, Q_HB, Q_HI424_e1, Q_HO429, Q_HA_HO429, Q_HI424_e4, Q_HI424_e8, Q_X5_⟩ hb_ hon hoff
       refine ⟨_, rfl, fun K hK => ?_⟩
       have e17 : a.tmps[17]? = some (.pointer (some ⟨g424, 0, none⟩)) := by rw [ha]; exact (putSel_off rfl).trans rfl
       replace ha := Aside0.mk ha
       have HB := Aside0.mk Q_HB
       have HI424 := Aside0.mk (Q_HI424_e4 (hon 4 (by kernel_rfl)) hb_)
       refine goes_ Tryd.func40 (by kernel_rfl) rfl #[.pointer (some ⟨g424, 0, none⟩), .int .i64 3] (by rfl) rfl rfl (by first | (simp only [List.map_toArray, List.map_cons, List.map_nil, Act.eval, Array.getD_eq_getD_getElem?, Option.getD_some, e17]; done) | (simp only [List.map_toArray, List.map_cons, List.map_nil, Act.eval, Array.getD_eq_getD_getElem?, Option.getD_some, e17]; rfl)) ?_
       with_reducible refine (spec_l1Rd_below.calls g424 t422 t431 3 t433 t434 w _ ?side1 ?side2 A7.out).mono ?_
       (case side1 => exact q115_)
       (case side2 => exact q113_)
       rintro e w44 ⟨rfl, hi, hb, hk⟩
       refine ⟨_, rfl, ?_⟩
       have n0_ := Aside0.mk (hb)
       have n1_ := Aside0.mk (hi)
       have z_HO429 := fun (h0_ : b 2 = true) => (show Kd.R Kd.string 9 w44 w.heap.size (fun _ => True) v428 y427 from by first | exact (Kd.R_mono (Kd.R_keep (IsS73.apart (show IsS73 w _ g424 t422 t431 from by repeat (first | (with_reducible first | exact HI424.out | apply IsS73.alloc | apply IsS73.drewN | apply IsS73.drew | apply IsS73.set_1) | exact HI424.out)) q76_ (by decide)) hk (fun _ h => h.2)) (fun _ h => h.1)) | exact Kd.R_mono (Kd.R_mono (Kd.R_keep (IsS73.apart (show IsS73 w _ g424 t422 t431 from by repeat (first | (with_reducible first | exact HI424.out | apply IsS73.alloc | apply IsS73.drewN | apply IsS73.drew | apply IsS73.set_1) | exact HI424.out)) q76_ (by decide)) hk (fun _ h => h.2)) (fun _ h => h.1)) (fun _ h_ => by first | trivial | exact h_ | exact h_.1))
       clear HB
       clear HI424
       have HB := n0_
       have HI424 := n1_
       clear n0_ n1_
       (try clear hb)
       (try clear hb2)
       (try clear hk)
       (try clear hi)
       refine hK.out _ _ ⟨v428, adz_v428, m5_, q95_, fun h0_ => absurd ((hon 1 (by kernel_rfl)).symm.trans h0_) (by decide), q38_, fun _ h1_ => absurd ((hon 4 (by kernel_rfl)).symm.trans h1_) (by decide), z_HO429, Q_HA_HO429, fun _ h1_ => absurd ((up_self b 8).symm.trans h1_) (by decide), fun _ => q51_, Q_X5_⟩
      refine steps_cons ?_ ?_
      ·rintro b a w' ⟨v428, adz_v428, m5_, ha, Q_HI424, Q_HB, Q_HI424_e1, Q_HO429, Q_HA_HO429, Q_HI424_e4, Q_HI424_e8, Q_X5_⟩ hb_ hon hoff
       refine ⟨_, rfl, fun K hK => ?_⟩
       have e11 : a.tmps[11]? = some (.string t425) := by rw [ha]; exact putSel_on (e := (1, 11, .string t425)) 0 rfl rfl (hon 1 (by kernel_rfl)) rfl
       have e16 : a.tmps[16]? = some (.string (rdOf ByteArray.empty y427 t430)) := by rw [ha]; exact putSel_on (e := (6, 16, .string (rdOf ByteArray.empty y427 t430))) 4 rfl rfl (hon 6 (by kernel_rfl)) rfl
       have e18 : a.tmps[18]? = some (.int .i64 t433) := by rw [ha]; exact putSel_on (e := (8, 18, .int .i64 t433)) 5 rfl rfl (hon 8 (by kernel_rfl)) rfl
       replace ha := Aside0.mk ha
       have HB := Aside0.mk Q_HB
       have HO429 := Aside0.mk (Q_HO429 (hon 2 (by kernel_rfl)))
       have HA_HO429 := Aside0.mk (Q_HA_HO429 (hon 2 (by kernel_rfl)))
       have HI424 := Aside0.mk (Q_HI424_e8 (hon 8 (by kernel_rfl)))
       obtain ⟨co48, eo48⟩ := HA_HO429.out
       clear HA_HO429
       subst eo48
       refine goes_ Tryd.func28 (by kernel_rfl) rfl #[.string t425, .string (rdOf ByteArray.empty y427 t430), .int .i64 t433] (by rfl) rfl rfl (by first | (simp only [List.map_toArray, List.map_cons, List.map_nil, Act.eval, Array.getD_eq_getD_getElem?, Option.getD_some, e11, e16, e18]; done) | (simp only [List.map_toArray, List.map_cons, List.map_nil, Act.eval, Array.getD_eq_getD_getElem?, Option.getD_some, e11, e16, e18]; rfl)) ?_
       with_reducible refine (spec_Fixed.calls k t425 (rdOf ByteArray.empty y427 t430) t433 t435 true _ A8.out).mono ?_
       rintro e w49 ⟨rfl, hb⟩
       refine ⟨_, rfl, ?_⟩
       have n0_ := Aside0.mk (Kd.R_below q81_ hb)
       have n1_ := Aside0.mk (IsS73.below q51_ hb)
       have n2_ := Aside0.mk (below_step q38_ hb)
       clear HO429
       clear HI424
       clear HB
       have HO429 := n0_
       have HI424 := n1_
       have HB := n2_
       clear n0_ n1_ n2_
       (try clear hb)
       (try clear hb2)
       (try clear hk)
       (try clear hi)
       refine hK.out _ _ ⟨.slice (some adz_v428) y427.length co48, adz_v428, m5_, q96_, fun h0_ => absurd ((hon 1 (by kernel_rfl)).symm.trans h0_) (by decide), q38_, fun _ h1_ => absurd ((hon 4 (by kernel_rfl)).symm.trans h1_) (by decide), fun _ => q81_, fun _ => ⟨_, rfl⟩, fun _ h1_ => absurd ((hon 8 (by kernel_rfl)).symm.trans h1_) (by decide), fun _ => q51_, Q_X5_⟩
      refine steps_cons ?_ ?_
      ·rintro b a w' ⟨v428, adz_v428, m5_, ha, Q_HI424, Q_HB, Q_HI424_e1, Q_HO429, Q_HA_HO429, Q_HI424_e4, Q_HI424_e8, Q_X5_⟩ hb_ hon hoff
       refine ⟨_, rfl, fun K hK => ?_⟩
       have e19 : a.tmps[19]? = some (.tuple #[.string t435, .bool true]) := by rw [ha]; exact putSel_on (e := (9, 19, .tuple #[.string t435, .bool true])) 6 rfl rfl (hon 9 (by kernel_rfl)) rfl
       replace ha := Aside0.mk ha
       have HB := Aside0.mk Q_HB
       have HO429 := Aside0.mk (Q_HO429 (hon 2 (by kernel_rfl)))
       have HA_HO429 := Aside0.mk (Q_HA_HO429 (hon 2 (by kernel_rfl)))
       have HI424 := Aside0.mk (Q_HI424_e8 (hon 8 (by kernel_rfl)))
       refine value_ (w1 := w') (v := .tuple #[.string t435, .bool true]) (by rfl) rfl ?_ ?_
       ·go_simp
        (try simp only [i64_w])
        try rfl
       refine hK.out _ _ ⟨v428, adz_v428, m5_, q97_, fun h0_ => absurd ((hon 1 (by kernel_rfl)).symm.trans h0_) (by decide), Q_HB, fun _ h1_ => absurd ((hon 4 (by kernel_rfl)).symm.trans h1_) (by decide), Q_HO429, Q_HA_HO429, fun _ h1_ => absurd ((hon 8 (by kernel_rfl)).symm.trans h1_) (by decide), Q_HI424_e8, Q_X5_⟩
      refine steps_cons ?_ ?_
      ·rintro b a w' ⟨v428, adz_v428, m5_, ha, Q_HI424, Q_HB, Q_HI424_e1, Q_HO429, Q_HA_HO429, Q_HI424_e4, Q_HI424_e8, Q_X5_⟩ hb_ hon hoff
       refine ⟨_, rfl, fun K hK => ?_⟩
       have e9 : a.tmps[9]? = some (.tuple #[.string t435, .bool true]) := by rw [ha]; exact putSel_on (e := (10, 9, .tuple #[.string t435, .bool true])) 7 rfl rfl (hon 10 (by kernel_rfl)) rfl
       replace ha := Aside0.mk ha
       have HB := Aside0.mk Q_HB
       have HO429 := Aside0.mk (Q_HO429 (hon 2 (by kernel_rfl)))
       have HA_HO429 := Aside0.mk (Q_HA_HO429 (hon 2 (by kernel_rfl)))
       have HI424 := Aside0.mk (Q_HI424_e8 (hon 8 (by kernel_rfl)))
       refine value_ (w1 := w') (v := .string t435) (by rfl) rfl ?_ ?_
       ·go_simp
        (try simp only [i64_w])
        try rfl
       refine hK.out _ _ ⟨v428, adz_v428, m5_, q98_, fun h0_ => absurd ((hon 1 (by kernel_rfl)).symm.trans h0_) (by decide), Q_HB, fun _ h1_ => absurd ((hon 4 (by kernel_rfl)).symm.trans h1_) (by decide), Q_HO429, Q_HA_HO429, fun _ h1_ => absurd ((hon 8 (by kernel_rfl)).symm.trans h1_) (by decide), Q_HI424_e8, Q_X5_⟩
      refine steps_cons ?_ ?_
      ·rintro b a w' ⟨v428, adz_v428, m5_, ha, Q_HI424, Q_HB, Q_HI424_e1, Q_HO429, Q_HA_HO429, Q_HI424_e4, Q_HI424_e8, Q_X5_⟩ hb_ hon hoff
       refine ⟨_, rfl, fun K hK => ?_⟩
       have e9 : a.tmps[9]? = some (.tuple #[.string t435, .bool true]) := by rw [ha]; exact putSel_on (e := (10, 9, .tuple #[.string t435, .bool true])) 7 rfl rfl (hon 10 (by kernel_rfl)) rfl
       replace ha := Aside0.mk ha
       have HB := Aside0.mk Q_HB
       have HO429 := Aside0.mk (Q_HO429 (hon 2 (by kernel_rfl)))
       have HA_HO429 := Aside0.mk (Q_HA_HO429 (hon 2 (by kernel_rfl)))
       have HI424 := Aside0.mk (Q_HI424_e8 (hon 8 (by kernel_rfl)))
       refine value_ (w1 := w') (v := .bool true) (by rfl) rfl ?_ ?_
       ·go_simp
        (try simp only [i64_w])
        try rfl
       refine hK.out _ _ ⟨v428, adz_v428, m5_, q99_, fun h0_ => absurd ((hon 1 (by kernel_rfl)).symm.trans h0_) (by decide), Q_HB, fun _ h1_ => absurd ((hon 4 (by kernel_rfl)).symm.trans h1_) (by decide), Q_HO429, Q_HA_HO429, fun _ h1_ => absurd ((hon 8 (by kernel_rfl)).symm.trans h1_) (by decide), Q_HI424_e8, Q_X5_⟩
      refine steps_cons ?_ ?_
      ·rintro b a w' ⟨v428, adz_v428, m5_, ha, Q_HI424, Q_HB, Q_HI424_e1, Q_HO429, Q_HA_HO429, Q_HI424_e4, Q_HI424_e8, Q_X5_⟩ hb_ hon hoff
       refine ⟨_, rfl, fun K hK => ?_⟩
       have e20 : a.tmps[20]? = some (.string t435) := by rw [ha]; exact putSel_on (e := (11, 20, .string t435)) 8 rfl rfl (hon 11 (by kernel_rfl)) rfl
       replace ha := Aside0.mk ha
       have HB := Aside0.mk Q_HB
       have HO429 := Aside0.mk (Q_HO429 (hon 2 (by kernel_rfl)))
       have HA_HO429 := Aside0.mk (Q_HA_HO429 (hon 2 (by kernel_rfl)))
       have HI424 := Aside0.mk (Q_HI424_e8 (hon 8 (by kernel_rfl)))
       refine value_ (w1 := w') (v := .string t435) (by rfl) rfl ?_ ?_
       ·go_simp
        (try simp only [i64_w])
        try rfl
       refine hK.out _ _ ⟨v428, adz_v428, m5_, q89_, fun h0_ => absurd ((hon 1 (by kernel_rfl)).symm.trans h0_) (by decide), Q_HB, fun _ h1_ => absurd ((hon 4 (by kernel_rfl)).symm.trans h1_) (by decide), Q_HO429, Q_HA_HO429, fun _ h1_ => absurd ((hon 8 (by kernel_rfl)).symm.trans h1_) (by decide), Q_HI424_e8, Q_X5_⟩
      refine steps_cons ?_ ?_
      ·rintro b a w' ⟨v428, adz_v428, m5_, ha, Q_HI424, Q_HB, Q_HI424_e1, Q_HO429, Q_HA_HO429, Q_HI424_e4, Q_HI424_e8, Q_X5_⟩ hb_ hon hoff
       refine ⟨_, rfl, fun K hK => ?_⟩
       have e21 : a.tmps[21]? = some (.bool true) := by rw [ha]; exact putSel_on (e := (12, 21, .bool true)) 9 rfl rfl (hon 12 (by kernel_rfl)) rfl
       replace ha := Aside0.mk ha
       have HB := Aside0.mk Q_HB
       have HO429 := Aside0.mk (Q_HO429 (hon 2 (by kernel_rfl)))
       have HA_HO429 := Aside0.mk (Q_HA_HO429 (hon 2 (by kernel_rfl)))
       have HI424 := Aside0.mk (Q_HI424_e8 (hon 8 (by kernel_rfl)))
       refine value_ (w1 := w') (v := .bool true) (by rfl) rfl ?_ ?_
       ·go_simp
        (try simp only [i64_w])
        try rfl
       refine hK.out _ _ ⟨v428, adz_v428, m5_, (by rw [ha.out]; exact putSel_upk 11 hb_ rfl rfl rfl), fun h0_ => absurd ((hon 1 (by kernel_rfl)).symm.trans h0_) (by decide), Q_HB, fun _ h1_ => absurd ((hon 4 (by kernel_rfl)).symm.trans h1_) (by decide), Q_HO429, Q_HA_HO429, fun _ h1_ => absurd ((hon 8 (by kernel_rfl)).symm.trans h1_) (by decide), Q_HI424_e8, Q_X5_⟩
      exact steps_nil
     rintro b a w48 hall ⟨v428, adz_v428, m5_, ha, Q_HI424, Q_HB, Q_HI424_e1, Q_HO429, Q_HA_HO429, Q_HI424_e4, Q_HI424_e8, Q_X5_⟩
     clear HB HI424
     have hb1_ := hall 1 (by kernel_rfl)
     have hb2_ := hall 2 (by kernel_rfl)
     have hb4_ := hall 4 (by kernel_rfl)
     have hb5_ := hall 5 (by kernel_rfl)
     have hb6_ := hall 6 (by kernel_rfl)
     have hb8_ := hall 8 (by kernel_rfl)
     have hb9_ := hall 9 (by kernel_rfl)
     have hb10_ := hall 10 (by kernel_rfl)
     have hb11_ := hall 11 (by kernel_rfl)
     have hb12_ := hall 12 (by kernel_rfl)
     have hb13_ := hall 13 (by kernel_rfl)
     have hb14_ := hall 14 (by kernel_rfl)
     subst ha
     obtain rfl := Q_X5_ hb5_
     simp only [putSel, hb1_, hb2_, hb4_, hb5_, hb6_, hb8_, hb9_, hb10_, hb11_, hb12_, hb13_, hb14_, if_true, Act.put, List.setIfInBounds_toArray, List.set_cons_zero, List.set_cons_succ]
     clear Q_HI424
     have HB := Aside0.mk Q_HB
     clear Q_HB
     clear Q_HI424_e1
     have HO429 := Aside0.mk (Q_HO429 hb2_)
     clear Q_HO429
     have HA_HO429 := Aside0.mk (Q_HA_HO429 hb2_)
     clear Q_HA_HO429
     clear Q_HI424_e4
     have HI424 := Aside0.mk (Q_HI424_e8 hb8_)
     clear Q_HI424_e8
     clear hall hb1_ hb2_ hb4_ hb5_ hb6_ hb8_ hb9_ hb10_ hb11_ hb12_ hb13_ hb14_
     obtain ⟨co49, eo49⟩ := HA_HO429.out
     clear HA_HO429
     subst eo49
     try go_wp2_with (first | ((with_reducible refine gate_callee (f := 37) rfl ?_); refine goesL_ (some 27) rfl rfl Tryd.func37 (by kernel_rfl) rfl #[.pointer (some ⟨g424, 0, none⟩), .int .i64 4] rfl q55_ ?_; (with_reducible refine (spec_l1Rd_once.calls g424 t422 t434 4 false t440 w _ ?side1 ?side2 A10.out).mono ?_); (case side1 => exact q115_); (case side2 => exact q113_); rintro e w50 ⟨rfl, hi, hb, hk⟩; refine ⟨_, rfl, ?_⟩; have n0_ := Aside0.mk (Kd.R_mono (Kd.R_keep (IsS73.apart (show IsS73 w _ g424 t422 t434 from by repeat (first | (with_reducible first | exact HI424.out | apply IsS73.alloc | apply IsS73.drewN | apply IsS73.drew | apply IsS73.set_1) | exact HI424.out)) q81_ (by decide)) hk (fun _ h => h.2)) (fun _ h => h.1)); have n1_ := Aside0.mk (hb); have n2_ := Aside0.mk (hi); clear HO429; clear HB; clear HI424; have HO429 := n0_; have HB := n1_; have HI424 := n2_; clear n0_ n1_ n2_; (try clear hb); (try clear hk); (try clear hi)))
     go_ret
     exact ⟨q60_, q38_⟩
   ·replace c9 := Bool.eq_false_iff.mpr c9
    subst c9
    replace H : ((spec_l1Rd_rom.f k t422 t434).bind fun bt437 => (some bt437.1)) = some r := by rw [if_neg (show ¬ (false = true) by decide)] at H; exact H
    replace H := Option.bind_eq_some_iff.mp H
    obtain ⟨⟨t437, t438⟩, A510, H⟩ := H
    replace H : (some t437) = some r := H
    have A51 := Aside0.mk A510
    clear A510
    obtain rfl := Option.some.inj H
    go_enter Tryd.func16, Tryd.ntmps16
    try go_wp2_with (first | ((with_reducible refine gate_callee (f := 36) rfl ?_); refine goesL_ (some 8) rfl rfl Tryd.func36 (by kernel_rfl) rfl #[.slice A0 l0.length c0] rfl q55_ ?_; (with_reducible refine (spec_l1Open.calls _ _ l0 t422 t423 w _ ?side1 ?side2 ?side3 A2.out).mono ?_); (case side1 => exact q117_); (case side2 => exact HR0.out); (case side3 => exact HC0.out); rintro e w52 ⟨g424, rfl, hi, hb, hb2⟩; refine ⟨_, rfl, ?_⟩; have n0_ := Aside0.mk (hb); have n1_ := Aside0.mk (hi); clear HB; have HB := n0_; have HI424 := n1_; clear n0_ n1_; (try clear hb); (try clear hb2); (try clear hi)))
    have pi432 : (0 ≤ (t430 : Int)) = True := eq_true (of_decide_eq_true q87_)
    have qi432 : (t430 < (y427.length : Int)) = True := eq_true (of_decide_eq_true q87_)
    have n0_ := Aside0.mk (IsS73.drew HI424.out)
    have n1_ := Aside0.mk (below_drew1 HB.out)
    clear HI424
    clear HB
    have HI424 := n0_
    have HB := n1_
    clear n0_ n1_
    refine start_ (n := 15) (S := fun w' => True) (ds := []) #[false, false, false, false, false, false, false, false, false, false, false, false, false, false, false] (by kernel_rfl) rfl rfl trivial (fun hHeld => ?_); refine with_tabW spec_DrawHeaderOf.tab2 spec_DrawHeaderOf.bits2 (fun HT_ HW_ => ?_)
    generalize w52.drew = w53 at HI424 HB hHeld ⊢
    refine pure_ (i := 0) (N := some 10) (v := ?_) (a' := ?_) #[true, false, false, false, false, false, false, false, false, false, false, false, false, false, false] rfl rfl (any_of HT_.out (by kernel_rfl)) (fun _ _ _ h => h) (Or.inl ⟨by rfl, ?_⟩) ?_ ?_
    rotate_left
    ·intro w'
     go_simp
     with_reducible rfl
    rotate_left
    ·simp only [Act.put, List.setIfInBounds_toArray, List.set_cons_zero, List.set_cons_succ, i64_w, i32_w]
     rfl
    refine pure_ (i := 3) (N := some 13) (v := ?_) (a' := ?_) #[true, false, false, true, false, false, false, false, false, false, false, false, false, false, false] rfl rfl (any_of HT_.out (by kernel_rfl)) (fun _ _ _ h => h) (Or.inl ⟨by rfl, ?_⟩) ?_ ?_
    rotate_left
    ·intro w'
     go_simp
     with_reducible rfl
    rotate_left
    ·simp only [Act.put, List.setIfInBounds_toArray, List.set_cons_zero, List.set_cons_succ, i64_w, i32_w]
     rfl
    refine pure_ (i := 7) (N := some 17) (v := ?_) (a' := ?_) #[true, false, false, true, false, false, false, true, false, false, false, false, false, false, false] rfl rfl (any_of HT_.out (by kernel_rfl)) (fun _ _ _ h => h) (Or.inl ⟨by rfl, ?_⟩) ?_ ?_
    rotate_left
    ·intro w'
     go_simp
     with_reducible rfl
    rotate_left
    ·simp only [Act.put, List.setIfInBounds_toArray, List.set_cons_zero, List.set_cons_succ, i64_w, i32_w]
     rfl
    refine inv_at [1, 2, 4, 5, 6, 8, 9, 10, 11, 12, 13, 14] (fun a0_ b a w' => ∃ (v428 : Value) (adz_v428 : Addr) (m5_ : Value), a = putSel a0_ b [(1, 11, .string t425), (2, 12, v428), (4, 14, .int .i64 t430), (5, 15, m5_), (6, 16, .string (rdOf ByteArray.empty y427 t430)), (8, 18, .int .i64 t433), (9, 19, .tuple #[.string t435, .bool false]), (10, 9, .tuple #[.string t435, .bool false]), (11, 20, .string t435), (12, 21, .bool false), (13, 4, .string t435), (14, 5, .bool false)] ∧ (b 1 = false → IsS73 w w' g424 t422 t423) ∧ (Below w.heap.size w w') ∧ (b 1 = true → b 4 = false → IsS73 w w' g424 t422 t426) ∧ (b 2 = true → Kd.R Kd.string 9 w' w.heap.size (fun _ => True) v428 y427) ∧ (b 2 = true → ∃ c_, (v428 : Value) = .slice (some adz_v428) y427.length c_) ∧ (b 4 = true → b 8 = false → IsS73 w w' g424 t422 t431) ∧ (b 8 = true → IsS73 w w' g424 t422 t434) ∧ (b 5 = true → (m5_ : Value) = .pointer (some (adz_v428.add (t430).toNat)))) HT_.out HW_.out (by kernel_rfl) (by kernel_rfl) ?_ ?_ ?_
    ·exact ⟨.bool false, ⟨0, 0, none⟩, .bool false, q88_, fun _ => HI424.out, HB.out, fun h_ => absurd h_ (by decide), fun h_ => absurd h_ (by decide), fun h_ => absurd h_ (by decide), fun h_ => absurd h_ (by decide), fun h_ => absurd h_ (by decide), fun h_ => absurd h_ (by decide)⟩
    ·skip
     clear HB HI424
     refine steps_cons ?_ ?_
     ·rintro b a w' ⟨v428, adz_v428, m5_, ha, Q_HI424, Q_HB, Q_HI424_e1, Q_HO429, Q_HA_HO429, Q_HI424_e4, Q_HI424_e8, Q_X5_⟩ hb_ hon hoff
      refine ⟨_, rfl, fun K hK => ?_⟩
      have e10 : a.tmps[10]? = some (.pointer (some ⟨g424, 0, none⟩)) := by rw [ha]; exact (putSel_off rfl).trans rfl
      replace ha := Aside0.mk ha
      have HI424 := Aside0.mk (Q_HI424 hb_)
      have HB := Aside0.mk Q_HB
      refine goes_ Tryd.func45 (by kernel_rfl) rfl #[.pointer (some ⟨g424, 0, none⟩)] (by rfl) rfl rfl (by first | (simp only [List.map_toArray, List.map_cons, List.map_nil, Act.eval, Array.getD_eq_getD_getElem?, Option.getD_some, e10]; done) | (simp only [List.map_toArray, List.map_cons, List.map_nil, Act.eval, Array.getD_eq_getD_getElem?, Option.getD_some, e10]; rfl)) ?_
      with_reducible refine (spec_l1Rd_rom.calls k g424 t422 t423 t425 t426 w _ ?side1 ?side2 A3.out).mono ?_
      (case side1 => exact q115_)
      (case side2 => exact q113_)
      rintro e w54 ⟨rfl, hi, hb, hk⟩
      refine ⟨_, rfl, ?_⟩
      have n0_ := Aside0.mk (hb)
      have n1_ := Aside0.mk (hi)
      have z_HO429 := fun (h0_ : b 2 = true) => (show Kd.R Kd.string 9 w54 w.heap.size (fun _ => True) v428 y427 from by first | exact (Kd.R_mono (Kd.R_keep (IsS73.apart (show IsS73 w _ g424 t422 t423 from by repeat (first | (with_reducible first | exact HI424.out | apply IsS73.alloc | apply IsS73.drewN | apply IsS73.drew | apply IsS73.set_1) | exact HI424.out)) q76_ (by decide)) hk (fun _ h => h.2)) (fun _ h => h.1)) | exact Kd.R_mono (Kd.R_mono (Kd.R_keep (IsS73.apart (show IsS73 w _ g424 t422 t423 from by repeat (first | (with_reducible first | exact HI424.out | apply IsS73.alloc | apply IsS73.drewN | apply IsS73.drew | apply IsS73.set_1) | exact HI424.out)) q76_ (by decide)) hk (fun _ h => h.2)) (fun _ h => h.1)) (fun _ h_ => by first | trivial | exact h_ | exact h_.1))
      clear HB
      clear HI424
      have HB := n0_
      have HI424 := n1_
      clear n0_ n1_
      (try clear hb)
      (try clear hb2)
      (try clear hk)
      (try clear hi)
      refine hK.out _ _ ⟨v428, adz_v428, m5_, q90_, fun h0_ => absurd ((up_self b 1).symm.trans h0_) (by decide), q38_, fun _ _ => q51_, z_HO429, Q_HA_HO429, fun h0_ _ => absurd ((hoff 4 (by kernel_rfl)).symm.trans h0_) (by decide), fun h0_ => absurd ((hoff 8 (by kernel_rfl)).symm.trans h0_) (by decide), fun h0_ => absurd ((hoff 5 (by kernel_rfl)).symm.trans h0_) (by decide)⟩
     refine steps_cons ?_ ?_
     ·rintro b a w' ⟨v428, adz_v428, m5_, ha, Q_HI424, Q_HB, Q_HI424_e1, Q_HO429, Q_HA_HO429, Q_HI424_e4, Q_HI424_e8, Q_X5_⟩ hb_ hon hoff
      refine ⟨_, rfl, fun K hK => ?_⟩
      replace ha := Aside0.mk ha
      have HB := Aside0.mk Q_HB
      refine Kd.R_lit_step Kd.string _ 9 ?hg (N := 12) ?hd (xs := ([(⟨#[]⟩ : ByteArray), (⟨#[71, 65, 77, 69]⟩ : ByteArray)] : List ByteArray)) (inner := [.string (⟨#[]⟩ : ByteArray), .string (⟨#[71, 65, 77, 69]⟩ : ByteArray)]) (ok := fun _ => True) (okp := fun _ => True) ?hr ?hp (fun _ hk => hk) trivial (Below.refl _ _) (Nat.le_refl _) (by simp) ?_; (case hd => rfl); (case hg => rfl); (case hr => exact q118_); (case hp => exact q106_)
      intro v428 w54 ho55 hb hg_ hnew_
      clear hg_ hnew_
      (first | rw [← Ny427.out] at ho55 | (simp only [Int.reduceToNat] at ho55; rw [← Ny427.out] at ho55))
      have n0_ := Aside0.mk (Kd.R_lower ho55 (below_size q56_))
      have n2_ := Aside0.mk (below_step q56_ hb)
      have z_HI424 := fun (h0_ : b 1 = false) => (show IsS73 w w54 g424 t422 t423 from by first | exact (IsS73.below q49_ hb))
      have z_HI424_e1 := fun (h0_ : b 1 = true) (h1_ : b 4 = false) => (show IsS73 w w54 g424 t422 t426 from by first | exact (IsS73.below q36_ hb))
      have z_HI424_e4 := fun (h0_ : b 4 = true) (h1_ : b 8 = false) => (show IsS73 w w54 g424 t422 t431 from by first | exact (IsS73.below q37_ hb))
      have z_HI424_e8 := fun (h0_ : b 8 = true) => (show IsS73 w w54 g424 t422 t434 from by first | exact (IsS73.below q41_ hb))
      clear HB
      have HO429 := n0_
      have HB := n2_
      clear n0_ n2_
      clear hb ho55
      obtain ⟨Ao56, co56, eo56⟩ := Kd.R_slice HO429.out
      subst eo56
      obtain ⟨ado56, fo56, _⟩ := Kd.at_string (Kd.R_reads' HO429.out).2.2 0 (by decide) (by rw [Ny427.out]; simp)
      cases fo56
      refine hK.out _ _ ⟨.slice (some ado56) y427.length co56, ado56, m5_, q91_, z_HI424, q56_, z_HI424_e1, fun _ => q81_, fun _ => ⟨_, rfl⟩, z_HI424_e4, z_HI424_e8, fun h0_ => absurd ((hoff 5 (by kernel_rfl)).symm.trans h0_) (by decide)⟩
     refine steps_cons ?_ ?_
     ·rintro b a w' ⟨v428, adz_v428, m5_, ha, Q_HI424, Q_HB, Q_HI424_e1, Q_HO429, Q_HA_HO429, Q_HI424_e4, Q_HI424_e8, Q_X5_⟩ hb_ hon hoff
      refine ⟨_, rfl, fun K hK => ?_⟩
      have e13 : a.tmps[13]? = some (.pointer (some ⟨g424, 0, none⟩)) := by rw [ha]; exact (putSel_off rfl).trans rfl
      replace ha := Aside0.mk ha
      have HB := Aside0.mk Q_HB
      have HI424 := Aside0.mk (Q_HI424_e1 (hon 1 (by kernel_rfl)) hb_)
      refine goes_ Tryd.func40 (by kernel_rfl) rfl #[.pointer (some ⟨g424, 0, none⟩), .int .i64 2] (by rfl) rfl rfl (by first | (simp only [List.map_toArray, List.map_cons, List.map_nil, Act.eval, Array.getD_eq_getD_getElem?, Option.getD_some, e13]; done) | (simp only [List.map_toArray, List.map_cons, List.map_nil, Act.eval, Array.getD_eq_getD_getElem?, Option.getD_some, e13]; rfl)) ?_
      with_reducible refine (spec_l1Rd_below.calls g424 t422 t426 2 t430 t431 w _ ?side1 ?side2 A4.out).mono ?_
      (case side1 => exact q115_)
      (case side2 => exact q113_)
      rintro e w56 ⟨rfl, hi, hb, hk⟩
      refine ⟨_, rfl, ?_⟩
      have n0_ := Aside0.mk (hb)
      have n1_ := Aside0.mk (hi)
      have z_HO429 := fun (h0_ : b 2 = true) => (show Kd.R Kd.string 9 w56 w.heap.size (fun _ => True) v428 y427 from by first | exact (Kd.R_mono (Kd.R_keep (IsS73.apart (show IsS73 w _ g424 t422 t426 from by repeat (first | (with_reducible first | exact HI424.out | apply IsS73.alloc | apply IsS73.drewN | apply IsS73.drew | apply IsS73.set_1) | exact HI424.out)) q76_ (by decide)) hk (fun _ h => h.2)) (fun _ h => h.1)) | exact Kd.R_mono (Kd.R_mono (Kd.R_keep (IsS73.apart (show IsS73 w _ g424 t422 t426 from by repeat (first | (with_reducible first | exact HI424.out | apply IsS73.alloc | apply IsS73.drewN | apply IsS73.drew | apply IsS73.set_1) | exact HI424.out)) q76_ (by decide)) hk (fun _ h => h.2)) (fun _ h => h.1)) (fun _ h_ => by first | trivial | exact h_ | exact h_.1))
      clear HB
      clear HI424
      have HB := n0_
      have HI424 := n1_
      clear n0_ n1_
      (try clear hb)
      (try clear hb2)
      (try clear hk)
      (try clear hi)
      refine hK.out _ _ ⟨v428, adz_v428, m5_, q92_, fun h0_ => absurd ((hon 1 (by kernel_rfl)).symm.trans h0_) (by decide), q38_, fun _ h1_ => absurd ((up_self b 4).symm.trans h1_) (by decide), z_HO429, Q_HA_HO429, fun _ _ => q51_, fun h0_ => absurd ((hoff 8 (by kernel_rfl)).symm.trans h0_) (by decide), fun h0_ => absurd ((hoff 5 (by kernel_rfl)).symm.trans h0_) (by decide)⟩
     refine steps_cons ?_ ?_
     ·rintro b a w' ⟨v428, adz_v428, m5_, ha, Q_HI424, Q_HB, Q_HI424_e1, Q_HO429, Q_HA_HO429, Q_HI424_e4, Q_HI424_e8, Q_X5_⟩ hb_ hon hoff
      refine ⟨_, rfl, fun K hK => ?_⟩
      have e12 : a.tmps[12]? = some (v428) := by rw [ha]; exact putSel_on (e := (2, 12, v428)) 1 rfl rfl (hon 2 (by kernel_rfl)) rfl
      have e14 : a.tmps[14]? = some (.int .i64 t430) := by rw [ha]; exact putSel_on (e := (4, 14, .int .i64 t430)) 2 rfl rfl (hon 4 (by kernel_rfl)) rfl
      replace ha := Aside0.mk ha
      have HB := Aside0.mk Q_HB
      have HO429 := Aside0.mk (Q_HO429 (hon 2 (by kernel_rfl)))
      have HA_HO429 := Aside0.mk (Q_HA_HO429 (hon 2 (by kernel_rfl)))
      obtain ⟨c_, hv_⟩ := HA_HO429.out
      rw [hv_] at e12
      refine value_ (w1 := w') (v := .pointer (some (adz_v428.add (t430).toNat))) (by rfl) rfl ?_ ?_
      ·go_simp
       (try simp only [i64_w])
       try rfl
      refine hK.out _ _ ⟨v428, adz_v428, (.pointer (some (adz_v428.add (t430).toNat))), q93_, fun h0_ => absurd ((hon 1 (by kernel_rfl)).symm.trans h0_) (by decide), Q_HB, fun _ h1_ => absurd ((hon 4 (by kernel_rfl)).symm.trans h1_) (by decide), Q_HO429, Q_HA_HO429, Q_HI424_e4, Q_HI424_e8, fun _ => rfl⟩
     refine steps_cons ?_ ?_
     ·rintro b a w' ⟨v428, adz_v428, m5_, ha, Q_HI424, Q_HB, Q_HI424_e1, Q_HO429, Q_HA_HO429, Q_HI424_e4, Q_HI424_e8, Q_X5_⟩ hb_ hon hoff
      refine ⟨_, rfl, fun K hK => ?_⟩
      have e15 : a.tmps[15]? = some (m5_) := by rw [ha]; exact putSel_on (e := (5, 15, m5_)) 3 rfl rfl (hon 5 (by kernel_rfl)) rfl
      rw [Q_X5_ (hon 5 (by kernel_rfl))] at e15
      replace ha := Aside0.mk ha
      have HB := Aside0.mk Q_HB
      have HO429 := Aside0.mk (Q_HO429 (hon 2 (by kernel_rfl)))
      have HA_HO429 := Aside0.mk (Q_HA_HO429 (hon 2 (by kernel_rfl)))
      obtain ⟨c_, hv_⟩ := HA_HO429.out
      have hF_ := HO429.out
      rw [hv_] at hF_
      obtain ⟨ad_, ea_, hx_⟩ := Kd.at_string (Kd.R_reads' hF_).2.2 t430 (of_eq_true pi432) (of_eq_true qi432)
      cases ea_
      refine value_ (w1 := w') (v := .string (rdOf ByteArray.empty y427 t430)) (by rfl) rfl ?_ ?_
      ·go_simp
       (try simp only [i64_w])
       try rfl
      refine hK.out _ _ ⟨v428, adz_v428, m5_, q94_, fun h0_ => absurd ((hon 1 (by kernel_rfl)).symm.trans h0_) (by decide), Q_HB, fun _ h1_ => absurd ((hon 4 (by kernel_rfl)).symm.trans h1_) (by decide), Q_HO429, Q_HA_HO429, Q_HI424_e4, Q_HI424_e8, Q_X5_⟩
     refine steps_cons ?_ ?_
     ·rintro b a w' ⟨v428, adz_v428, m5_, ha, Q_HI424, Q_HB, Q_HI424_e1, Q_HO429, Q_HA_HO429, Q_HI424_e4, Q_HI424_e8, Q_X5_⟩ hb_ hon hoff
      refine ⟨_, rfl, fun K hK => ?_⟩
      have e17 : a.tmps[17]? = some (.pointer (some ⟨g424, 0, none⟩)) := by rw [ha]; exact (putSel_off rfl).trans rfl
      replace ha := Aside0.mk ha
      have HB := Aside0.mk Q_HB
      have HI424 := Aside0.mk (Q_HI424_e4 (hon 4 (by kernel_rfl)) hb_)
      refine goes_ Tryd.func40 (by kernel_rfl) rfl #[.pointer (some ⟨g424, 0, none⟩), .int .i64 3] (by rfl) rfl rfl (by first | (simp only [List.map_toArray, List.map_cons, List.map_nil, Act.eval, Array.getD_eq_getD_getElem?, Option.getD_some, e17]; done) | (simp only [List.map_toArray, List.map_cons, List.map_nil, Act.eval, Array.getD_eq_getD_getElem?, Option.getD_some, e17]; rfl)) ?_
      with_reducible refine (spec_l1Rd_below.calls g424 t422 t431 3 t433 t434 w _ ?side1 ?side2 A7.out).mono ?_
      (case side1 => exact q115_)
      (case side2 => exact q113_)
      rintro e w57 ⟨rfl, hi, hb, hk⟩
      refine ⟨_, rfl, ?_⟩
      have n0_ := Aside0.mk (hb)
      have n1_ := Aside0.mk (hi)
      have z_HO429 := fun (h0_ : b 2 = true) => (show Kd.R Kd.string 9 w57 w.heap.size (fun _ => True) v428 y427 from by first | exact (Kd.R_mono (Kd.R_keep (IsS73.apart (show IsS73 w _ g424 t422 t431 from by repeat (first | (with_reducible first | exact HI424.out | apply IsS73.alloc | apply IsS73.drewN | apply IsS73.drew | apply IsS73.set_1) | exact HI424.out)) q76_ (by decide)) hk (fun _ h => h.2)) (fun _ h => h.1)) | exact Kd.R_mono (Kd.R_mono (Kd.R_keep (IsS73.apart (show IsS73 w _ g424 t422 t431 from by repeat (first | (with_reducible first | exact HI424.out | apply IsS73.alloc | apply IsS73.drewN | apply IsS73.drew | apply IsS73.set_1) | exact HI424.out)) q76_ (by decide)) hk (fun _ h => h.2)) (fun _ h => h.1)) (fun _ h_ => by first | trivial | exact h_ | exact h_.1))
      clear HB
      clear HI424
      have HB := n0_
      have HI424 := n1_
      clear n0_ n1_
      (try clear hb)
      (try clear hb2)
      (try clear hk)
      (try clear hi)
      refine hK.out _ _ ⟨v428, adz_v428, m5_, q95_, fun h0_ => absurd ((hon 1 (by kernel_rfl)).symm.trans h0_) (by decide), q38_, fun _ h1_ => absurd ((hon 4 (by kernel_rfl)).symm.trans h1_) (by decide), z_HO429, Q_HA_HO429, fun _ h1_ => absurd ((up_self b 8).symm.trans h1_) (by decide), fun _ => q51_, Q_X5_⟩
     refine steps_cons ?_ ?_
     ·rintro b a w' ⟨v428, adz_v428, m5_, ha, Q_HI424, Q_HB, Q_HI424_e1, Q_HO429, Q_HA_HO429, Q_HI424_e4, Q_HI424_e8, Q_X5_⟩ hb_ hon hoff
      refine ⟨_, rfl, fun K hK => ?_⟩
      have e11 : a.tmps[11]? = some (.string t425) := by rw [ha]; exact putSel_on (e := (1, 11, .string t425)) 0 rfl rfl (hon 1 (by kernel_rfl)) rfl
      have e16 : a.tmps[16]? = some (.string (rdOf ByteArray.empty y427 t430)) := by rw [ha]; exact putSel_on (e := (6, 16, .string (rdOf ByteArray.empty y427 t430))) 4 rfl rfl (hon 6 (by kernel_rfl)) rfl
      have e18 : a.tmps[18]? = some (.int .i64 t433) := by rw [ha]; exact putSel_on (e := (8, 18, .int .i64 t433)) 5 rfl rfl (hon 8 (by kernel_rfl)) rfl
      replace ha := Aside0.mk ha
      have HB := Aside0.mk Q_HB
      have HO429 := Aside0.mk (Q_HO429 (hon 2 (by kernel_rfl)))
      have HA_HO429 := Aside0.mk (Q_HA_HO429 (hon 2 (by kernel_rfl)))
      have HI424 := Aside0.mk (Q_HI424_e8 (hon 8 (by kernel_rfl)))
      obtain ⟨co61, eo61⟩ := HA_HO429.out
      clear HA_HO429
      subst eo61
      refine goes_ Tryd.func28 (by kernel_rfl) rfl #[.string t425, .string (rdOf ByteArray.empty y427 t430), .int .i64 t433] (by rfl) rfl rfl (by first | (simp only [List.map_toArray, List.map_cons, List.map_nil, Act.eval, Array.getD_eq_getD_getElem?, Option.getD_some, e11, e16, e18]; done) | (simp only [List.map_toArray, List.map_cons, List.map_nil, Act.eval, Array.getD_eq_getD_getElem?, Option.getD_some, e11, e16, e18]; rfl)) ?_
      with_reducible refine (spec_Fixed.calls k t425 (rdOf ByteArray.empty y427 t430) t433 t435 false _ A8.out).mono ?_
      rintro e w62 ⟨rfl, hb⟩
      refine ⟨_, rfl, ?_⟩
      have n0_ := Aside0.mk (Kd.R_below q81_ hb)
      have n1_ := Aside0.mk (IsS73.below q51_ hb)
      have n2_ := Aside0.mk (below_step q38_ hb)
      clear HO429
      clear HI424
      clear HB
      have HO429 := n0_
      have HI424 := n1_
      have HB := n2_
      clear n0_ n1_ n2_
      (try clear hb)
      (try clear hb2)
      (try clear hk)
      (try clear hi)
      refine hK.out _ _ ⟨.slice (some adz_v428) y427.length co61, adz_v428, m5_, q96_, fun h0_ => absurd ((hon 1 (by kernel_rfl)).symm.trans h0_) (by decide), q38_, fun _ h1_ => absurd ((hon 4 (by kernel_rfl)).symm.trans h1_) (by decide), fun _ => q81_, fun _ => ⟨_, rfl⟩, fun _ h1_ => absurd ((hon 8 (by kernel_rfl)).symm.trans h1_) (by decide), fun _ => q51_, Q_X5_⟩
     refine steps_cons ?_ ?_
     ·rintro b a w' ⟨v428, adz_v428, m5_, ha, Q_HI424, Q_HB, Q_HI424_e1, Q_HO429, Q_HA_HO429, Q_HI424_e4, Q_HI424_e8, Q_X5_⟩ hb_ hon hoff
      refine ⟨_, rfl, fun K hK => ?_⟩
      have e19 : a.tmps[19]? = some (.tuple #[.string t435, .bool false]) := by rw [ha]; exact putSel_on (e := (9, 19, .tuple #[.string t435, .bool false])) 6 rfl rfl (hon 9 (by kernel_rfl)) rfl
      replace ha := Aside0.mk ha
      have HB := Aside0.mk Q_HB
      have HO429 := Aside0.mk (Q_HO429 (hon 2 (by kernel_rfl)))
      have HA_HO429 := Aside0.mk (Q_HA_HO429 (hon 2 (by kernel_rfl)))
      have HI424 := Aside0.mk (Q_HI424_e8 (hon 8 (by kernel_rfl)))
      refine value_ (w1 := w') (v := .tuple #[.string t435, .bool false]) (by rfl) rfl ?_ ?_
      ·go_simp
       (try simp only [i64_w])
       try rfl
      refine hK.out _ _ ⟨v428, adz_v428, m5_, q97_, fun h0_ => absurd ((hon 1 (by kernel_rfl)).symm.trans h0_) (by decide), Q_HB, fun _ h1_ => absurd ((hon 4 (by kernel_rfl)).symm.trans h1_) (by decide), Q_HO429, Q_HA_HO429, fun _ h1_ => absurd ((hon 8 (by kernel_rfl)).symm.trans h1_) (by decide), Q_HI424_e8, Q_X5_⟩
     refine steps_cons ?_ ?_
     ·rintro b a w' ⟨v428, adz_v428, m5_, ha, Q_HI424, Q_HB, Q_HI424_e1, Q_HO429, Q_HA_HO429, Q_HI424_e4, Q_HI424_e8, Q_X5_⟩ hb_ hon hoff
      refine ⟨_, rfl, fun K hK => ?_⟩
      have e9 : a.tmps[9]? = some (.tuple #[.string t435, .bool false]) := by rw [ha]; exact putSel_on (e := (10, 9, .tuple #[.string t435, .bool false])) 7 rfl rfl (hon 10 (by kernel_rfl)) rfl
      replace ha := Aside0.mk ha
      have HB := Aside0.mk Q_HB
      have HO429 := Aside0.mk (Q_HO429 (hon 2 (by kernel_rfl)))
      have HA_HO429 := Aside0.mk (Q_HA_HO429 (hon 2 (by kernel_rfl)))
      have HI424 := Aside0.mk (Q_HI424_e8 (hon 8 (by kernel_rfl)))
      refine value_ (w1 := w') (v := .string t435) (by rfl) rfl ?_ ?_
      ·go_simp
       (try simp only [i64_w])
       try rfl
      refine hK.out _ _ ⟨v428, adz_v428, m5_, q98_, fun h0_ => absurd ((hon 1 (by kernel_rfl)).symm.trans h0_) (by decide), Q_HB, fun _ h1_ => absurd ((hon 4 (by kernel_rfl)).symm.trans h1_) (by decide), Q_HO429, Q_HA_HO429, fun _ h1_ => absurd ((hon 8 (by kernel_rfl)).symm.trans h1_) (by decide), Q_HI424_e8, Q_X5_⟩
     refine steps_cons ?_ ?_
     ·rintro b a w' ⟨v428, adz_v428, m5_, ha, Q_HI424, Q_HB, Q_HI424_e1, Q_HO429, Q_HA_HO429, Q_HI424_e4, Q_HI424_e8, Q_X5_⟩ hb_ hon hoff
      refine ⟨_, rfl, fun K hK => ?_⟩
      have e9 : a.tmps[9]? = some (.tuple #[.string t435, .bool false]) := by rw [ha]; exact putSel_on (e := (10, 9, .tuple #[.string t435, .bool false])) 7 rfl rfl (hon 10 (by kernel_rfl)) rfl
      replace ha := Aside0.mk ha
      have HB := Aside0.mk Q_HB
      have HO429 := Aside0.mk (Q_HO429 (hon 2 (by kernel_rfl)))
      have HA_HO429 := Aside0.mk (Q_HA_HO429 (hon 2 (by kernel_rfl)))
      have HI424 := Aside0.mk (Q_HI424_e8 (hon 8 (by kernel_rfl)))
      refine value_ (w1 := w') (v := .bool false) (by rfl) rfl ?_ ?_
      ·go_simp
       (try simp only [i64_w])
       try rfl
      refine hK.out _ _ ⟨v428, adz_v428, m5_, q99_, fun h0_ => absurd ((hon 1 (by kernel_rfl)).symm.trans h0_) (by decide), Q_HB, fun _ h1_ => absurd ((hon 4 (by kernel_rfl)).symm.trans h1_) (by decide), Q_HO429, Q_HA_HO429, fun _ h1_ => absurd ((hon 8 (by kernel_rfl)).symm.trans h1_) (by decide), Q_HI424_e8, Q_X5_⟩
     refine steps_cons ?_ ?_
     ·rintro b a w' ⟨v428, adz_v428, m5_, ha, Q_HI424, Q_HB, Q_HI424_e1, Q_HO429, Q_HA_HO429, Q_HI424_e4, Q_HI424_e8, Q_X5_⟩ hb_ hon hoff
      refine ⟨_, rfl, fun K hK => ?_⟩
      have e20 : a.tmps[20]? = some (.string t435) := by rw [ha]; exact putSel_on (e := (11, 20, .string t435)) 8 rfl rfl (hon 11 (by kernel_rfl)) rfl
      replace ha := Aside0.mk ha
      have HB := Aside0.mk Q_HB
      have HO429 := Aside0.mk (Q_HO429 (hon 2 (by kernel_rfl)))
      have HA_HO429 := Aside0.mk (Q_HA_HO429 (hon 2 (by kernel_rfl)))
      have HI424 := Aside0.mk (Q_HI424_e8 (hon 8 (by kernel_rfl)))
      refine value_ (w1 := w') (v := .string t435) (by rfl) rfl ?_ ?_
      ·go_simp
       (try simp only [i64_w])
       try rfl
      refine hK.out _ _ ⟨v428, adz_v428, m5_, q89_, fun h0_ => absurd ((hon 1 (by kernel_rfl)).symm.trans h0_) (by decide), Q_HB, fun _ h1_ => absurd ((hon 4 (by kernel_rfl)).symm.trans h1_) (by decide), Q_HO429, Q_HA_HO429, fun _ h1_ => absurd ((hon 8 (by kernel_rfl)).symm.trans h1_) (by decide), Q_HI424_e8, Q_X5_⟩
     refine steps_cons ?_ ?_
     ·rintro b a w' ⟨v428, adz_v428, m5_, ha, Q_HI424, Q_HB, Q_HI424_e1, Q_HO429, Q_HA_HO429, Q_HI424_e4, Q_HI424_e8, Q_X5_⟩ hb_ hon hoff
      refine ⟨_, rfl, fun K hK => ?_⟩
      have e21 : a.tmps[21]? = some (.bool false) := by rw [ha]; exact putSel_on (e := (12, 21, .bool false)) 9 rfl rfl (hon 12 (by kernel_rfl)) rfl
      replace ha := Aside0.mk ha
      have HB := Aside0.mk Q_HB
      have HO429 := Aside0.mk (Q_HO429 (hon 2 (by kernel_rfl)))
      have HA_HO429 := Aside0.mk (Q_HA_HO429 (hon 2 (by kernel_rfl)))
      have HI424 := Aside0.mk (Q_HI424_e8 (hon 8 (by kernel_rfl)))
      refine value_ (w1 := w') (v := .bool false) (by rfl) rfl ?_ ?_
      ·go_simp
       (try simp only [i64_w])
       try rfl
      refine hK.out _ _ ⟨v428, adz_v428, m5_, (by rw [ha.out]; exact putSel_upk 11 hb_ rfl rfl rfl), fun h0_ => absurd ((hon 1 (by kernel_rfl)).symm.trans h0_) (by decide), Q_HB, fun _ h1_ => absurd ((hon 4 (by kernel_rfl)).symm.trans h1_) (by decide), Q_HO429, Q_HA_HO429, fun _ h1_ => absurd ((hon 8 (by kernel_rfl)).symm.trans h1_) (by decide), Q_HI424_e8, Q_X5_⟩
     exact steps_nil
    rintro b a w61 hall ⟨v428, adz_v428, m5_, ha, Q_HI424, Q_HB, Q_HI424_e1, Q_HO429, Q_HA_HO429, Q_HI424_e4, Q_HI424_e8, Q_X5_⟩
    clear HB HI424
    have hb1_ := hall 1 (by kernel_rfl)
    have hb2_ := hall 2 (by kernel_rfl)
    have hb4_ := hall 4 (by kernel_rfl)
    have hb5_ := hall 5 (by kernel_rfl)
    have hb6_ := hall 6 (by kernel_rfl)
    have hb8_ := hall 8 (by kernel_rfl)
    have hb9_ := hall 9 (by kernel_rfl)
    have hb10_ := hall 10 (by kernel_rfl)
    have hb11_ := hall 11 (by kernel_rfl)
    have hb12_ := hall 12 (by kernel_rfl)
    have hb13_ := hall 13 (by kernel_rfl)
    have hb14_ := hall 14 (by kernel_rfl)
    subst ha
    obtain rfl := Q_X5_ hb5_
    simp only [putSel, hb1_, hb2_, hb4_, hb5_, hb6_, hb8_, hb9_, hb10_, hb11_, hb12_, hb13_, hb14_, if_true, Act.put, List.setIfInBounds_toArray, List.set_cons_zero, List.set_cons_succ]
    clear Q_HI424
    have HB := Aside0.mk Q_HB
    clear Q_HB
    clear Q_HI424_e1
    have HO429 := Aside0.mk (Q_HO429 hb2_)
    clear Q_HO429
    have HA_HO429 := Aside0.mk (Q_HA_HO429 hb2_)
    clear Q_HA_HO429
    clear Q_HI424_e4
    have HI424 := Aside0.mk (Q_HI424_e8 hb8_)
    clear Q_HI424_e8
    clear hall hb1_ hb2_ hb4_ hb5_ hb6_ hb8_ hb9_ hb10_ hb11_ hb12_ hb13_ hb14_
    obtain ⟨co62, eo62⟩ := HA_HO429.out
    clear HA_HO429
    subst eo62
    try go_wp2_with (first | ((with_reducible refine gate_callee (f := 45) rfl ?_); refine goesL_ (some 25) rfl rfl Tryd.func45 (by kernel_rfl) rfl #[.pointer (some ⟨g424, 0, none⟩)] rfl q55_ ?_; (with_reducible refine (spec_l1Rd_rom.calls k g424 t422 t434 t437 t438 w _ ?side1 ?side2 A51.out).mono ?_); (case side1 => exact q115_); (case side2 => exact q113_); rintro e w63 ⟨rfl, hi, hb, hk⟩; refine ⟨_, rfl, ?_⟩; have n0_ := Aside0.mk (Kd.R_mono (Kd.R_keep (IsS73.apart (show IsS73 w _ g424 t422 t434 from by repeat (first | (with_reducible first | exact HI424.out | apply IsS73.alloc | apply IsS73.drewN | apply IsS73.drew | apply IsS73.set_1) | exact HI424.out)) q81_ (by decide)) hk (fun _ h => h.2)) (fun _ h => h.1)); have n1_ := Aside0.mk (hb); have n2_ := Aside0.mk (hi); clear HO429; clear HB; clear HI424; have HO429 := n0_; have HB := n1_; have HI424 := n2_; clear n0_ n1_ n2_; (try clear hb); (try clear hk); (try clear hi)))
    go_ret
    exact ⟨q60_, q38_⟩
  ·rw [if_neg c6] at H
   exact absurd H (by simp)
 ·rw [if_neg c5] at H
  exact absurd H (by simp)
end Go.Proofs.YtcohcndliaaacaaDoor.QFnHeaders
