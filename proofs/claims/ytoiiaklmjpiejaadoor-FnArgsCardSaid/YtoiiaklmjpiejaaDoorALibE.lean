import Derived.Test.YtoiiaklmjpiejaaDoorAShelf
import Derived.Test.YtoiiaklmjpiejaaDoorAWAll
import Derived.Test.YtoiiaklmjpiejaaDoorALibW
namespace Go.Proofs.YtoiiaklmjpiejaaDoor.LibE
open Go.RowKit Go.Proofs.YtoiiaklmjpiejaaDoorW.PrintWords
set_option linter.unusedVariables false
def strings_IndexByte.f (a0:ByteArray) (a1:Int):Option Int:=some (Lib.indexByte a0.data.toList a1.toNat.toUInt8)
def strings_Repeat.f (a0:ByteArray) (a1:Int):Option ByteArray:=if 0 ≤ a1 then (if a1 ≤ 9223372036854775807 then (if a0.size * a1.toNat ≤ 140737488355328 then some ⟨(Lib.repeatL a0.data.toList a1.toNat).toArray⟩ else none) else none) else none
def strings_Split.f (a0:ByteArray) (a1:ByteArray):Option (List ByteArray):=if a0.size < 4294967281 then (if 1 ≤ a1.size then some (Lib.splitB a1 0 (Lib.countB a0 a1) a0) else none) else none
theorem strs_made (w:World) (T:Nat) (xs:List ByteArray) (hm:xs.length ≤ 9223372036854775807) :
  Kd.R Kd.string T (w.alloc (.cells (xs.map Value.string).toArray T)) w.heap.size (fun _ => True) (.slice (some ⟨w.heap.size,0,none⟩) xs.length xs.length) xs:=by
 refine ⟨fun _ _ => trivial,OwnRow.lit w w.heap.size (inner:=xs.map Value.string) (size:=1) ⟨by simp,fun j p hj => ?_⟩ (Nat.le_refl _) hm⟩
 show _ = [Value.string p]
 rw [Nat.mul_one]
 apply List.ext_getElem?
 intro i
 rcases i with _ | i
 ·simp [List.getElem?_drop,hj]
 ·simp [List.getElem?_take]
theorem strings_Split.calls (a0:ByteArray) (a1:ByteArray) (r:List ByteArray) (w:World) (h:strings_Split.f a0 a1 = some r) (hG:Go.Proofs.YtoiiaklmjpiejaaDoor.LibW.GL w:=by first | exact hG | exact hG.below (by repeat (first | (with_reducible first | exact HB.out | apply Go.Proofs.YtoiiaklmjpiejaaDoorW.PrintWords.below_alloc | apply Go.Proofs.YtoiiaklmjpiejaaDoorW.PrintWords.pw_below_drewN | apply Go.Proofs.YtoiiaklmjpiejaaDoorW.PrintWords.below_drew1 | refine Go.Proofs.YtoiiaklmjpiejaaDoorW.PrintWords.below_set ?_ (Go.Proofs.YtoiiaklmjpiejaaDoorW.PrintWords.Aside0.out (by assumption))) | exact HB.out)) | exact hG.drewN _) :
  Calls Tryd.prog 32 #[.string a0,.string a1] w fun e w' => ∃ v0_:Value,e = .returned (v0_) ∧ Kd.R Kd.string 9 w' w.heap.size (fun _ => True) v0_ r ∧ Below w.heap.size w w':=by
 unfold strings_Split.f at h
 by_cases h0:a0.size < 4294967281
 rotate_left
 ·rw [if_neg h0] at h;cases h
 by_cases h1:1 ≤ a1.size
 rotate_left
 ·rw [if_pos h0,if_neg h1] at h;cases h
 rw [if_pos h0,if_pos h1] at h
 obtain rfl:=Option.some.inj h
 obtain ⟨m,hm⟩:=hG.mx
 have hl:=Lib.splitB_all a1 h1 0 _ a0 rfl
 have hle:=Lib.countB_le a1 h1 a0.size a0 (Nat.le_refl _)
 refine (Go.Proofs.Tryd.strings_Split a0 a1 m w h0 hm h1).mono fun e w' ⟨he,hw⟩ => ⟨_,he,?_,?_⟩
 ·rw [hw,← hl]
  exact strs_made w _ _ (by rw [hl];omega)
 ·rw [hw]
  exact below_alloc (Below.refl _ _) _
def strings_Cut.f (a0:ByteArray) (a1:ByteArray):Option (ByteArray × ByteArray × Bool):=if a0.size < 4294967281 then some (⟨(Lib.cut a0.data.toList a1.data.toList).1.toArray⟩,⟨(Lib.cut a0.data.toList a1.data.toList).2.1.toArray⟩,(Lib.cut a0.data.toList a1.data.toList).2.2) else none
def strings_Replace.f (a0:ByteArray) (a1:ByteArray) (a2:ByteArray) (a3:Int):Option ByteArray:=if a0.size < 4294967281 then (if 1 ≤ a1.size then (if a0.size + Lib.countB a0 a1 * a2.size ≤ 140737488355328 then some ⟨(Lib.replace a0.data.toList a1.data.toList a2.data.toList a3).toArray⟩ else none) else none) else none
def strings_ToUpper.f (a0:ByteArray):Option ByteArray:=if a0.size ≤ 140737488355328 then (if a0.data.toList.all (fun b => decide (b.toNat < 128)) = true then some ⟨(Lib.toUpperA a0.data.toList).toArray⟩ else none) else none
def strings_Join.f (l0:List ByteArray) (a1:ByteArray):Option ByteArray:=if l0.length ≤ 140737488355328 then (if (Lib.join (l0.map (·.data.toList)) a1.data.toList).length ≤ 140737488355328 then some ⟨(Lib.join (l0.map (·.data.toList)) a1.data.toList).toArray⟩ else none) else none
def strings_ReplaceAll.f (a0:ByteArray) (a1:ByteArray) (a2:ByteArray):Option ByteArray:=if a0.size < 4294967281 then (if 1 ≤ a1.size then (if a0.size + Lib.countB a0 a1 * a2.size ≤ 140737488355328 then some ⟨(Lib.replaceAll a0.data.toList a1.data.toList a2.data.toList).toArray⟩ else none) else none) else none
def strings_Trim.f (a0:ByteArray) (a1:ByteArray):Option ByteArray:=if h:a1.size = 1 then (if (a1[0]'(by omega)).toNat < 128 then (if a0.size ≤ 9223372036854775807 then some ⟨(Lib.trimB a0.data.toList (a1[0]'(by omega))).toArray⟩ else none) else none) else none
end Go.Proofs.YtoiiaklmjpiejaaDoor.LibE
