import Derived.Test.YtoiiaklmjpiejaaDoorBShelf
import Derived.Test.YtoiiaklmjpiejaaDoorBWAll
import Derived.Test.YtoiiaklmjpiejaaDoorBLibW
namespace Go.Proofs.YtoiiaklmjpiejaaDoor.LibE
open Go.RowKit Go.Proofs.YtoiiaklmjpiejaaDoorW.PrintWords
set_option linter.unusedVariables false
def strings_IndexByte.f (a0:ByteArray) (a1:Int):Option Int:=some (Lib.indexByte a0.data.toList a1.toNat.toUInt8)
def strings_Repeat.f (a0:ByteArray) (a1:Int):Option ByteArray:=if 0 ≤ a1 then (if a1 ≤ 9223372036854775807 then (if a0.size * a1.toNat ≤ 140737488355328 then some ⟨(Lib.repeatL a0.data.toList a1.toNat).toArray⟩ else none) else none) else none
def strings_Split.f (a0:ByteArray) (a1:ByteArray):Option (List ByteArray):=if a0.size < 4294967281 then (if 1 ≤ a1.size then some (Lib.splitB a1 0 (Lib.countB a0 a1) a0) else none) else none
def strings_Cut.f (a0:ByteArray) (a1:ByteArray):Option (ByteArray × ByteArray × Bool):=if a0.size < 4294967281 then some (⟨(Lib.cut a0.data.toList a1.data.toList).1.toArray⟩,⟨(Lib.cut a0.data.toList a1.data.toList).2.1.toArray⟩,(Lib.cut a0.data.toList a1.data.toList).2.2) else none
theorem strings_Cut.calls (a0:ByteArray) (a1:ByteArray) (r1:ByteArray) (r2:ByteArray) (r3:Bool) (w:World) (h:strings_Cut.f a0 a1 = some (r1,r2,r3)) (hG:Go.Proofs.YtoiiaklmjpiejaaDoor.LibW.GL w:=by first | exact hG | exact hG.below (by repeat (first | (with_reducible first | exact HB.out | apply Go.Proofs.YtoiiaklmjpiejaaDoorW.PrintWords.below_alloc | apply Go.Proofs.YtoiiaklmjpiejaaDoorW.PrintWords.pw_below_drewN | apply Go.Proofs.YtoiiaklmjpiejaaDoorW.PrintWords.below_drew1 | refine Go.Proofs.YtoiiaklmjpiejaaDoorW.PrintWords.below_set ?_ (Go.Proofs.YtoiiaklmjpiejaaDoorW.PrintWords.Aside0.out (by assumption))) | exact HB.out)) | exact hG.drewN _) :
  Calls Tryd.prog 42 #[.string a0,.string a1] w fun e w' => e = .returned (.tuple #[.string r1,.string r2,.bool r3]) ∧ Drawn0 w w':=by
 unfold strings_Cut.f at h
 by_cases h0:a0.size < 4294967281
 rotate_left
 ·rw [if_neg h0] at h;cases h
 rw [if_pos h0] at h
 have e:=Option.some.inj h
 simp only [Prod.mk.injEq] at e
 obtain ⟨rfl,rfl,rfl⟩:=e
 obtain ⟨m,hm⟩:=hG.mx
 exact (Go.Proofs.Tryd.strings_Cut a0 a1 m w h0 hm).mono fun e w' ⟨he,hw⟩ => ⟨he,⟨hw⟩⟩
def strings_Replace.f (a0:ByteArray) (a1:ByteArray) (a2:ByteArray) (a3:Int):Option ByteArray:=if a0.size < 4294967281 then (if 1 ≤ a1.size then (if a0.size + Lib.countB a0 a1 * a2.size ≤ 140737488355328 then some ⟨(Lib.replace a0.data.toList a1.data.toList a2.data.toList a3).toArray⟩ else none) else none) else none
def strings_ToUpper.f (a0:ByteArray):Option ByteArray:=if a0.size ≤ 140737488355328 then (if a0.data.toList.all (fun b => decide (b.toNat < 128)) = true then some ⟨(Lib.toUpperA a0.data.toList).toArray⟩ else none) else none
def strings_Join.f (l0:List ByteArray) (a1:ByteArray):Option ByteArray:=if l0.length ≤ 140737488355328 then (if (Lib.join (l0.map (·.data.toList)) a1.data.toList).length ≤ 140737488355328 then some ⟨(Lib.join (l0.map (·.data.toList)) a1.data.toList).toArray⟩ else none) else none
theorem strings_Join.calls (A0:Option Addr) (c0:Nat) (l0:List ByteArray) (a1:ByteArray) (r:ByteArray) (w:World) (hr0:Kd.C Kd.string w A0 l0.length l0) (hc0:l0.length ≤ c0) (h:strings_Join.f l0 a1 = some r) :
  Calls Tryd.prog 57 #[.slice A0 l0.length c0,.string a1] w fun e w' => e = .returned (.string r) ∧ Below w.heap.size w w':=by
 unfold strings_Join.f at h
 by_cases h0:l0.length ≤ 140737488355328
 rotate_left
 ·rw [if_neg h0] at h;cases h
 by_cases h1:(Lib.join (l0.map (·.data.toList)) a1.data.toList).length ≤ 140737488355328
 rotate_left
 ·rw [if_pos h0,if_neg h1] at h;cases h
 rw [if_pos h0,if_pos h1] at h
 obtain rfl:=Option.some.inj h
 rcases l0 with _ | ⟨x,l⟩
 ·exact (Go.Proofs.Tryd.strings_Join_none A0 c0 a1 w).mono fun e w' ⟨he,hw⟩ => ⟨he,hw ▸ Below.refl _ _⟩
 ·obtain ⟨_,_,hrd⟩:=hr0
  obtain ⟨ad,rfl,hc⟩:=hrd (by simp)
  have hcell:∀ (j:Nat) y,(x :: l)[j]? = some y → w.cell? (ad.add j) = some (.string y):=fun j y hj => by
   obtain ⟨c,hl,hk,hu⟩:=hc j y hj
   have hk:c = [Value.string y]:=hk
   subst hk
   have hq:=hu 0 _ rfl
   rw [show Kd.string.sz = 1 from rfl,Nat.mul_one,Nat.add_zero] at hq
   exact hq
  have h00:w.cell? ad = some (.string x):=hcell 0 x rfl
  obtain ⟨bk,o,spot⟩:=ad
  have hs:spot = none:=by
   cases spot with
   | none => rfl
   | some z =>
    unfold World.cell? at h00
    split at h00
    ·cases h00
    ·cases h00
  subst hs
  exact Go.Proofs.Tryd.strings_Join bk o c0 (x :: l) a1 w (fun j y hj => by rw [← add_at];exact hcell j y hj) (World.block_lt_of_cell? w _ h00) h0 hc0 h1
def strings_ReplaceAll.f (a0:ByteArray) (a1:ByteArray) (a2:ByteArray):Option ByteArray:=if a0.size < 4294967281 then (if 1 ≤ a1.size then (if a0.size + Lib.countB a0 a1 * a2.size ≤ 140737488355328 then some ⟨(Lib.replaceAll a0.data.toList a1.data.toList a2.data.toList).toArray⟩ else none) else none) else none
def strings_Trim.f (a0:ByteArray) (a1:ByteArray):Option ByteArray:=if h:a1.size = 1 then (if (a1[0]'(by omega)).toNat < 128 then (if a0.size ≤ 9223372036854775807 then some ⟨(Lib.trimB a0.data.toList (a1[0]'(by omega))).toArray⟩ else none) else none) else none
theorem strings_Trim.calls (a0:ByteArray) (a1:ByteArray) (r:ByteArray) (w:World) (h:strings_Trim.f a0 a1 = some r) :
  Calls Tryd.prog 63 #[.string a0,.string a1] w fun e w' => e = .returned (.string r) ∧ Drawn0 w w':=by
 unfold strings_Trim.f at h
 by_cases h0:a1.size = 1
 rotate_left
 ·rw [dif_neg h0] at h;cases h
 rw [dif_pos h0] at h
 obtain ⟨c,rfl⟩:=Lib.one_byte a1 h0
 by_cases h1:(ByteArray.mk #[c])[0].toNat < 128
 rotate_left
 ·rw [if_neg h1] at h;cases h
 by_cases h2:a0.size ≤ 9223372036854775807
 rotate_left
 ·rw [if_pos h1,if_neg h2] at h;cases h
 rw [if_pos h1,if_pos h2] at h
 obtain rfl:=Option.some.inj h
 exact (Go.Proofs.Tryd.strings_Trim_one a0 c h1 w h2).mono fun e w' ⟨he,hw⟩ => ⟨he,by rcases hw with rfl | rfl;exact Drawn0.refl _;exact ⟨1,rfl⟩⟩
end Go.Proofs.YtoiiaklmjpiejaaDoor.LibE
