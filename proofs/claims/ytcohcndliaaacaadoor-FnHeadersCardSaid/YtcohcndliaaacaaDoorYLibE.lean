import Derived.Test.YtcohcndliaaacaaDoorYShelf
import Derived.Test.YtcohcndliaaacaaDoorYWWords
namespace Go.Proofs.YtcohcndliaaacaaDoor.LibE
open Go.RowKit Go.Proofs.YtcohcndliaaacaaDoorW.PrintWords

def strings_IndexByte.f (a0 : ByteArray) (a1 : Int) : Option Int := some (Lib.indexByte a0.data.toList a1.toNat.toUInt8)
theorem strings_IndexByte.calls (a0 : ByteArray) (a1 : Int) (r : Int) (w : World) (h : strings_IndexByte.f a0 a1 = some r) :
    Calls Tryd.prog 71 #[.string a0, .int .u8 a1] w fun e w' => e = .returned (.int .i64 r) ∧ Drawn0 w w' := by
  obtain rfl := Option.some.inj h
  exact (Go.Proofs.Tryd.strings_IndexByte a0 a1 w).mono fun e w' ⟨he, hw⟩ => ⟨he, hw ▸ Drawn0.refl _⟩

def strings_Repeat.f (a0 : ByteArray) (a1 : Int) : Option ByteArray := if 0 ≤ a1 then (if a1 ≤ 9223372036854775807 then (if a0.size * a1.toNat ≤ 140737488355328 then some ⟨(Lib.repeatL a0.data.toList a1.toNat).toArray⟩ else none) else none) else none
theorem strings_Repeat.calls (a0 : ByteArray) (a1 : Int) (r : ByteArray) (w : World) (h : strings_Repeat.f a0 a1 = some r) :
    Calls Tryd.prog 69 #[.string a0, .int .i64 a1] w fun e w' => e = .returned (.string r) ∧ Below w.heap.size w w' := by
  unfold strings_Repeat.f at h
  by_cases h0 : 0 ≤ a1
  rotate_left
  · rw [if_neg h0] at h; cases h
  by_cases h1 : a1 ≤ 9223372036854775807
  rotate_left
  · rw [if_pos h0, if_neg h1] at h; cases h
  by_cases h2 : a0.size * a1.toNat ≤ 140737488355328
  rotate_left
  · rw [if_pos h0, if_pos h1, if_neg h2] at h; cases h
  rw [if_pos h0, if_pos h1, if_pos h2] at h
  obtain rfl := Option.some.inj h
  have e : ((a1.toNat : Nat) : Int) = a1 := Int.toNat_of_nonneg h0
  have c := Go.Proofs.Tryd.strings_Repeat a0 a1.toNat w (by omega) h2
  rw [e] at c
  exact c

def strings_TrimRight.f (a0 : ByteArray) (a1 : ByteArray) : Option ByteArray := if h : a1.size = 1 then (if (a1[0]'(by omega)).toNat < 128 then (if a0.size ≤ 9223372036854775807 then some ⟨(Lib.trimRightB a0.data.toList (a1[0]'(by omega))).toArray⟩ else none) else none) else none
theorem strings_TrimRight.calls (a0 : ByteArray) (a1 : ByteArray) (r : ByteArray) (w : World) (h : strings_TrimRight.f a0 a1 = some r) :
    Calls Tryd.prog 34 #[.string a0, .string a1] w fun e w' => e = .returned (.string r) ∧ Drawn0 w w' := by
  unfold strings_TrimRight.f at h
  by_cases h0 : a1.size = 1
  rotate_left
  · rw [dif_neg h0] at h; cases h
  rw [dif_pos h0] at h
  obtain ⟨c, rfl⟩ := Lib.one_byte a1 h0
  by_cases h1 : (ByteArray.mk #[c])[0].toNat < 128
  rotate_left
  · rw [if_neg h1] at h; cases h
  by_cases h2 : a0.size ≤ 9223372036854775807
  rotate_left
  · rw [if_pos h1, if_neg h2] at h; cases h
  rw [if_pos h1, if_pos h2] at h
  obtain rfl := Option.some.inj h
  exact (Go.Proofs.Tryd.strings_TrimRight_one a0 c h1 w h2).mono fun e w' ⟨he, hw⟩ => ⟨he, hw ▸ Drawn0.refl _⟩

end Go.Proofs.YtcohcndliaaacaaDoor.LibE
