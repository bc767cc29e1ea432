/- What library functions compute that the print does not print, and their contracts in its form. -/
import Derived.Test.YtcohcndliaaacaaShelf
import Derived.Test.YtcohcndliaaacaaWWords
namespace Go.Proofs.Ytcohcndliaaacaa.LibE
open Go.RowKit Go.Proofs.YtcohcndliaaacaaW.PrintWords

def strings_Repeat.f (a0 : ByteArray) (a1 : Int) : Option ByteArray := if 0 ≤ a1 then (if a1 ≤ 9223372036854775807 then (if a0.size * a1.toNat ≤ 140737488355328 then some ⟨(Lib.repeatL a0.data.toList a1.toNat).toArray⟩ else none) else none) else none
theorem strings_Repeat.calls (a0 : ByteArray) (a1 : Int) (r : ByteArray) (w : World) (h : strings_Repeat.f a0 a1 = some r) :
    Calls Try.prog 73 #[.string a0, .int .i64 a1] w fun e w' => e = .returned (.string r) ∧ Below w.heap.size w w' := by
  unfold strings_Repeat.f at h
  by_cases h0 : 0 ≤ a1
  rotate_left
  · rw [if_neg h0] at h; cases h
  by_cases h1 : a1 ≤ 9223372036854775807
  rotate_left
  · rw [if_pos h0, if_neg h1] at h; cases h
  by_cases h2 : a0.size * a1.toNat ≤ 140737488355328
  rotate_left
  · rw [if_pos h0, if_pos h1, if_neg h2] at h; cases h
  rw [if_pos h0, if_pos h1, if_pos h2] at h
  obtain rfl := Option.some.inj h
  have e : ((a1.toNat : Nat) : Int) = a1 := Int.toNat_of_nonneg h0
  have c := Go.Proofs.Try.strings_Repeat a0 a1.toNat w (by omega) h2
  rw [e] at c
  exact c

end Go.Proofs.Ytcohcndliaaacaa.LibE
