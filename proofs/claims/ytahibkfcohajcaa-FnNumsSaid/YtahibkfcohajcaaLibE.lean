/- What library functions compute that the print does not print, and their contracts in its form. -/
import Derived.Test.YtahibkfcohajcaaShelf
import Derived.Test.YtahibkfcohajcaaWWords
namespace Go.Proofs.Ytahibkfcohajcaa.LibE
open Go.RowKit Go.Proofs.YtahibkfcohajcaaW.PrintWords

def strings_IndexByte.f (a0 : ByteArray) (a1 : Int) : Option Int := some (Lib.indexByte a0.data.toList a1.toNat.toUInt8)
theorem strings_IndexByte.calls (a0 : ByteArray) (a1 : Int) (r : Int) (w : World) (h : strings_IndexByte.f a0 a1 = some r) :
    Calls Try.prog 95 #[.string a0, .int .u8 a1] w fun e w' => e = .returned (.int .i64 r) ∧ Drawn0 w w' := by
  obtain rfl := Option.some.inj h
  exact (Go.Proofs.Try.strings_IndexByte a0 a1 w).mono fun e w' ⟨he, hw⟩ => ⟨he, hw ▸ Drawn0.refl _⟩

end Go.Proofs.Ytahibkfcohajcaa.LibE
