import Derived.Test.YtoiiaklmjpiejaaDoorSLibBR
import Derived.Test.YtoiiaklmjpiejaaDoorSLibX
namespace Go.Proofs.YtoiiaklmjpiejaaDoor.LibCB
open Go.RowKit Go.Proofs.YtoiiaklmjpiejaaDoorW.PrintWords Go.Proofs.YtoiiaklmjpiejaaDoorW.PrintLast Go.Proofs.YtoiiaklmjpiejaaDoorW.PrintMore Go.Proofs.YtoiiaklmjpiejaaDoor.LibBR Go.Proofs.YtoiiaklmjpiejaaDoor.LibX
set_option linter.unusedVariables false
set_option linter.unusedSimpArgs false
def Kd.B (_d:Kd Int) (e:Nat) (w:World) (base:Nat) (ok:Nat → Prop) (v:Value) (xs:List Int):Prop :=
 ∃ g c,v = .slice (some ⟨g,0,none⟩) xs.length c ∧ ok g ∧ base ≤ g ∧ xs.length ≤ 9223372036854775807 ∧ BR e g xs c w
namespace Kd
end Kd
end Go.Proofs.YtoiiaklmjpiejaaDoor.LibCB
