import Derived.Test.YtpghjbikjmnnoaaSFnEvalLibX
import Derived.Test.YtpghjbikjmnnoaaSFnEvalLibG
namespace Go.Proofs.Ytpghjbikjmnnoaa.LibIx
open Go.RowKit Go.Proofs.YtpghjbikjmnnoaaW.PrintWords Go.Proofs.YtpghjbikjmnnoaaW.PrintLast Go.Proofs.YtpghjbikjmnnoaaW.PrintMore Go.Proofs.Ytpghjbikjmnnoaa.LibX Go.Proofs.Ytpghjbikjmnnoaa.LibG
set_option linter.unusedVariables false
abbrev SY:=S33
abbrev kS:=k33
def l2Sym_idx.f (k:Nat) (l0:List SY) (a1:ByteArray):Option Int:=spec_l2Sym.f k l0 a1
theorem l2Sym_idx.mono:∀ a0 a1 k,LeO (l2Sym_idx.f k a0 a1) (l2Sym_idx.f (k + 1) a0 a1):=fun a0 a1 k => spec_l2Sym.mono a0 a1 k
theorem l2Sym_idx.calls (k:Nat) (A0:Option Addr) (c0:Nat) (l0:List SY) (a1:ByteArray) (r:Int) (w:World) (hr0:Kd.C kS w A0 l0.length l0) (hc0:l0.length ≤ c0) (h:l2Sym_idx.f k l0 a1 = some r) :
  Calls Try.prog 29 #[.slice A0 l0.length c0,.string a1] w fun e w' => e = .returned (.int .i64 r) ∧ Below w.heap.size w w' :=
 (spec_l2Sym.calls k A0 c0 l0 a1 r w hr0 hc0 h).mono fun e w' ⟨he,hd⟩ => ⟨he,hd.below⟩
end Go.Proofs.Ytpghjbikjmnnoaa.LibIx
