/-
  No cell of these rows narrows 'for every input' (looked for: loops, veiled, ifaces, maps, wideKeys, modest, calm, conditions, laid).
  DERIVED. THE GIVEN ROWS OF THIS SEAT. 4 by the template 'for every input the law returns true; each argument reads behind the call as it read before'; 0 by the template 'total and deterministic' (their statements: YtlojnkjlkiloiaaTotals.lean).
  GIVEN WITH THE SEED: the statements are not yours to turn. If you find one false, say at which input.
  Laid BY PROGRAM, IN A SANDBOX (cutbox-rows.mjs): the forced cells as the released guide's own fill.sh prints them over the translation 2bd9bc409024423a… (all of the seat's roots in one cut). By AI agents, Wed Nov 11 2026. No macro, syntax, notation, axiom, sorry.
-/
import Derived.Test.YtlojnkjlkiloiaaChecked
import GoSem.Claim
import GoSem.ClaimJoined
import GoSem.ClaimMapViews
import Derived.JoinedTies
import Derived.KernelRfl
namespace Go.Proofs.Ytlojnkjlkiloiaa
/- THE CELL 'sum', in the pinned program and in every row, IS THE sha256 OF THE DUMP (.gsa) THAT YtlojnkjlkiloiaaProg.lean LOADS. Nothing in Lean hashes anything: it is a label: what it is worth is what the hold of that sum in a sandbox is worth. -/
noncomputable def Try.pinned : Pinned := { name := "ytlojnkjlkiloiaa", sum := "2bd9bc409024423a822475f2bae506c73f2b55cf87746781fe9ada8d58a8ea70", checked := Try.checked }
namespace Rows
def none {H : Type} : Left H := { results := [], args := [] }

/-- 'laws.FnExactHeaderSum': WHATEVER THE INPUT: true; the input reads as it did. -/
def fnExactHeaderSumSpec : ChangeSpec := { name := "fnExactHeaderSum", fn := fun _ => fun
  | [d] => { results := [.lit (.bool true)], args := [d] }
  | _ => none }
def fnExactHeaderSumRow : OpenClaim := { program := "ytlojnkjlkiloiaa", sum := "2bd9bc409024423a822475f2bae506c73f2b55cf87746781fe9ada8d58a8ea70", func := "loop.example/g00460/laws.FnExactHeaderSum", spec := "fnExactHeaderSum", apart := false }
def FnExactHeaderSumSaid : Prop := fnExactHeaderSumRow.holds Try.pinned (OpenSpec.ofChange fnExactHeaderSumSpec)

/-- ITS FALSE NEIGHBOUR: 'it returns false'. Refute it at one input. -/
def fnExactHeaderSumWrong : ChangeSpec := { name := "fnExactHeaderSum", fn := fun _ => fun
  | [d] => { results := [.lit (.bool false)], args := [d] }
  | _ => none }
def FnExactHeaderSumWrongFalsely : Prop := fnExactHeaderSumRow.holds Try.pinned (OpenSpec.ofChange fnExactHeaderSumWrong)

/-- 'laws.FnExactWholeSum': WHATEVER THE INPUT: true; the input reads as it did. -/
def fnExactWholeSumSpec : ChangeSpec := { name := "fnExactWholeSum", fn := fun _ => fun
  | [d] => { results := [.lit (.bool true)], args := [d] }
  | _ => none }
def fnExactWholeSumRow : OpenClaim := { program := "ytlojnkjlkiloiaa", sum := "2bd9bc409024423a822475f2bae506c73f2b55cf87746781fe9ada8d58a8ea70", func := "loop.example/g00460/laws.FnExactWholeSum", spec := "fnExactWholeSum", apart := false }
def FnExactWholeSumSaid : Prop := fnExactWholeSumRow.holds Try.pinned (OpenSpec.ofChange fnExactWholeSumSpec)

/-- ITS FALSE NEIGHBOUR: 'it returns false'. Refute it at one input. -/
def fnExactWholeSumWrong : ChangeSpec := { name := "fnExactWholeSum", fn := fun _ => fun
  | [d] => { results := [.lit (.bool false)], args := [d] }
  | _ => none }
def FnExactWholeSumWrongFalsely : Prop := fnExactWholeSumRow.holds Try.pinned (OpenSpec.ofChange fnExactWholeSumWrong)

/-- 'laws.FnExactApplied': WHATEVER THE INPUT: true; the input reads as it did. -/
def fnExactAppliedSpec : ChangeSpec := { name := "fnExactApplied", fn := fun _ => fun
  | [d1, d2] => { results := [.lit (.bool true)], args := [d1, d2] }
  | _ => none }
def fnExactAppliedRow : OpenClaim := { program := "ytlojnkjlkiloiaa", sum := "2bd9bc409024423a822475f2bae506c73f2b55cf87746781fe9ada8d58a8ea70", func := "loop.example/g00460/laws.FnExactApplied", spec := "fnExactApplied", apart := false }
def FnExactAppliedSaid : Prop := fnExactAppliedRow.holds Try.pinned (OpenSpec.ofChange fnExactAppliedSpec)

/-- ITS FALSE NEIGHBOUR: 'it returns false'. Refute it at one input. -/
def fnExactAppliedWrong : ChangeSpec := { name := "fnExactApplied", fn := fun _ => fun
  | [d1, d2] => { results := [.lit (.bool false)], args := [d1, d2] }
  | _ => none }
def FnExactAppliedWrongFalsely : Prop := fnExactAppliedRow.holds Try.pinned (OpenSpec.ofChange fnExactAppliedWrong)

/-- 'laws.FnExactDiffOf': WHATEVER THE INPUT: true; the input reads as it did. -/
def fnExactDiffOfSpec : ChangeSpec := { name := "fnExactDiffOf", fn := fun _ => fun
  | [d1, d2] => { results := [.lit (.bool true)], args := [d1, d2] }
  | _ => none }
def fnExactDiffOfRow : OpenClaim := { program := "ytlojnkjlkiloiaa", sum := "2bd9bc409024423a822475f2bae506c73f2b55cf87746781fe9ada8d58a8ea70", func := "loop.example/g00460/laws.FnExactDiffOf", spec := "fnExactDiffOf", inPlace := ["internal/abi.NoEscape"], unfollowed := true, recurses := true, apart := false }
def FnExactDiffOfSaid : Prop := fnExactDiffOfRow.holds Try.pinned (OpenSpec.ofChange fnExactDiffOfSpec)

/-- ITS FALSE NEIGHBOUR: 'it returns false'. Refute it at one input. -/
def fnExactDiffOfWrong : ChangeSpec := { name := "fnExactDiffOf", fn := fun _ => fun
  | [d1, d2] => { results := [.lit (.bool false)], args := [d1, d2] }
  | _ => none }
def FnExactDiffOfWrongFalsely : Prop := fnExactDiffOfRow.holds Try.pinned (OpenSpec.ofChange fnExactDiffOfWrong)

/- THE SECOND FORM. 'bulk': how many values and letters a reading holds, each counted each time it is reached (what is shared counts as often as it is met; a slice's spare places count too). A statement '..UptoSaid' is the law's where the arguments, and the package variables that the reading takes, are together of bulk at most 1048576: NARROWER than '..Said'. Prove '..Said' where nothing that the law and all that it calls make is longer than what came in: it says more and counts as full. Else prove '..UptoSaid'. A law counts once. -/
mutual
def uptoBulk {H : Type} : DataW H → Nat
  | .lit (.string bytes) => bytes.length + 1
  | .lit _ => 1
  | .nil => 1
  | .ptr d => uptoBulk d + 1
  | .slice elems spare => uptoBulkAll elems + uptoBulkAll spare + 1
  | .agg parts => uptoBulkAll parts + 1
  | .iface _ d => uptoBulk d + 1
  | .map entries => uptoBulkEntries entries + 1
  | .held _ => 1
def uptoBulkAll {H : Type} : List (DataW H) → Nat
  | [] => 0
  | d :: r => uptoBulk d + uptoBulkAll r
def uptoBulkEntries {H : Type} : List (Lit × DataW H) → Nat
  | [] => 0
  | x :: r => uptoBulkEntry x + uptoBulkEntries r
def uptoBulkEntry {H : Type} : Lit × DataW H → Nat
  | (.string bytes, d) => bytes.length + uptoBulk d + 1
  | (_, d) => uptoBulk d + 1
 end
def uptoSmall : (H : Type) → List (DataW H) → Bool := fun _ ds => decide (uptoBulkAll ds ≤ 1048576)
def OpenSpec.upto (s : _root_.Go.ChangeSpec) : _root_.Go.OpenSpec := { _root_.Go.OpenSpec.ofChange s with cond := some uptoSmall }

/-- 'laws.FnExactHeaderSum', WHERE WHAT IT READS IS OF BULK AT MOST 1048576: true; the input reads as it did. -/
def fnExactHeaderSumUptoRow : OpenClaim := { program := "ytlojnkjlkiloiaa", sum := "2bd9bc409024423a822475f2bae506c73f2b55cf87746781fe9ada8d58a8ea70", func := "loop.example/g00460/laws.FnExactHeaderSum", spec := "fnExactHeaderSum", apart := false, narrowed := true }
def FnExactHeaderSumUptoSaid : Prop := fnExactHeaderSumUptoRow.holds Try.pinned (OpenSpec.upto fnExactHeaderSumSpec)

/-- 'laws.FnExactWholeSum', WHERE WHAT IT READS IS OF BULK AT MOST 1048576: true; the input reads as it did. -/
def fnExactWholeSumUptoRow : OpenClaim := { program := "ytlojnkjlkiloiaa", sum := "2bd9bc409024423a822475f2bae506c73f2b55cf87746781fe9ada8d58a8ea70", func := "loop.example/g00460/laws.FnExactWholeSum", spec := "fnExactWholeSum", apart := false, narrowed := true }
def FnExactWholeSumUptoSaid : Prop := fnExactWholeSumUptoRow.holds Try.pinned (OpenSpec.upto fnExactWholeSumSpec)

/-- 'laws.FnExactApplied', WHERE WHAT IT READS IS OF BULK AT MOST 1048576: true; the input reads as it did. -/
def fnExactAppliedUptoRow : OpenClaim := { program := "ytlojnkjlkiloiaa", sum := "2bd9bc409024423a822475f2bae506c73f2b55cf87746781fe9ada8d58a8ea70", func := "loop.example/g00460/laws.FnExactApplied", spec := "fnExactApplied", apart := false, narrowed := true }
def FnExactAppliedUptoSaid : Prop := fnExactAppliedUptoRow.holds Try.pinned (OpenSpec.upto fnExactAppliedSpec)

/-- 'laws.FnExactDiffOf', WHERE WHAT IT READS IS OF BULK AT MOST 1048576: true; the input reads as it did. -/
def fnExactDiffOfUptoRow : OpenClaim := { program := "ytlojnkjlkiloiaa", sum := "2bd9bc409024423a822475f2bae506c73f2b55cf87746781fe9ada8d58a8ea70", func := "loop.example/g00460/laws.FnExactDiffOf", spec := "fnExactDiffOf", inPlace := ["internal/abi.NoEscape"], unfollowed := true, recurses := true, apart := false, narrowed := true }
def FnExactDiffOfUptoSaid : Prop := fnExactDiffOfUptoRow.holds Try.pinned (OpenSpec.upto fnExactDiffOfSpec)

end Rows
end Go.Proofs.Ytlojnkjlkiloiaa
