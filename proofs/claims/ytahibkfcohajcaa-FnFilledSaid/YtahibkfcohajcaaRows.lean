/-
  No cell of these rows narrows 'for every input' (looked for: loops, veiled, ifaces, maps, wideKeys, modest, calm, conditions, laid).
  DERIVED. THE GIVEN ROWS OF THIS SEAT. 13 by the template 'for every input the law returns true; each argument reads behind the call as it read before'; 0 by the template 'total and deterministic' (their statements: YtahibkfcohajcaaTotals.lean).
  GIVEN WITH THE SEED: the statements are not yours to turn. If you find one false, say at which input.
  Laid BY PROGRAM, IN A SANDBOX (cutbox-rows.mjs): the forced cells as the released guide's own fill.sh prints them over the translation 981c8232ddd5f978… (all of the seat's roots in one cut). By AI agents, Wed Nov 11 2026. No macro, syntax, notation, axiom, sorry.
-/
import Derived.Test.YtahibkfcohajcaaChecked
import GoSem.Claim
import GoSem.ClaimJoined
import GoSem.ClaimMapViews
import Derived.JoinedTies
import Derived.KernelRfl
namespace Go.Proofs.Ytahibkfcohajcaa
/- THE CELL 'sum', in the pinned program and in every row, IS THE sha256 OF THE DUMP (.gsa) THAT YtahibkfcohajcaaProg.lean LOADS. Nothing in Lean hashes anything: it is a label: what it is worth is what the hold of that sum in a sandbox is worth. -/
noncomputable def Try.pinned : Pinned := { name := "ytahibkfcohajcaa", sum := "981c8232ddd5f978be2fb3a6a2b8428fed1fd3add0bb1cd1c9ed5d82dfc4e477", checked := Try.checked }
namespace Rows
def none {H : Type} : Left H := { results := [], args := [] }

/-- 'laws.FnSigned': WHATEVER THE INPUT: true; the input reads as it did. -/
def fnSignedSpec : ChangeSpec := { name := "fnSigned", fn := fun _ => fun
  | [d] => { results := [.lit (.bool true)], args := [d] }
  | _ => none }
def fnSignedRow : OpenClaim := { program := "ytahibkfcohajcaa", sum := "981c8232ddd5f978be2fb3a6a2b8428fed1fd3add0bb1cd1c9ed5d82dfc4e477", func := "loop.example/g00460/laws.FnSigned", spec := "fnSigned", apart := false }
def FnSignedSaid : Prop := fnSignedRow.holds Try.pinned (OpenSpec.ofChange fnSignedSpec)

/-- ITS FALSE NEIGHBOUR: 'it returns false'. Refute it at one input. -/
def fnSignedWrong : ChangeSpec := { name := "fnSigned", fn := fun _ => fun
  | [d] => { results := [.lit (.bool false)], args := [d] }
  | _ => none }
def FnSignedWrongFalsely : Prop := fnSignedRow.holds Try.pinned (OpenSpec.ofChange fnSignedWrong)

/-- 'laws.FnDaa': WHATEVER THE INPUT: true; the input reads as it did. -/
def fnDaaSpec : ChangeSpec := { name := "fnDaa", fn := fun _ => fun
  | [d] => { results := [.lit (.bool true)], args := [d] }
  | _ => none }
def fnDaaRow : OpenClaim := { program := "ytahibkfcohajcaa", sum := "981c8232ddd5f978be2fb3a6a2b8428fed1fd3add0bb1cd1c9ed5d82dfc4e477", func := "loop.example/g00460/laws.FnDaa", spec := "fnDaa", apart := false }
def FnDaaSaid : Prop := fnDaaRow.holds Try.pinned (OpenSpec.ofChange fnDaaSpec)

/-- ITS FALSE NEIGHBOUR: 'it returns false'. Refute it at one input. -/
def fnDaaWrong : ChangeSpec := { name := "fnDaa", fn := fun _ => fun
  | [d] => { results := [.lit (.bool false)], args := [d] }
  | _ => none }
def FnDaaWrongFalsely : Prop := fnDaaRow.holds Try.pinned (OpenSpec.ofChange fnDaaWrong)

/-- 'laws.FnStepped': WHATEVER THE INPUT: true; the input reads as it did. -/
def fnSteppedSpec : ChangeSpec := { name := "fnStepped", fn := fun _ => fun
  | [d] => { results := [.lit (.bool true)], args := [d] }
  | _ => none }
def fnSteppedRow : OpenClaim := { program := "ytahibkfcohajcaa", sum := "981c8232ddd5f978be2fb3a6a2b8428fed1fd3add0bb1cd1c9ed5d82dfc4e477", func := "loop.example/g00460/laws.FnStepped", spec := "fnStepped", apart := false }
def FnSteppedSaid : Prop := fnSteppedRow.holds Try.pinned (OpenSpec.ofChange fnSteppedSpec)

/-- ITS FALSE NEIGHBOUR: 'it returns false'. Refute it at one input. -/
def fnSteppedWrong : ChangeSpec := { name := "fnStepped", fn := fun _ => fun
  | [d] => { results := [.lit (.bool false)], args := [d] }
  | _ => none }
def FnSteppedWrongFalsely : Prop := fnSteppedRow.holds Try.pinned (OpenSpec.ofChange fnSteppedWrong)

/-- 'laws.FnFilled': WHATEVER THE INPUT: true; the input reads as it did. -/
def fnFilledSpec : ChangeSpec := { name := "fnFilled", fn := fun _ => fun
  | [d] => { results := [.lit (.bool true)], args := [d] }
  | _ => none }
def fnFilledRow : OpenClaim := { program := "ytahibkfcohajcaa", sum := "981c8232ddd5f978be2fb3a6a2b8428fed1fd3add0bb1cd1c9ed5d82dfc4e477", func := "loop.example/g00460/laws.FnFilled", spec := "fnFilled", inPlace := ["internal/abi.NoEscape"], apart := false }
def FnFilledSaid : Prop := fnFilledRow.holds Try.pinned (OpenSpec.ofChange fnFilledSpec)

/-- ITS FALSE NEIGHBOUR: 'it returns false'. Refute it at one input. -/
def fnFilledWrong : ChangeSpec := { name := "fnFilled", fn := fun _ => fun
  | [d] => { results := [.lit (.bool false)], args := [d] }
  | _ => none }
def FnFilledWrongFalsely : Prop := fnFilledRow.holds Try.pinned (OpenSpec.ofChange fnFilledWrong)

/-- 'laws.FnNums': WHATEVER THE INPUT: true; the input reads as it did. -/
def fnNumsSpec : ChangeSpec := { name := "fnNums", fn := fun _ => fun
  | [d] => { results := [.lit (.bool true)], args := [d] }
  | _ => none }
def fnNumsRow : OpenClaim := { program := "ytahibkfcohajcaa", sum := "981c8232ddd5f978be2fb3a6a2b8428fed1fd3add0bb1cd1c9ed5d82dfc4e477", func := "loop.example/g00460/laws.FnNums", spec := "fnNums", inPlace := ["internal/bytealg.IndexByteString"], recurses := true, apart := false }
def FnNumsSaid : Prop := fnNumsRow.holds Try.pinned (OpenSpec.ofChange fnNumsSpec)

/-- ITS FALSE NEIGHBOUR: 'it returns false'. Refute it at one input. -/
def fnNumsWrong : ChangeSpec := { name := "fnNums", fn := fun _ => fun
  | [d] => { results := [.lit (.bool false)], args := [d] }
  | _ => none }
def FnNumsWrongFalsely : Prop := fnNumsRow.holds Try.pinned (OpenSpec.ofChange fnNumsWrong)

/-- 'laws.FnAdds': WHATEVER THE INPUT: true; the input reads as it did. -/
def fnAddsSpec : ChangeSpec := { name := "fnAdds", fn := fun _ => fun
  | [d] => { results := [.lit (.bool true)], args := [d] }
  | _ => none }
def fnAddsRow : OpenClaim := { program := "ytahibkfcohajcaa", sum := "981c8232ddd5f978be2fb3a6a2b8428fed1fd3add0bb1cd1c9ed5d82dfc4e477", func := "loop.example/g00460/laws.FnAdds", spec := "fnAdds", apart := false }
def FnAddsSaid : Prop := fnAddsRow.holds Try.pinned (OpenSpec.ofChange fnAddsSpec)

/-- ITS FALSE NEIGHBOUR: 'it returns false'. Refute it at one input. -/
def fnAddsWrong : ChangeSpec := { name := "fnAdds", fn := fun _ => fun
  | [d] => { results := [.lit (.bool false)], args := [d] }
  | _ => none }
def FnAddsWrongFalsely : Prop := fnAddsRow.holds Try.pinned (OpenSpec.ofChange fnAddsWrong)

/-- 'laws.FnLogic': WHATEVER THE INPUT: true; the input reads as it did. -/
def fnLogicSpec : ChangeSpec := { name := "fnLogic", fn := fun _ => fun
  | [d] => { results := [.lit (.bool true)], args := [d] }
  | _ => none }
def fnLogicRow : OpenClaim := { program := "ytahibkfcohajcaa", sum := "981c8232ddd5f978be2fb3a6a2b8428fed1fd3add0bb1cd1c9ed5d82dfc4e477", func := "loop.example/g00460/laws.FnLogic", spec := "fnLogic", apart := false }
def FnLogicSaid : Prop := fnLogicRow.holds Try.pinned (OpenSpec.ofChange fnLogicSpec)

/-- ITS FALSE NEIGHBOUR: 'it returns false'. Refute it at one input. -/
def fnLogicWrong : ChangeSpec := { name := "fnLogic", fn := fun _ => fun
  | [d] => { results := [.lit (.bool false)], args := [d] }
  | _ => none }
def FnLogicWrongFalsely : Prop := fnLogicRow.holds Try.pinned (OpenSpec.ofChange fnLogicWrong)

/-- 'laws.FnSubs': WHATEVER THE INPUT: true; the input reads as it did. -/
def fnSubsSpec : ChangeSpec := { name := "fnSubs", fn := fun _ => fun
  | [d] => { results := [.lit (.bool true)], args := [d] }
  | _ => none }
def fnSubsRow : OpenClaim := { program := "ytahibkfcohajcaa", sum := "981c8232ddd5f978be2fb3a6a2b8428fed1fd3add0bb1cd1c9ed5d82dfc4e477", func := "loop.example/g00460/laws.FnSubs", spec := "fnSubs", apart := false }
def FnSubsSaid : Prop := fnSubsRow.holds Try.pinned (OpenSpec.ofChange fnSubsSpec)

/-- ITS FALSE NEIGHBOUR: 'it returns false'. Refute it at one input. -/
def fnSubsWrong : ChangeSpec := { name := "fnSubs", fn := fun _ => fun
  | [d] => { results := [.lit (.bool false)], args := [d] }
  | _ => none }
def FnSubsWrongFalsely : Prop := fnSubsRow.holds Try.pinned (OpenSpec.ofChange fnSubsWrong)

/-- 'laws.FnShifted': WHATEVER THE INPUT: true; the input reads as it did. -/
def fnShiftedSpec : ChangeSpec := { name := "fnShifted", fn := fun _ => fun
  | [d] => { results := [.lit (.bool true)], args := [d] }
  | _ => none }
def fnShiftedRow : OpenClaim := { program := "ytahibkfcohajcaa", sum := "981c8232ddd5f978be2fb3a6a2b8428fed1fd3add0bb1cd1c9ed5d82dfc4e477", func := "loop.example/g00460/laws.FnShifted", spec := "fnShifted", apart := false }
def FnShiftedSaid : Prop := fnShiftedRow.holds Try.pinned (OpenSpec.ofChange fnShiftedSpec)

/-- ITS FALSE NEIGHBOUR: 'it returns false'. Refute it at one input. -/
def fnShiftedWrong : ChangeSpec := { name := "fnShifted", fn := fun _ => fun
  | [d] => { results := [.lit (.bool false)], args := [d] }
  | _ => none }
def FnShiftedWrongFalsely : Prop := fnShiftedRow.holds Try.pinned (OpenSpec.ofChange fnShiftedWrong)

/-- 'laws.FnTurned': WHATEVER THE INPUT: true; the input reads as it did. -/
def fnTurnedSpec : ChangeSpec := { name := "fnTurned", fn := fun _ => fun
  | [d] => { results := [.lit (.bool true)], args := [d] }
  | _ => none }
def fnTurnedRow : OpenClaim := { program := "ytahibkfcohajcaa", sum := "981c8232ddd5f978be2fb3a6a2b8428fed1fd3add0bb1cd1c9ed5d82dfc4e477", func := "loop.example/g00460/laws.FnTurned", spec := "fnTurned", apart := false }
def FnTurnedSaid : Prop := fnTurnedRow.holds Try.pinned (OpenSpec.ofChange fnTurnedSpec)

/-- ITS FALSE NEIGHBOUR: 'it returns false'. Refute it at one input. -/
def fnTurnedWrong : ChangeSpec := { name := "fnTurned", fn := fun _ => fun
  | [d] => { results := [.lit (.bool false)], args := [d] }
  | _ => none }
def FnTurnedWrongFalsely : Prop := fnTurnedRow.holds Try.pinned (OpenSpec.ofChange fnTurnedWrong)

/-- 'laws.FnApplied': WHATEVER THE INPUT: true; the input reads as it did. -/
def fnAppliedSpec : ChangeSpec := { name := "fnApplied", fn := fun _ => fun
  | [d] => { results := [.lit (.bool true)], args := [d] }
  | _ => none }
def fnAppliedRow : OpenClaim := { program := "ytahibkfcohajcaa", sum := "981c8232ddd5f978be2fb3a6a2b8428fed1fd3add0bb1cd1c9ed5d82dfc4e477", func := "loop.example/g00460/laws.FnApplied", spec := "fnApplied", apart := false }
def FnAppliedSaid : Prop := fnAppliedRow.holds Try.pinned (OpenSpec.ofChange fnAppliedSpec)

/-- ITS FALSE NEIGHBOUR: 'it returns false'. Refute it at one input. -/
def fnAppliedWrong : ChangeSpec := { name := "fnApplied", fn := fun _ => fun
  | [d] => { results := [.lit (.bool false)], args := [d] }
  | _ => none }
def FnAppliedWrongFalsely : Prop := fnAppliedRow.holds Try.pinned (OpenSpec.ofChange fnAppliedWrong)

/-- 'laws.FnDiffs': WHATEVER THE INPUT: true; the input reads as it did. -/
def fnDiffsSpec : ChangeSpec := { name := "fnDiffs", fn := fun _ => fun
  | [d] => { results := [.lit (.bool true)], args := [d] }
  | _ => none }
def fnDiffsRow : OpenClaim := { program := "ytahibkfcohajcaa", sum := "981c8232ddd5f978be2fb3a6a2b8428fed1fd3add0bb1cd1c9ed5d82dfc4e477", func := "loop.example/g00460/laws.FnDiffs", spec := "fnDiffs", inPlace := ["internal/abi.NoEscape"], unfollowed := true, recurses := true, apart := false }
def FnDiffsSaid : Prop := fnDiffsRow.holds Try.pinned (OpenSpec.ofChange fnDiffsSpec)

/-- ITS FALSE NEIGHBOUR: 'it returns false'. Refute it at one input. -/
def fnDiffsWrong : ChangeSpec := { name := "fnDiffs", fn := fun _ => fun
  | [d] => { results := [.lit (.bool false)], args := [d] }
  | _ => none }
def FnDiffsWrongFalsely : Prop := fnDiffsRow.holds Try.pinned (OpenSpec.ofChange fnDiffsWrong)

/-- 'laws.FnWords': WHATEVER THE INPUT: true; the input reads as it did. -/
def fnWordsSpec : ChangeSpec := { name := "fnWords", fn := fun _ => fun
  | [d] => { results := [.lit (.bool true)], args := [d] }
  | _ => none }
def fnWordsRow : OpenClaim := { program := "ytahibkfcohajcaa", sum := "981c8232ddd5f978be2fb3a6a2b8428fed1fd3add0bb1cd1c9ed5d82dfc4e477", func := "loop.example/g00460/laws.FnWords", spec := "fnWords", apart := false }
def FnWordsSaid : Prop := fnWordsRow.holds Try.pinned (OpenSpec.ofChange fnWordsSpec)

/-- ITS FALSE NEIGHBOUR: 'it returns false'. Refute it at one input. -/
def fnWordsWrong : ChangeSpec := { name := "fnWords", fn := fun _ => fun
  | [d] => { results := [.lit (.bool false)], args := [d] }
  | _ => none }
def FnWordsWrongFalsely : Prop := fnWordsRow.holds Try.pinned (OpenSpec.ofChange fnWordsWrong)

/- THE SECOND FORM. 'bulk': how many values and letters a reading holds, each counted each time it is reached (what is shared counts as often as it is met; a slice's spare places count too). A statement '..UptoSaid' is the law's where the arguments, and the package variables that the reading takes, are together of bulk at most 1048576: NARROWER than '..Said'. Prove '..Said' where nothing that the law and all that it calls make is longer than what came in: it says more and counts as full. Else prove '..UptoSaid'. A law counts once. -/
mutual
def uptoBulk {H : Type} : DataW H → Nat
  | .lit (.string bytes) => bytes.length + 1
  | .lit _ => 1
  | .nil => 1
  | .ptr d => uptoBulk d + 1
  | .slice elems spare => uptoBulkAll elems + uptoBulkAll spare + 1
  | .agg parts => uptoBulkAll parts + 1
  | .iface _ d => uptoBulk d + 1
  | .map entries => uptoBulkEntries entries + 1
  | .held _ => 1
def uptoBulkAll {H : Type} : List (DataW H) → Nat
  | [] => 0
  | d :: r => uptoBulk d + uptoBulkAll r
def uptoBulkEntries {H : Type} : List (Lit × DataW H) → Nat
  | [] => 0
  | x :: r => uptoBulkEntry x + uptoBulkEntries r
def uptoBulkEntry {H : Type} : Lit × DataW H → Nat
  | (.string bytes, d) => bytes.length + uptoBulk d + 1
  | (_, d) => uptoBulk d + 1
 end
def uptoSmall : (H : Type) → List (DataW H) → Bool := fun _ ds => decide (uptoBulkAll ds ≤ 1048576)
def OpenSpec.upto (s : _root_.Go.ChangeSpec) : _root_.Go.OpenSpec := { _root_.Go.OpenSpec.ofChange s with cond := some uptoSmall }

/-- 'laws.FnSigned', WHERE WHAT IT READS IS OF BULK AT MOST 1048576: true; the input reads as it did. -/
def fnSignedUptoRow : OpenClaim := { program := "ytahibkfcohajcaa", sum := "981c8232ddd5f978be2fb3a6a2b8428fed1fd3add0bb1cd1c9ed5d82dfc4e477", func := "loop.example/g00460/laws.FnSigned", spec := "fnSigned", apart := false, narrowed := true }
def FnSignedUptoSaid : Prop := fnSignedUptoRow.holds Try.pinned (OpenSpec.upto fnSignedSpec)

/-- 'laws.FnDaa', WHERE WHAT IT READS IS OF BULK AT MOST 1048576: true; the input reads as it did. -/
def fnDaaUptoRow : OpenClaim := { program := "ytahibkfcohajcaa", sum := "981c8232ddd5f978be2fb3a6a2b8428fed1fd3add0bb1cd1c9ed5d82dfc4e477", func := "loop.example/g00460/laws.FnDaa", spec := "fnDaa", apart := false, narrowed := true }
def FnDaaUptoSaid : Prop := fnDaaUptoRow.holds Try.pinned (OpenSpec.upto fnDaaSpec)

/-- 'laws.FnStepped', WHERE WHAT IT READS IS OF BULK AT MOST 1048576: true; the input reads as it did. -/
def fnSteppedUptoRow : OpenClaim := { program := "ytahibkfcohajcaa", sum := "981c8232ddd5f978be2fb3a6a2b8428fed1fd3add0bb1cd1c9ed5d82dfc4e477", func := "loop.example/g00460/laws.FnStepped", spec := "fnStepped", apart := false, narrowed := true }
def FnSteppedUptoSaid : Prop := fnSteppedUptoRow.holds Try.pinned (OpenSpec.upto fnSteppedSpec)

/-- 'laws.FnFilled', WHERE WHAT IT READS IS OF BULK AT MOST 1048576: true; the input reads as it did. -/
def fnFilledUptoRow : OpenClaim := { program := "ytahibkfcohajcaa", sum := "981c8232ddd5f978be2fb3a6a2b8428fed1fd3add0bb1cd1c9ed5d82dfc4e477", func := "loop.example/g00460/laws.FnFilled", spec := "fnFilled", inPlace := ["internal/abi.NoEscape"], apart := false, narrowed := true }
def FnFilledUptoSaid : Prop := fnFilledUptoRow.holds Try.pinned (OpenSpec.upto fnFilledSpec)

/-- 'laws.FnNums', WHERE WHAT IT READS IS OF BULK AT MOST 1048576: true; the input reads as it did. -/
def fnNumsUptoRow : OpenClaim := { program := "ytahibkfcohajcaa", sum := "981c8232ddd5f978be2fb3a6a2b8428fed1fd3add0bb1cd1c9ed5d82dfc4e477", func := "loop.example/g00460/laws.FnNums", spec := "fnNums", inPlace := ["internal/bytealg.IndexByteString"], recurses := true, apart := false, narrowed := true }
def FnNumsUptoSaid : Prop := fnNumsUptoRow.holds Try.pinned (OpenSpec.upto fnNumsSpec)

/-- 'laws.FnAdds', WHERE WHAT IT READS IS OF BULK AT MOST 1048576: true; the input reads as it did. -/
def fnAddsUptoRow : OpenClaim := { program := "ytahibkfcohajcaa", sum := "981c8232ddd5f978be2fb3a6a2b8428fed1fd3add0bb1cd1c9ed5d82dfc4e477", func := "loop.example/g00460/laws.FnAdds", spec := "fnAdds", apart := false, narrowed := true }
def FnAddsUptoSaid : Prop := fnAddsUptoRow.holds Try.pinned (OpenSpec.upto fnAddsSpec)

/-- 'laws.FnLogic', WHERE WHAT IT READS IS OF BULK AT MOST 1048576: true; the input reads as it did. -/
def fnLogicUptoRow : OpenClaim := { program := "ytahibkfcohajcaa", sum := "981c8232ddd5f978be2fb3a6a2b8428fed1fd3add0bb1cd1c9ed5d82dfc4e477", func := "loop.example/g00460/laws.FnLogic", spec := "fnLogic", apart := false, narrowed := true }
def FnLogicUptoSaid : Prop := fnLogicUptoRow.holds Try.pinned (OpenSpec.upto fnLogicSpec)

/-- 'laws.FnSubs', WHERE WHAT IT READS IS OF BULK AT MOST 1048576: true; the input reads as it did. -/
def fnSubsUptoRow : OpenClaim := { program := "ytahibkfcohajcaa", sum := "981c8232ddd5f978be2fb3a6a2b8428fed1fd3add0bb1cd1c9ed5d82dfc4e477", func := "loop.example/g00460/laws.FnSubs", spec := "fnSubs", apart := false, narrowed := true }
def FnSubsUptoSaid : Prop := fnSubsUptoRow.holds Try.pinned (OpenSpec.upto fnSubsSpec)

/-- 'laws.FnShifted', WHERE WHAT IT READS IS OF BULK AT MOST 1048576: true; the input reads as it did. -/
def fnShiftedUptoRow : OpenClaim := { program := "ytahibkfcohajcaa", sum := "981c8232ddd5f978be2fb3a6a2b8428fed1fd3add0bb1cd1c9ed5d82dfc4e477", func := "loop.example/g00460/laws.FnShifted", spec := "fnShifted", apart := false, narrowed := true }
def FnShiftedUptoSaid : Prop := fnShiftedUptoRow.holds Try.pinned (OpenSpec.upto fnShiftedSpec)

/-- 'laws.FnTurned', WHERE WHAT IT READS IS OF BULK AT MOST 1048576: true; the input reads as it did. -/
def fnTurnedUptoRow : OpenClaim := { program := "ytahibkfcohajcaa", sum := "981c8232ddd5f978be2fb3a6a2b8428fed1fd3add0bb1cd1c9ed5d82dfc4e477", func := "loop.example/g00460/laws.FnTurned", spec := "fnTurned", apart := false, narrowed := true }
def FnTurnedUptoSaid : Prop := fnTurnedUptoRow.holds Try.pinned (OpenSpec.upto fnTurnedSpec)

/-- 'laws.FnApplied', WHERE WHAT IT READS IS OF BULK AT MOST 1048576: true; the input reads as it did. -/
def fnAppliedUptoRow : OpenClaim := { program := "ytahibkfcohajcaa", sum := "981c8232ddd5f978be2fb3a6a2b8428fed1fd3add0bb1cd1c9ed5d82dfc4e477", func := "loop.example/g00460/laws.FnApplied", spec := "fnApplied", apart := false, narrowed := true }
def FnAppliedUptoSaid : Prop := fnAppliedUptoRow.holds Try.pinned (OpenSpec.upto fnAppliedSpec)

/-- 'laws.FnDiffs', WHERE WHAT IT READS IS OF BULK AT MOST 1048576: true; the input reads as it did. -/
def fnDiffsUptoRow : OpenClaim := { program := "ytahibkfcohajcaa", sum := "981c8232ddd5f978be2fb3a6a2b8428fed1fd3add0bb1cd1c9ed5d82dfc4e477", func := "loop.example/g00460/laws.FnDiffs", spec := "fnDiffs", inPlace := ["internal/abi.NoEscape"], unfollowed := true, recurses := true, apart := false, narrowed := true }
def FnDiffsUptoSaid : Prop := fnDiffsUptoRow.holds Try.pinned (OpenSpec.upto fnDiffsSpec)

/-- 'laws.FnWords', WHERE WHAT IT READS IS OF BULK AT MOST 1048576: true; the input reads as it did. -/
def fnWordsUptoRow : OpenClaim := { program := "ytahibkfcohajcaa", sum := "981c8232ddd5f978be2fb3a6a2b8428fed1fd3add0bb1cd1c9ed5d82dfc4e477", func := "loop.example/g00460/laws.FnWords", spec := "fnWords", apart := false, narrowed := true }
def FnWordsUptoSaid : Prop := fnWordsUptoRow.holds Try.pinned (OpenSpec.upto fnWordsSpec)

end Rows
end Go.Proofs.Ytahibkfcohajcaa
