/-
  No cell of these rows narrows 'for every input' (looked for: loops, veiled, ifaces, maps, wideKeys, modest, calm, conditions, laid).
  DERIVED. THE GIVEN ROWS OF THIS SEAT. 7 by the template 'for every input the law returns true; each argument reads behind the call as it read before'; 0 by the template 'total and deterministic' (their statements: YtcohcndliaaacaaTotals.lean).
  GIVEN WITH THE SEED: the statements are not yours to turn. If you find one false, say at which input.
  Laid BY PROGRAM, IN A SANDBOX (cutbox-rows.mjs): the forced cells as the released guide's own fill.sh prints them over the translation 689c004fa9d467eb… (all of the seat's roots in one cut). By AI agents, Wed Nov 11 2026. No macro, syntax, notation, axiom, sorry.
-/
import Derived.Test.YtcohcndliaaacaaChecked
import GoSem.Claim
import GoSem.ClaimJoined
import GoSem.ClaimMapViews
import Derived.JoinedTies
import Derived.KernelRfl
namespace Go.Proofs.Ytcohcndliaaacaa
/- THE CELL 'sum', in the pinned program and in every row, IS THE sha256 OF THE DUMP (.gsa) THAT YtcohcndliaaacaaProg.lean LOADS. Nothing in Lean hashes anything: it is a label: what it is worth is what the hold of that sum in a sandbox is worth. -/
noncomputable def Try.pinned : Pinned := { name := "ytcohcndliaaacaa", sum := "689c004fa9d467ebe6b000e282304c48f11b5c5357b247549c2ce3b8a5b2237d", checked := Try.checked }
namespace Rows
def none {H : Type} : Left H := { results := [], args := [] }

/-- 'laws.FnExactDiffOf': WHATEVER THE INPUT: true; the input reads as it did. -/
def fnExactDiffOfSpec : ChangeSpec := { name := "fnExactDiffOf", fn := fun _ => fun
  | [d1, d2] => { results := [.lit (.bool true)], args := [d1, d2] }
  | _ => none }
def fnExactDiffOfRow : OpenClaim := { program := "ytcohcndliaaacaa", sum := "689c004fa9d467ebe6b000e282304c48f11b5c5357b247549c2ce3b8a5b2237d", func := "loop.example/g00460/laws.FnExactDiffOf", spec := "fnExactDiffOf", inPlace := ["internal/abi.NoEscape"], unfollowed := true, recurses := true, apart := false }
def FnExactDiffOfSaid : Prop := fnExactDiffOfRow.holds Try.pinned (OpenSpec.ofChange fnExactDiffOfSpec)

/-- ITS FALSE NEIGHBOUR: 'it returns false'. Refute it at one input. -/
def fnExactDiffOfWrong : ChangeSpec := { name := "fnExactDiffOf", fn := fun _ => fun
  | [d1, d2] => { results := [.lit (.bool false)], args := [d1, d2] }
  | _ => none }
def FnExactDiffOfWrongFalsely : Prop := fnExactDiffOfRow.holds Try.pinned (OpenSpec.ofChange fnExactDiffOfWrong)

/-- 'laws.FnDiffs': WHATEVER THE INPUT: true; the input reads as it did. -/
def fnDiffsSpec : ChangeSpec := { name := "fnDiffs", fn := fun _ => fun
  | [d] => { results := [.lit (.bool true)], args := [d] }
  | _ => none }
def fnDiffsRow : OpenClaim := { program := "ytcohcndliaaacaa", sum := "689c004fa9d467ebe6b000e282304c48f11b5c5357b247549c2ce3b8a5b2237d", func := "loop.example/g00460/laws.FnDiffs", spec := "fnDiffs", inPlace := ["internal/abi.NoEscape"], unfollowed := true, recurses := true, apart := false }
def FnDiffsSaid : Prop := fnDiffsRow.holds Try.pinned (OpenSpec.ofChange fnDiffsSpec)

/-- ITS FALSE NEIGHBOUR: 'it returns false'. Refute it at one input. -/
def fnDiffsWrong : ChangeSpec := { name := "fnDiffs", fn := fun _ => fun
  | [d] => { results := [.lit (.bool false)], args := [d] }
  | _ => none }
def FnDiffsWrongFalsely : Prop := fnDiffsRow.holds Try.pinned (OpenSpec.ofChange fnDiffsWrong)

/-- 'laws.FnExactFixed': WHATEVER THE INPUT: true; the input reads as it did. -/
def fnExactFixedSpec : ChangeSpec := { name := "fnExactFixed", fn := fun _ => fun
  | [d1, d2, d3] => { results := [.lit (.bool true)], args := [d1, d2, d3] }
  | _ => none }
def fnExactFixedRow : OpenClaim := { program := "ytcohcndliaaacaa", sum := "689c004fa9d467ebe6b000e282304c48f11b5c5357b247549c2ce3b8a5b2237d", func := "loop.example/g00460/laws.FnExactFixed", spec := "fnExactFixed", inPlace := ["internal/abi.NoEscape", "internal/bytealg.MakeNoZero"], apart := false }
def FnExactFixedSaid : Prop := fnExactFixedRow.holds Try.pinned (OpenSpec.ofChange fnExactFixedSpec)

/-- ITS FALSE NEIGHBOUR: 'it returns false'. Refute it at one input. -/
def fnExactFixedWrong : ChangeSpec := { name := "fnExactFixed", fn := fun _ => fun
  | [d1, d2, d3] => { results := [.lit (.bool false)], args := [d1, d2, d3] }
  | _ => none }
def FnExactFixedWrongFalsely : Prop := fnExactFixedRow.holds Try.pinned (OpenSpec.ofChange fnExactFixedWrong)

/-- 'laws.FnBanks': WHATEVER THE INPUT: true; the input reads as it did. -/
def fnBanksSpec : ChangeSpec := { name := "fnBanks", fn := fun _ => fun
  | [d] => { results := [.lit (.bool true)], args := [d] }
  | _ => none }
def fnBanksRow : OpenClaim := { program := "ytcohcndliaaacaa", sum := "689c004fa9d467ebe6b000e282304c48f11b5c5357b247549c2ce3b8a5b2237d", func := "loop.example/g00460/laws.FnBanks", spec := "fnBanks", recurses := true, apart := false }
def FnBanksSaid : Prop := fnBanksRow.holds Try.pinned (OpenSpec.ofChange fnBanksSpec)

/-- ITS FALSE NEIGHBOUR: 'it returns false'. Refute it at one input. -/
def fnBanksWrong : ChangeSpec := { name := "fnBanks", fn := fun _ => fun
  | [d] => { results := [.lit (.bool false)], args := [d] }
  | _ => none }
def FnBanksWrongFalsely : Prop := fnBanksRow.holds Try.pinned (OpenSpec.ofChange fnBanksWrong)

/-- 'laws.FnCartReads': WHATEVER THE INPUT: true; the input reads as it did. -/
def fnCartReadsSpec : ChangeSpec := { name := "fnCartReads", fn := fun _ => fun
  | [d] => { results := [.lit (.bool true)], args := [d] }
  | _ => none }
def fnCartReadsRow : OpenClaim := { program := "ytcohcndliaaacaa", sum := "689c004fa9d467ebe6b000e282304c48f11b5c5357b247549c2ce3b8a5b2237d", func := "loop.example/g00460/laws.FnCartReads", spec := "fnCartReads", recurses := true, apart := false }
def FnCartReadsSaid : Prop := fnCartReadsRow.holds Try.pinned (OpenSpec.ofChange fnCartReadsSpec)

/-- ITS FALSE NEIGHBOUR: 'it returns false'. Refute it at one input. -/
def fnCartReadsWrong : ChangeSpec := { name := "fnCartReads", fn := fun _ => fun
  | [d] => { results := [.lit (.bool false)], args := [d] }
  | _ => none }
def FnCartReadsWrongFalsely : Prop := fnCartReadsRow.holds Try.pinned (OpenSpec.ofChange fnCartReadsWrong)

/-- 'laws.FnCartWrites': WHATEVER THE INPUT: true; the input reads as it did. -/
def fnCartWritesSpec : ChangeSpec := { name := "fnCartWrites", fn := fun _ => fun
  | [d] => { results := [.lit (.bool true)], args := [d] }
  | _ => none }
def fnCartWritesRow : OpenClaim := { program := "ytcohcndliaaacaa", sum := "689c004fa9d467ebe6b000e282304c48f11b5c5357b247549c2ce3b8a5b2237d", func := "loop.example/g00460/laws.FnCartWrites", spec := "fnCartWrites", recurses := true, apart := false }
def FnCartWritesSaid : Prop := fnCartWritesRow.holds Try.pinned (OpenSpec.ofChange fnCartWritesSpec)

/-- ITS FALSE NEIGHBOUR: 'it returns false'. Refute it at one input. -/
def fnCartWritesWrong : ChangeSpec := { name := "fnCartWrites", fn := fun _ => fun
  | [d] => { results := [.lit (.bool false)], args := [d] }
  | _ => none }
def FnCartWritesWrongFalsely : Prop := fnCartWritesRow.holds Try.pinned (OpenSpec.ofChange fnCartWritesWrong)

/-- 'laws.FnCartNew': WHATEVER THE INPUT: true; the input reads as it did. -/
def fnCartNewSpec : ChangeSpec := { name := "fnCartNew", fn := fun _ => fun
  | [d] => { results := [.lit (.bool true)], args := [d] }
  | _ => none }
def fnCartNewRow : OpenClaim := { program := "ytcohcndliaaacaa", sum := "689c004fa9d467ebe6b000e282304c48f11b5c5357b247549c2ce3b8a5b2237d", func := "loop.example/g00460/laws.FnCartNew", spec := "fnCartNew", inPlace := ["internal/abi.NoEscape", "internal/bytealg.MakeNoZero"], recurses := true, apart := false }
def FnCartNewSaid : Prop := fnCartNewRow.holds Try.pinned (OpenSpec.ofChange fnCartNewSpec)

/-- ITS FALSE NEIGHBOUR: 'it returns false'. Refute it at one input. -/
def fnCartNewWrong : ChangeSpec := { name := "fnCartNew", fn := fun _ => fun
  | [d] => { results := [.lit (.bool false)], args := [d] }
  | _ => none }
def FnCartNewWrongFalsely : Prop := fnCartNewRow.holds Try.pinned (OpenSpec.ofChange fnCartNewWrong)

/- THE SECOND FORM. 'bulk': how many values and letters a reading holds, each counted each time it is reached (what is shared counts as often as it is met; a slice's spare places count too). A statement '..UptoSaid' is the law's where the arguments, and the package variables that the reading takes, are together of bulk at most 1048576: NARROWER than '..Said'. Prove '..Said' where nothing that the law and all that it calls make is longer than what came in: it says more and counts as full. Else prove '..UptoSaid'. A law counts once. -/
mutual
def uptoBulk {H : Type} : DataW H → Nat
  | .lit (.string bytes) => bytes.length + 1
  | .lit _ => 1
  | .nil => 1
  | .ptr d => uptoBulk d + 1
  | .slice elems spare => uptoBulkAll elems + uptoBulkAll spare + 1
  | .agg parts => uptoBulkAll parts + 1
  | .iface _ d => uptoBulk d + 1
  | .map entries => uptoBulkEntries entries + 1
  | .held _ => 1
def uptoBulkAll {H : Type} : List (DataW H) → Nat
  | [] => 0
  | d :: r => uptoBulk d + uptoBulkAll r
def uptoBulkEntries {H : Type} : List (Lit × DataW H) → Nat
  | [] => 0
  | x :: r => uptoBulkEntry x + uptoBulkEntries r
def uptoBulkEntry {H : Type} : Lit × DataW H → Nat
  | (.string bytes, d) => bytes.length + uptoBulk d + 1
  | (_, d) => uptoBulk d + 1
 end
def uptoSmall : (H : Type) → List (DataW H) → Bool := fun _ ds => decide (uptoBulkAll ds ≤ 1048576)
def OpenSpec.upto (s : _root_.Go.ChangeSpec) : _root_.Go.OpenSpec := { _root_.Go.OpenSpec.ofChange s with cond := some uptoSmall }

/-- 'laws.FnExactDiffOf', WHERE WHAT IT READS IS OF BULK AT MOST 1048576: true; the input reads as it did. -/
def fnExactDiffOfUptoRow : OpenClaim := { program := "ytcohcndliaaacaa", sum := "689c004fa9d467ebe6b000e282304c48f11b5c5357b247549c2ce3b8a5b2237d", func := "loop.example/g00460/laws.FnExactDiffOf", spec := "fnExactDiffOf", inPlace := ["internal/abi.NoEscape"], unfollowed := true, recurses := true, apart := false, narrowed := true }
def FnExactDiffOfUptoSaid : Prop := fnExactDiffOfUptoRow.holds Try.pinned (OpenSpec.upto fnExactDiffOfSpec)

/-- 'laws.FnDiffs', WHERE WHAT IT READS IS OF BULK AT MOST 1048576: true; the input reads as it did. -/
def fnDiffsUptoRow : OpenClaim := { program := "ytcohcndliaaacaa", sum := "689c004fa9d467ebe6b000e282304c48f11b5c5357b247549c2ce3b8a5b2237d", func := "loop.example/g00460/laws.FnDiffs", spec := "fnDiffs", inPlace := ["internal/abi.NoEscape"], unfollowed := true, recurses := true, apart := false, narrowed := true }
def FnDiffsUptoSaid : Prop := fnDiffsUptoRow.holds Try.pinned (OpenSpec.upto fnDiffsSpec)

/-- 'laws.FnExactFixed', WHERE WHAT IT READS IS OF BULK AT MOST 1048576: true; the input reads as it did. -/
def fnExactFixedUptoRow : OpenClaim := { program := "ytcohcndliaaacaa", sum := "689c004fa9d467ebe6b000e282304c48f11b5c5357b247549c2ce3b8a5b2237d", func := "loop.example/g00460/laws.FnExactFixed", spec := "fnExactFixed", inPlace := ["internal/abi.NoEscape", "internal/bytealg.MakeNoZero"], apart := false, narrowed := true }
def FnExactFixedUptoSaid : Prop := fnExactFixedUptoRow.holds Try.pinned (OpenSpec.upto fnExactFixedSpec)

/-- 'laws.FnBanks', WHERE WHAT IT READS IS OF BULK AT MOST 1048576: true; the input reads as it did. -/
def fnBanksUptoRow : OpenClaim := { program := "ytcohcndliaaacaa", sum := "689c004fa9d467ebe6b000e282304c48f11b5c5357b247549c2ce3b8a5b2237d", func := "loop.example/g00460/laws.FnBanks", spec := "fnBanks", recurses := true, apart := false, narrowed := true }
def FnBanksUptoSaid : Prop := fnBanksUptoRow.holds Try.pinned (OpenSpec.upto fnBanksSpec)

/-- 'laws.FnCartReads', WHERE WHAT IT READS IS OF BULK AT MOST 1048576: true; the input reads as it did. -/
def fnCartReadsUptoRow : OpenClaim := { program := "ytcohcndliaaacaa", sum := "689c004fa9d467ebe6b000e282304c48f11b5c5357b247549c2ce3b8a5b2237d", func := "loop.example/g00460/laws.FnCartReads", spec := "fnCartReads", recurses := true, apart := false, narrowed := true }
def FnCartReadsUptoSaid : Prop := fnCartReadsUptoRow.holds Try.pinned (OpenSpec.upto fnCartReadsSpec)

/-- 'laws.FnCartWrites', WHERE WHAT IT READS IS OF BULK AT MOST 1048576: true; the input reads as it did. -/
def fnCartWritesUptoRow : OpenClaim := { program := "ytcohcndliaaacaa", sum := "689c004fa9d467ebe6b000e282304c48f11b5c5357b247549c2ce3b8a5b2237d", func := "loop.example/g00460/laws.FnCartWrites", spec := "fnCartWrites", recurses := true, apart := false, narrowed := true }
def FnCartWritesUptoSaid : Prop := fnCartWritesUptoRow.holds Try.pinned (OpenSpec.upto fnCartWritesSpec)

/-- 'laws.FnCartNew', WHERE WHAT IT READS IS OF BULK AT MOST 1048576: true; the input reads as it did. -/
def fnCartNewUptoRow : OpenClaim := { program := "ytcohcndliaaacaa", sum := "689c004fa9d467ebe6b000e282304c48f11b5c5357b247549c2ce3b8a5b2237d", func := "loop.example/g00460/laws.FnCartNew", spec := "fnCartNew", inPlace := ["internal/abi.NoEscape", "internal/bytealg.MakeNoZero"], recurses := true, apart := false, narrowed := true }
def FnCartNewUptoSaid : Prop := fnCartNewUptoRow.holds Try.pinned (OpenSpec.upto fnCartNewSpec)

end Rows
end Go.Proofs.Ytcohcndliaaacaa
