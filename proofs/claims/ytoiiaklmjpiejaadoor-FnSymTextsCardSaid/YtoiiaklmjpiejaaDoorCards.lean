/-
  DERIVED. GIVEN WITH THE SEED: THE CARDS: each row of YtoiiaklmjpiejaaDoorRows.lean that lists a variable, with what it lists TIED to the program's text (the seventh form; the later family's looks); each row that meets fmt, with fmt's text TOLD by the authors' own Lean function (tested against real Go, not proved from fmt's source: count such statements apart). THE CARD IS WHAT COUNTS. Prove the row's statement (the work); the ties are given (YtoiiaklmjpiejaaDoorTie.lean); close each card by the builder's one call (the guide's Derived/Test/ToyasCard.lean, 'card_holds'). Laid BY PROGRAM, IN A SANDBOX (cutbox-door.mjs). By AI agents, Wed Nov 11 2026. No macro, syntax, notation, axiom, sorry.
-/
import Derived.Test.YtoiiaklmjpiejaaDoorRows
import GoSem.ClaimSeven
namespace Go.Proofs.YtoiiaklmjpiejaaDoor
namespace Rows

/-- THE TIED CARD OF 'laws.FnArgs'. -/
def fnArgsCard : Claim7 := { stood := { row := fnArgsRow, standIns := [], harness := (true, "066e7c50466cc2a125be6234cea7518ff4ab50bf8fad48626b78dc01723ba1cf"), looks := false }, kinds := [], alts := [], laidByText := true, laidKinds := [.data, .pinned], laidTests := true, laidLooks := .later }
def FnArgsCardSaid : Prop := Claim7.holds Tryd.pinned (.plain (OpenSpec.ofChange fnArgsSpec)) fnArgsCard

/-- THE TIED CARD OF 'laws.FnLines'. -/
def fnLinesCard : Claim7 := { stood := { row := fnLinesRow, standIns := [], harness := (true, "066e7c50466cc2a125be6234cea7518ff4ab50bf8fad48626b78dc01723ba1cf"), looks := false }, kinds := [], alts := [], laidByText := true, laidKinds := [.data, .pinned], laidTests := true, laidLooks := .later }
def FnLinesCardSaid : Prop := Claim7.holds Tryd.pinned (.plain (OpenSpec.ofChange fnLinesSpec)) fnLinesCard

/-- THE TIED CARD OF 'laws.FnSymTexts'. -/
def fnSymTextsCard : Claim7 := { stood := { row := fnSymTextsRow, standIns := [], harness := (true, "066e7c50466cc2a125be6234cea7518ff4ab50bf8fad48626b78dc01723ba1cf"), looks := false }, kinds := [], alts := [], laidByText := true, laidKinds := [.data, .data, .data, .data, .pinned, .pinned], laidTests := true, laidLooks := .later }
def FnSymTextsCardSaid : Prop := Claim7.holds Tryd.pinned (.plain (OpenSpec.ofChange fnSymTextsSpec)) fnSymTextsCard

/-- THE SECOND FORM's CARD OF 'laws.FnArgs'. -/
def fnArgsUptoCard : Claim7 := { stood := { row := fnArgsUptoRow, standIns := [], harness := (true, "066e7c50466cc2a125be6234cea7518ff4ab50bf8fad48626b78dc01723ba1cf"), looks := false }, kinds := [], alts := [], laidByText := true, laidKinds := [.data, .pinned], laidTests := true, laidLooks := .later }
def FnArgsUptoCardSaid : Prop := Claim7.holds Tryd.pinned (.plain (OpenSpec.upto fnArgsSpec)) fnArgsUptoCard

/-- THE SECOND FORM's CARD OF 'laws.FnLines'. -/
def fnLinesUptoCard : Claim7 := { stood := { row := fnLinesUptoRow, standIns := [], harness := (true, "066e7c50466cc2a125be6234cea7518ff4ab50bf8fad48626b78dc01723ba1cf"), looks := false }, kinds := [], alts := [], laidByText := true, laidKinds := [.data, .pinned], laidTests := true, laidLooks := .later }
def FnLinesUptoCardSaid : Prop := Claim7.holds Tryd.pinned (.plain (OpenSpec.upto fnLinesSpec)) fnLinesUptoCard

/-- THE SECOND FORM's CARD OF 'laws.FnSymTexts'. -/
def fnSymTextsUptoCard : Claim7 := { stood := { row := fnSymTextsUptoRow, standIns := [], harness := (true, "066e7c50466cc2a125be6234cea7518ff4ab50bf8fad48626b78dc01723ba1cf"), looks := false }, kinds := [], alts := [], laidByText := true, laidKinds := [.data, .data, .data, .data, .pinned, .pinned], laidTests := true, laidLooks := .later }
def FnSymTextsUptoCardSaid : Prop := Claim7.holds Tryd.pinned (.plain (OpenSpec.upto fnSymTextsSpec)) fnSymTextsUptoCard
end Rows
end Go.Proofs.YtoiiaklmjpiejaaDoor
