/-
  DERIVED. GIVEN WITH THE SEED: THE CARDS: each row of YtodlnnoekccmmaaDoorRows.lean that lists a variable, with what it lists TIED to the program's text (the seventh form; the later family's looks); each row that meets fmt, with fmt's text TOLD by the authors' own Lean function (tested against real Go, not proved from fmt's source: count such statements apart). THE CARD IS WHAT COUNTS. Prove the row's statement (the work); the ties are given (YtodlnnoekccmmaaDoorTie.lean); close each card by the builder's one call (the guide's Derived/Test/ToyasCard.lean, 'card_holds'). Laid BY PROGRAM, IN A SANDBOX (cutbox-door.mjs). By AI agents, Wed Nov 11 2026. No macro, syntax, notation, axiom, sorry.
-/
import Derived.Test.YtodlnnoekccmmaaDoorRows
import GoSem.ClaimSeven
namespace Go.Proofs.YtodlnnoekccmmaaDoor
namespace Rows

/-- THE TIED CARD OF 'laws.FnHex'. -/
def fnHexCard : Claim7 := { stood := { row := fnHexRow, standIns := [], harness := (true, "c89f4a7d47bb366dc4ed9f9d7ffa4e529ff920baed59b7e437ca50f879905d33"), looks := false }, kinds := [], alts := [], laidByText := true, laidKinds := [.data, .data, .data, .data, .pinned, .pinned], laidTests := true, laidLooks := .later }
def FnHexCardSaid : Prop := Claim7.holds Tryd.pinned (.plain (OpenSpec.ofChange fnHexSpec)) fnHexCard

/-- THE TIED CARD OF 'laws.FnTemplates'. -/
def fnTemplatesCard : Claim7 := { stood := { row := fnTemplatesRow, standIns := [], harness := (true, "c89f4a7d47bb366dc4ed9f9d7ffa4e529ff920baed59b7e437ca50f879905d33"), looks := false }, kinds := [], alts := [], laidByText := true, laidKinds := [.data, .data, .data, .data, .pinned, .pinned], laidTests := true, laidLooks := .later }
def FnTemplatesCardSaid : Prop := Claim7.holds Tryd.pinned (.plain (OpenSpec.ofChange fnTemplatesSpec)) fnTemplatesCard

/-- THE SECOND FORM's CARD OF 'laws.FnHex'. -/
def fnHexUptoCard : Claim7 := { stood := { row := fnHexUptoRow, standIns := [], harness := (true, "c89f4a7d47bb366dc4ed9f9d7ffa4e529ff920baed59b7e437ca50f879905d33"), looks := false }, kinds := [], alts := [], laidByText := true, laidKinds := [.data, .data, .data, .data, .pinned, .pinned], laidTests := true, laidLooks := .later }
def FnHexUptoCardSaid : Prop := Claim7.holds Tryd.pinned (.plain (OpenSpec.upto fnHexSpec)) fnHexUptoCard

/-- THE SECOND FORM's CARD OF 'laws.FnTemplates'. -/
def fnTemplatesUptoCard : Claim7 := { stood := { row := fnTemplatesUptoRow, standIns := [], harness := (true, "c89f4a7d47bb366dc4ed9f9d7ffa4e529ff920baed59b7e437ca50f879905d33"), looks := false }, kinds := [], alts := [], laidByText := true, laidKinds := [.data, .data, .data, .data, .pinned, .pinned], laidTests := true, laidLooks := .later }
def FnTemplatesUptoCardSaid : Prop := Claim7.holds Tryd.pinned (.plain (OpenSpec.upto fnTemplatesSpec)) fnTemplatesUptoCard
end Rows
end Go.Proofs.YtodlnnoekccmmaaDoor
