/-
  DERIVED. GIVEN WITH THE SEED: THE CARDS: each row of YtabbdfchibjndaaGreatDoorRows.lean that lists a variable, with what it lists TIED to the program's text (the seventh form; the later family's looks); each row that meets fmt, with fmt's text TOLD by the authors' own Lean function (tested against real Go, not proved from fmt's source: count such statements apart). THE CARD IS WHAT COUNTS. Prove the row's statement (the work); the ties are given (YtabbdfchibjndaaGreatDoorTie.lean); close each card by the builder's one call (the guide's Derived/Test/ToyasCard.lean, 'card_holds'). Laid BY PROGRAM, IN A SANDBOX (cutbox-door.mjs). By AI agents, Wed Nov 11 2026. No macro, syntax, notation, axiom, sorry.
-/
import Derived.Test.YtabbdfchibjndaaGreatDoorRows
import GoSem.ClaimSeven
namespace Go.Proofs.YtabbdfchibjndaaGreatDoor
namespace Rows

/-- THE TIED CARD OF 'laws.FnExprTexts'. -/
def fnExprTextsCard : Claim7 := { stood := { row := fnExprTextsRow, standIns := [], harness := (true, "47daa87c6257e71e045a29b1422288f62b2fbc5e4ffe0e88421285095d433d6f"), looks := true }, kinds := [], alts := [], laidByText := true, laidKinds := [.data, .data, .data, .data, .sentinel, .sentinel, .pinned], laidTests := true, laidLooks := .later }
def FnExprTextsCardSaid : Prop := Claim7.holds Tryz.pinned (.plain (OpenSpec.ofChange fnExprTextsSpec)) fnExprTextsCard

/-- THE SECOND FORM's CARD OF 'laws.FnExprTexts'. -/
def fnExprTextsUptoCard : Claim7 := { stood := { row := fnExprTextsUptoRow, standIns := [], harness := (true, "47daa87c6257e71e045a29b1422288f62b2fbc5e4ffe0e88421285095d433d6f"), looks := true }, kinds := [], alts := [], laidByText := true, laidKinds := [.data, .data, .data, .data, .sentinel, .sentinel, .pinned], laidTests := true, laidLooks := .later }
def FnExprTextsUptoCardSaid : Prop := Claim7.holds Tryz.pinned (.plain (OpenSpec.upto fnExprTextsSpec)) fnExprTextsUptoCard
end Rows
end Go.Proofs.YtabbdfchibjndaaGreatDoor
