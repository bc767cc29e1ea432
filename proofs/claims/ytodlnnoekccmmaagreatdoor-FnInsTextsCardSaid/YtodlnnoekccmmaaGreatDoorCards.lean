/-
  DERIVED. GIVEN WITH THE SEED: THE CARDS: each row of YtodlnnoekccmmaaGreatDoorRows.lean that lists a variable, with what it lists TIED to the program's text (the seventh form; the later family's looks); each row that meets fmt, with fmt's text TOLD by the authors' own Lean function (tested against real Go, not proved from fmt's source: count such statements apart). THE CARD IS WHAT COUNTS. Prove the row's statement (the work); the ties are given (YtodlnnoekccmmaaGreatDoorTie.lean); close each card by the builder's one call (the guide's Derived/Test/ToyasCard.lean, 'card_holds'). Laid BY PROGRAM, IN A SANDBOX (cutbox-door.mjs). By AI agents, Wed Nov 11 2026. No macro, syntax, notation, axiom, sorry.
-/
import Derived.Test.YtodlnnoekccmmaaGreatDoorRows
import GoSem.ClaimSeven
namespace Go.Proofs.YtodlnnoekccmmaaGreatDoor
namespace Rows

/-- THE TIED CARD OF 'laws.FnLengths'. -/
def fnLengthsCard : Claim7 := { stood := { row := fnLengthsRow, standIns := [], harness := (true, "2896792d17750430d5763ebf8665cb68eaea4013b1a31d798290b283c502cfcf"), looks := true }, kinds := [], alts := [], laidByText := true, laidKinds := [.data, .data, .data, .data, .pinned, .pinned], laidTests := true, laidLooks := .later }
def FnLengthsCardSaid : Prop := Claim7.holds Tryz.pinned (.plain (OpenSpec.ofChange fnLengthsSpec)) fnLengthsCard

/-- THE TIED CARD OF 'laws.FnIns'. -/
def fnInsCard : Claim7 := { stood := { row := fnInsRow, standIns := [], harness := (true, "2896792d17750430d5763ebf8665cb68eaea4013b1a31d798290b283c502cfcf"), looks := true }, kinds := [], alts := [], laidByText := true, laidKinds := [.data, .data, .data, .data, .pinned, .pinned], laidTests := true, laidLooks := .later }
def FnInsCardSaid : Prop := Claim7.holds Tryz.pinned (.plain (OpenSpec.ofChange fnInsSpec)) fnInsCard

/-- THE TIED CARD OF 'laws.FnReadIns'. -/
def fnReadInsCard : Claim7 := { stood := { row := fnReadInsRow, standIns := [], harness := (true, "2896792d17750430d5763ebf8665cb68eaea4013b1a31d798290b283c502cfcf"), looks := true }, kinds := [], alts := [], laidByText := true, laidKinds := [.data, .data, .data, .data, .pinned, .pinned], laidTests := true, laidLooks := .later }
def FnReadInsCardSaid : Prop := Claim7.holds Tryz.pinned (.plain (OpenSpec.ofChange fnReadInsSpec)) fnReadInsCard

/-- THE TIED CARD OF 'laws.FnInsTexts'. -/
def fnInsTextsCard : Claim7 := { stood := { row := fnInsTextsRow, standIns := [], harness := (true, "2896792d17750430d5763ebf8665cb68eaea4013b1a31d798290b283c502cfcf"), looks := true }, kinds := [], alts := [], laidByText := true, laidKinds := [.data, .data, .data, .data, .sentinel, .sentinel, .pinned, .pinned], laidTests := true, laidLooks := .later }
def FnInsTextsCardSaid : Prop := Claim7.holds Tryz.pinned (.plain (OpenSpec.ofChange fnInsTextsSpec)) fnInsTextsCard

/-- THE TIED CARD OF 'laws.FnExactMarksOf'. -/
def fnExactMarksOfCard : Claim7 := { stood := { row := fnExactMarksOfRow, standIns := [], harness := (true, "2896792d17750430d5763ebf8665cb68eaea4013b1a31d798290b283c502cfcf"), looks := true }, kinds := [], alts := [], laidByText := true, laidKinds := [.data, .data, .data, .data, .pinned, .pinned], laidTests := true, laidLooks := .later }
def FnExactMarksOfCardSaid : Prop := Claim7.holds Tryz.pinned (.plain (OpenSpec.ofChange fnExactMarksOfSpec)) fnExactMarksOfCard

/-- THE TIED CARD OF 'laws.FnMarks'. -/
def fnMarksCard : Claim7 := { stood := { row := fnMarksRow, standIns := [], harness := (true, "2896792d17750430d5763ebf8665cb68eaea4013b1a31d798290b283c502cfcf"), looks := true }, kinds := [], alts := [], laidByText := true, laidKinds := [.data, .data, .data, .data, .pinned, .pinned], laidTests := true, laidLooks := .later }
def FnMarksCardSaid : Prop := Claim7.holds Tryz.pinned (.plain (OpenSpec.ofChange fnMarksSpec)) fnMarksCard

/-- THE TIED CARD OF 'laws.FnExactListed'. -/
def fnExactListedCard : Claim7 := { stood := { row := fnExactListedRow, standIns := [], harness := (true, "2896792d17750430d5763ebf8665cb68eaea4013b1a31d798290b283c502cfcf"), looks := true }, kinds := [], alts := [], laidByText := true, laidKinds := [.data, .data, .data, .data, .pinned, .pinned], laidTests := true, laidLooks := .later }
def FnExactListedCardSaid : Prop := Claim7.holds Tryz.pinned (.plain (OpenSpec.ofChange fnExactListedSpec)) fnExactListedCard

/-- THE TIED CARD OF 'laws.FnExactSourceOf'. -/
def fnExactSourceOfCard : Claim7 := { stood := { row := fnExactSourceOfRow, standIns := [], harness := (true, "2896792d17750430d5763ebf8665cb68eaea4013b1a31d798290b283c502cfcf"), looks := true }, kinds := [], alts := [], laidByText := true, laidKinds := [.data, .data, .data, .data, .pinned, .pinned], laidTests := true, laidLooks := .later }
def FnExactSourceOfCardSaid : Prop := Claim7.holds Tryz.pinned (.plain (OpenSpec.ofChange fnExactSourceOfSpec)) fnExactSourceOfCard

/-- THE SECOND FORM's CARD OF 'laws.FnLengths'. -/
def fnLengthsUptoCard : Claim7 := { stood := { row := fnLengthsUptoRow, standIns := [], harness := (true, "2896792d17750430d5763ebf8665cb68eaea4013b1a31d798290b283c502cfcf"), looks := true }, kinds := [], alts := [], laidByText := true, laidKinds := [.data, .data, .data, .data, .pinned, .pinned], laidTests := true, laidLooks := .later }
def FnLengthsUptoCardSaid : Prop := Claim7.holds Tryz.pinned (.plain (OpenSpec.upto fnLengthsSpec)) fnLengthsUptoCard

/-- THE SECOND FORM's CARD OF 'laws.FnIns'. -/
def fnInsUptoCard : Claim7 := { stood := { row := fnInsUptoRow, standIns := [], harness := (true, "2896792d17750430d5763ebf8665cb68eaea4013b1a31d798290b283c502cfcf"), looks := true }, kinds := [], alts := [], laidByText := true, laidKinds := [.data, .data, .data, .data, .pinned, .pinned], laidTests := true, laidLooks := .later }
def FnInsUptoCardSaid : Prop := Claim7.holds Tryz.pinned (.plain (OpenSpec.upto fnInsSpec)) fnInsUptoCard

/-- THE SECOND FORM's CARD OF 'laws.FnReadIns'. -/
def fnReadInsUptoCard : Claim7 := { stood := { row := fnReadInsUptoRow, standIns := [], harness := (true, "2896792d17750430d5763ebf8665cb68eaea4013b1a31d798290b283c502cfcf"), looks := true }, kinds := [], alts := [], laidByText := true, laidKinds := [.data, .data, .data, .data, .pinned, .pinned], laidTests := true, laidLooks := .later }
def FnReadInsUptoCardSaid : Prop := Claim7.holds Tryz.pinned (.plain (OpenSpec.upto fnReadInsSpec)) fnReadInsUptoCard

/-- THE SECOND FORM's CARD OF 'laws.FnInsTexts'. -/
def fnInsTextsUptoCard : Claim7 := { stood := { row := fnInsTextsUptoRow, standIns := [], harness := (true, "2896792d17750430d5763ebf8665cb68eaea4013b1a31d798290b283c502cfcf"), looks := true }, kinds := [], alts := [], laidByText := true, laidKinds := [.data, .data, .data, .data, .sentinel, .sentinel, .pinned, .pinned], laidTests := true, laidLooks := .later }
def FnInsTextsUptoCardSaid : Prop := Claim7.holds Tryz.pinned (.plain (OpenSpec.upto fnInsTextsSpec)) fnInsTextsUptoCard

/-- THE SECOND FORM's CARD OF 'laws.FnExactMarksOf'. -/
def fnExactMarksOfUptoCard : Claim7 := { stood := { row := fnExactMarksOfUptoRow, standIns := [], harness := (true, "2896792d17750430d5763ebf8665cb68eaea4013b1a31d798290b283c502cfcf"), looks := true }, kinds := [], alts := [], laidByText := true, laidKinds := [.data, .data, .data, .data, .pinned, .pinned], laidTests := true, laidLooks := .later }
def FnExactMarksOfUptoCardSaid : Prop := Claim7.holds Tryz.pinned (.plain (OpenSpec.upto fnExactMarksOfSpec)) fnExactMarksOfUptoCard

/-- THE SECOND FORM's CARD OF 'laws.FnMarks'. -/
def fnMarksUptoCard : Claim7 := { stood := { row := fnMarksUptoRow, standIns := [], harness := (true, "2896792d17750430d5763ebf8665cb68eaea4013b1a31d798290b283c502cfcf"), looks := true }, kinds := [], alts := [], laidByText := true, laidKinds := [.data, .data, .data, .data, .pinned, .pinned], laidTests := true, laidLooks := .later }
def FnMarksUptoCardSaid : Prop := Claim7.holds Tryz.pinned (.plain (OpenSpec.upto fnMarksSpec)) fnMarksUptoCard

/-- THE SECOND FORM's CARD OF 'laws.FnExactListed'. -/
def fnExactListedUptoCard : Claim7 := { stood := { row := fnExactListedUptoRow, standIns := [], harness := (true, "2896792d17750430d5763ebf8665cb68eaea4013b1a31d798290b283c502cfcf"), looks := true }, kinds := [], alts := [], laidByText := true, laidKinds := [.data, .data, .data, .data, .pinned, .pinned], laidTests := true, laidLooks := .later }
def FnExactListedUptoCardSaid : Prop := Claim7.holds Tryz.pinned (.plain (OpenSpec.upto fnExactListedSpec)) fnExactListedUptoCard

/-- THE SECOND FORM's CARD OF 'laws.FnExactSourceOf'. -/
def fnExactSourceOfUptoCard : Claim7 := { stood := { row := fnExactSourceOfUptoRow, standIns := [], harness := (true, "2896792d17750430d5763ebf8665cb68eaea4013b1a31d798290b283c502cfcf"), looks := true }, kinds := [], alts := [], laidByText := true, laidKinds := [.data, .data, .data, .data, .pinned, .pinned], laidTests := true, laidLooks := .later }
def FnExactSourceOfUptoCardSaid : Prop := Claim7.holds Tryz.pinned (.plain (OpenSpec.upto fnExactSourceOfSpec)) fnExactSourceOfUptoCard
end Rows
end Go.Proofs.YtodlnnoekccmmaaGreatDoor
