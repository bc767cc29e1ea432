/-
  DERIVED. GIVEN WITH THE SEED: THE CARDS: each row of YtcohcndliaaacaaDoorRows.lean that lists a variable, with what it lists TIED to the program's text (the seventh form; the later family's looks); each row that meets fmt, with fmt's text TOLD by the authors' own Lean function (tested against real Go, not proved from fmt's source: count such statements apart). THE CARD IS WHAT COUNTS. Prove the row's statement (the work); the ties are given (YtcohcndliaaacaaDoorTie.lean); close each card by the builder's one call (the guide's Derived/Test/ToyasCard.lean, 'card_holds'). Laid BY PROGRAM, IN A SANDBOX (cutbox-door.mjs). By AI agents, Wed Nov 11 2026. No macro, syntax, notation, axiom, sorry.
-/
import Derived.Test.YtcohcndliaaacaaDoorRows
import GoSem.ClaimSeven
namespace Go.Proofs.YtcohcndliaaacaaDoor
namespace Rows

/-- THE TIED CARD OF 'laws.FnExactHeaderOf'. -/
def fnExactHeaderOfCard : Claim7 := { stood := { row := fnExactHeaderOfRow, standIns := [], harness := (true, "5f2d3843b3f8bfcef6b34c1bfc8435785d6df170a64ab2c25172fbd4ec2abc3b"), looks := false }, kinds := [], alts := [], laidByText := true, laidKinds := [.data, .pinned], laidTests := true, laidLooks := .later }
def FnExactHeaderOfCardSaid : Prop := Claim7.holds Tryd.pinned (.plain (OpenSpec.ofChange fnExactHeaderOfSpec)) fnExactHeaderOfCard

/-- THE TIED CARD OF 'laws.FnArgs'. -/
def fnArgsCard : Claim7 := { stood := { row := fnArgsRow, standIns := [], harness := (true, "5f2d3843b3f8bfcef6b34c1bfc8435785d6df170a64ab2c25172fbd4ec2abc3b"), looks := false }, kinds := [], alts := [], laidByText := true, laidKinds := [.data, .pinned], laidTests := true, laidLooks := .later }
def FnArgsCardSaid : Prop := Claim7.holds Tryd.pinned (.plain (OpenSpec.ofChange fnArgsSpec)) fnArgsCard

/-- THE TIED CARD OF 'laws.FnHeaders'. -/
def fnHeadersCard : Claim7 := { stood := { row := fnHeadersRow, standIns := [], harness := (true, "5f2d3843b3f8bfcef6b34c1bfc8435785d6df170a64ab2c25172fbd4ec2abc3b"), looks := false }, kinds := [], alts := [], laidByText := true, laidKinds := [.data, .pinned], laidTests := true, laidLooks := .later }
def FnHeadersCardSaid : Prop := Claim7.holds Tryd.pinned (.plain (OpenSpec.ofChange fnHeadersSpec)) fnHeadersCard

/-- THE TIED CARD OF 'laws.FnHex'. -/
def fnHexCard : Claim7 := { stood := { row := fnHexRow, standIns := [], harness := (true, "5f2d3843b3f8bfcef6b34c1bfc8435785d6df170a64ab2c25172fbd4ec2abc3b"), looks := false }, kinds := [], alts := [], laidByText := true, laidKinds := [.data, .data, .data, .data, .pinned, .pinned], laidTests := true, laidLooks := .later }
def FnHexCardSaid : Prop := Claim7.holds Tryd.pinned (.plain (OpenSpec.ofChange fnHexSpec)) fnHexCard

/-- THE TIED CARD OF 'laws.FnFixed'. -/
def fnFixedCard : Claim7 := { stood := { row := fnFixedRow, standIns := [], harness := (true, "5f2d3843b3f8bfcef6b34c1bfc8435785d6df170a64ab2c25172fbd4ec2abc3b"), looks := false }, kinds := [], alts := [], laidByText := true, laidKinds := [.data, .pinned], laidTests := true, laidLooks := .later }
def FnFixedCardSaid : Prop := Claim7.holds Tryd.pinned (.plain (OpenSpec.ofChange fnFixedSpec)) fnFixedCard

/-- THE SECOND FORM's CARD OF 'laws.FnExactHeaderOf'. -/
def fnExactHeaderOfUptoCard : Claim7 := { stood := { row := fnExactHeaderOfUptoRow, standIns := [], harness := (true, "5f2d3843b3f8bfcef6b34c1bfc8435785d6df170a64ab2c25172fbd4ec2abc3b"), looks := false }, kinds := [], alts := [], laidByText := true, laidKinds := [.data, .pinned], laidTests := true, laidLooks := .later }
def FnExactHeaderOfUptoCardSaid : Prop := Claim7.holds Tryd.pinned (.plain (OpenSpec.upto fnExactHeaderOfSpec)) fnExactHeaderOfUptoCard

/-- THE SECOND FORM's CARD OF 'laws.FnArgs'. -/
def fnArgsUptoCard : Claim7 := { stood := { row := fnArgsUptoRow, standIns := [], harness := (true, "5f2d3843b3f8bfcef6b34c1bfc8435785d6df170a64ab2c25172fbd4ec2abc3b"), looks := false }, kinds := [], alts := [], laidByText := true, laidKinds := [.data, .pinned], laidTests := true, laidLooks := .later }
def FnArgsUptoCardSaid : Prop := Claim7.holds Tryd.pinned (.plain (OpenSpec.upto fnArgsSpec)) fnArgsUptoCard

/-- THE SECOND FORM's CARD OF 'laws.FnHeaders'. -/
def fnHeadersUptoCard : Claim7 := { stood := { row := fnHeadersUptoRow, standIns := [], harness := (true, "5f2d3843b3f8bfcef6b34c1bfc8435785d6df170a64ab2c25172fbd4ec2abc3b"), looks := false }, kinds := [], alts := [], laidByText := true, laidKinds := [.data, .pinned], laidTests := true, laidLooks := .later }
def FnHeadersUptoCardSaid : Prop := Claim7.holds Tryd.pinned (.plain (OpenSpec.upto fnHeadersSpec)) fnHeadersUptoCard

/-- THE SECOND FORM's CARD OF 'laws.FnHex'. -/
def fnHexUptoCard : Claim7 := { stood := { row := fnHexUptoRow, standIns := [], harness := (true, "5f2d3843b3f8bfcef6b34c1bfc8435785d6df170a64ab2c25172fbd4ec2abc3b"), looks := false }, kinds := [], alts := [], laidByText := true, laidKinds := [.data, .data, .data, .data, .pinned, .pinned], laidTests := true, laidLooks := .later }
def FnHexUptoCardSaid : Prop := Claim7.holds Tryd.pinned (.plain (OpenSpec.upto fnHexSpec)) fnHexUptoCard

/-- THE SECOND FORM's CARD OF 'laws.FnFixed'. -/
def fnFixedUptoCard : Claim7 := { stood := { row := fnFixedUptoRow, standIns := [], harness := (true, "5f2d3843b3f8bfcef6b34c1bfc8435785d6df170a64ab2c25172fbd4ec2abc3b"), looks := false }, kinds := [], alts := [], laidByText := true, laidKinds := [.data, .pinned], laidTests := true, laidLooks := .later }
def FnFixedUptoCardSaid : Prop := Claim7.holds Tryd.pinned (.plain (OpenSpec.upto fnFixedSpec)) fnFixedUptoCard
end Rows
end Go.Proofs.YtcohcndliaaacaaDoor
