/-
  DERIVED. GIVEN WITH THE SEED: THE CARDS: each row of YtgimaioeifnajaaGreatDoorRows.lean that lists a variable, with what it lists TIED to the program's text (the seventh form; the later family's looks); each row that meets fmt, with fmt's text TOLD by the authors' own Lean function (tested against real Go, not proved from fmt's source: count such statements apart). THE CARD IS WHAT COUNTS. Prove the row's statement (the work); the ties are given (YtgimaioeifnajaaGreatDoorTie.lean); close each card by the builder's one call (the guide's Derived/Test/ToyasCard.lean, 'card_holds'). Laid BY PROGRAM, IN A SANDBOX (cutbox-door.mjs). By AI agents, Wed Nov 11 2026. No macro, syntax, notation, axiom, sorry.
-/
import Derived.Test.YtgimaioeifnajaaGreatDoorRows
import GoSem.ClaimSeven
namespace Go.Proofs.YtgimaioeifnajaaGreatDoor
namespace Rows

/-- THE TIED CARD OF 'cubitlaw10.UnitShown'. -/
def unitShownCard : Claim7 := { stood := { row := unitShownRow, standIns := [], harness := (true, "b116a6ccbc3ae023a8b6555ada06896be77d3003789a7e9e69d7ee9036945307"), looks := true }, kinds := [], alts := [], laidByText := true, laidKinds := [.data, .data, .data, .data, .sentinel, .sentinel, .pinned], laidTests := true, laidLooks := .later }
def UnitShownCardSaid : Prop := Claim7.holds Tryz.pinned (.plain (OpenSpec.ofChange unitShownSpec)) unitShownCard

/-- THE TIED CARD OF 'cubitlaw10.UnitBack'. -/
def unitBackCard : Claim7 := { stood := { row := unitBackRow, standIns := [], harness := (true, "b116a6ccbc3ae023a8b6555ada06896be77d3003789a7e9e69d7ee9036945307"), looks := true }, kinds := [], alts := [], laidByText := true, laidKinds := [.data, .data, .data, .data, .sentinel, .sentinel, .pinned], laidTests := true, laidLooks := .later }
def UnitBackCardSaid : Prop := Claim7.holds Tryz.pinned (.plain (OpenSpec.ofChange unitBackSpec)) unitBackCard

/-- THE TIED CARD OF 'cubitlaw10.UnitSays'. -/
def unitSaysCard : Claim7 := { stood := { row := unitSaysRow, standIns := [], harness := (true, "b116a6ccbc3ae023a8b6555ada06896be77d3003789a7e9e69d7ee9036945307"), looks := true }, kinds := [], alts := [], laidByText := true, laidKinds := [.data, .data, .data, .data, .sentinel, .sentinel, .pinned], laidTests := true, laidLooks := .later }
def UnitSaysCardSaid : Prop := Claim7.holds Tryz.pinned (.plain (OpenSpec.ofChange unitSaysSpec)) unitSaysCard

/-- THE TIED CARD OF 'cubitlaw10.UnitKnown'. -/
def unitKnownCard : Claim7 := { stood := { row := unitKnownRow, standIns := [], harness := (true, "b116a6ccbc3ae023a8b6555ada06896be77d3003789a7e9e69d7ee9036945307"), looks := true }, kinds := [], alts := [], laidByText := true, laidKinds := [.data, .data, .data, .data, .sentinel, .sentinel, .pinned], laidTests := true, laidLooks := .later }
def UnitKnownCardSaid : Prop := Claim7.holds Tryz.pinned (.plain (OpenSpec.ofChange unitKnownSpec)) unitKnownCard

/-- THE TIED CARD OF 'cubitlaw10.UnitOrder'. -/
def unitOrderCard : Claim7 := { stood := { row := unitOrderRow, standIns := [], harness := (true, "b116a6ccbc3ae023a8b6555ada06896be77d3003789a7e9e69d7ee9036945307"), looks := true }, kinds := [], alts := [], laidByText := true, laidKinds := [.data, .data, .data, .data, .sentinel, .sentinel, .pinned], laidTests := true, laidLooks := .later }
def UnitOrderCardSaid : Prop := Claim7.holds Tryz.pinned (.plain (OpenSpec.ofChange unitOrderSpec)) unitOrderCard

/-- THE SECOND FORM's CARD OF 'cubitlaw10.UnitShown'. -/
def unitShownUptoCard : Claim7 := { stood := { row := unitShownUptoRow, standIns := [], harness := (true, "b116a6ccbc3ae023a8b6555ada06896be77d3003789a7e9e69d7ee9036945307"), looks := true }, kinds := [], alts := [], laidByText := true, laidKinds := [.data, .data, .data, .data, .sentinel, .sentinel, .pinned], laidTests := true, laidLooks := .later }
def UnitShownUptoCardSaid : Prop := Claim7.holds Tryz.pinned (.plain (OpenSpec.upto unitShownSpec)) unitShownUptoCard

/-- THE SECOND FORM's CARD OF 'cubitlaw10.UnitBack'. -/
def unitBackUptoCard : Claim7 := { stood := { row := unitBackUptoRow, standIns := [], harness := (true, "b116a6ccbc3ae023a8b6555ada06896be77d3003789a7e9e69d7ee9036945307"), looks := true }, kinds := [], alts := [], laidByText := true, laidKinds := [.data, .data, .data, .data, .sentinel, .sentinel, .pinned], laidTests := true, laidLooks := .later }
def UnitBackUptoCardSaid : Prop := Claim7.holds Tryz.pinned (.plain (OpenSpec.upto unitBackSpec)) unitBackUptoCard

/-- THE SECOND FORM's CARD OF 'cubitlaw10.UnitSays'. -/
def unitSaysUptoCard : Claim7 := { stood := { row := unitSaysUptoRow, standIns := [], harness := (true, "b116a6ccbc3ae023a8b6555ada06896be77d3003789a7e9e69d7ee9036945307"), looks := true }, kinds := [], alts := [], laidByText := true, laidKinds := [.data, .data, .data, .data, .sentinel, .sentinel, .pinned], laidTests := true, laidLooks := .later }
def UnitSaysUptoCardSaid : Prop := Claim7.holds Tryz.pinned (.plain (OpenSpec.upto unitSaysSpec)) unitSaysUptoCard

/-- THE SECOND FORM's CARD OF 'cubitlaw10.UnitKnown'. -/
def unitKnownUptoCard : Claim7 := { stood := { row := unitKnownUptoRow, standIns := [], harness := (true, "b116a6ccbc3ae023a8b6555ada06896be77d3003789a7e9e69d7ee9036945307"), looks := true }, kinds := [], alts := [], laidByText := true, laidKinds := [.data, .data, .data, .data, .sentinel, .sentinel, .pinned], laidTests := true, laidLooks := .later }
def UnitKnownUptoCardSaid : Prop := Claim7.holds Tryz.pinned (.plain (OpenSpec.upto unitKnownSpec)) unitKnownUptoCard

/-- THE SECOND FORM's CARD OF 'cubitlaw10.UnitOrder'. -/
def unitOrderUptoCard : Claim7 := { stood := { row := unitOrderUptoRow, standIns := [], harness := (true, "b116a6ccbc3ae023a8b6555ada06896be77d3003789a7e9e69d7ee9036945307"), looks := true }, kinds := [], alts := [], laidByText := true, laidKinds := [.data, .data, .data, .data, .sentinel, .sentinel, .pinned], laidTests := true, laidLooks := .later }
def UnitOrderUptoCardSaid : Prop := Claim7.holds Tryz.pinned (.plain (OpenSpec.upto unitOrderSpec)) unitOrderUptoCard
end Rows
end Go.Proofs.YtgimaioeifnajaaGreatDoor
