/-
  DERIVED. GIVEN WITH THE SEED: THE CARDS: each row of YtapikjmijmebpaaDoorRows.lean that lists a variable, with what it lists TIED to the program's text (the seventh form; the later family's looks); each row that meets fmt, with fmt's text TOLD by the authors' own Lean function (tested against real Go, not proved from fmt's source: count such statements apart). THE CARD IS WHAT COUNTS. Prove the row's statement (the work); the ties are given (YtapikjmijmebpaaDoorTie.lean); close each card by the builder's one call (the guide's Derived/Test/ToyasCard.lean, 'card_holds'). Laid BY PROGRAM, IN A SANDBOX (cutbox-door.mjs). By AI agents, Wed Nov 11 2026. No macro, syntax, notation, axiom, sorry.
-/
import Derived.Test.YtapikjmijmebpaaDoorRows
import GoSem.ClaimSeven
namespace Go.Proofs.YtapikjmijmebpaaDoor
namespace Rows

/-- THE TIED CARD OF 'cubitlaw5.RoundDigits'. -/
def roundDigitsCard : Claim7 := { stood := { row := roundDigitsRow, standIns := [], harness := (true, "92eec6fc473b808bd27c1448a8121cf88b60fe66c8b5da239741d4b5b1d95014"), looks := false }, kinds := [], alts := [], laidByText := true, laidKinds := [.data, .data, .data], laidTests := true, laidLooks := .later }
def RoundDigitsCardSaid : Prop := Claim7.holds Tryd.pinned (.plain (OpenSpec.ofChange roundDigitsSpec)) roundDigitsCard

/-- THE TIED CARD OF 'cubitlaw5.RoundModes'. -/
def roundModesCard : Claim7 := { stood := { row := roundModesRow, standIns := [], harness := (true, "92eec6fc473b808bd27c1448a8121cf88b60fe66c8b5da239741d4b5b1d95014"), looks := false }, kinds := [], alts := [], laidByText := true, laidKinds := [.data, .data, .data], laidTests := true, laidLooks := .later }
def RoundModesCardSaid : Prop := Claim7.holds Tryd.pinned (.plain (OpenSpec.ofChange roundModesSpec)) roundModesCard

/-- THE TIED CARD OF 'cubitlaw5.RoundNear'. -/
def roundNearCard : Claim7 := { stood := { row := roundNearRow, standIns := [], harness := (true, "92eec6fc473b808bd27c1448a8121cf88b60fe66c8b5da239741d4b5b1d95014"), looks := false }, kinds := [], alts := [], laidByText := true, laidKinds := [.data, .data, .data], laidTests := true, laidLooks := .later }
def RoundNearCardSaid : Prop := Claim7.holds Tryd.pinned (.plain (OpenSpec.ofChange roundNearSpec)) roundNearCard

/-- THE TIED CARD OF 'cubitlaw5.RoundOrder'. -/
def roundOrderCard : Claim7 := { stood := { row := roundOrderRow, standIns := [], harness := (true, "92eec6fc473b808bd27c1448a8121cf88b60fe66c8b5da239741d4b5b1d95014"), looks := false }, kinds := [], alts := [], laidByText := true, laidKinds := [.data, .data, .data], laidTests := true, laidLooks := .later }
def RoundOrderCardSaid : Prop := Claim7.holds Tryd.pinned (.plain (OpenSpec.ofChange roundOrderSpec)) roundOrderCard

/-- THE TIED CARD OF 'cubitlaw5.RoundKnown'. -/
def roundKnownCard : Claim7 := { stood := { row := roundKnownRow, standIns := [], harness := (true, "92eec6fc473b808bd27c1448a8121cf88b60fe66c8b5da239741d4b5b1d95014"), looks := false }, kinds := [], alts := [], laidByText := true, laidKinds := [.data, .data, .data], laidTests := true, laidLooks := .later }
def RoundKnownCardSaid : Prop := Claim7.holds Tryd.pinned (.plain (OpenSpec.ofChange roundKnownSpec)) roundKnownCard

/-- THE TIED CARD OF 'cubitlaw5.RoundSteps'. -/
def roundStepsCard : Claim7 := { stood := { row := roundStepsRow, standIns := [], harness := (true, "92eec6fc473b808bd27c1448a8121cf88b60fe66c8b5da239741d4b5b1d95014"), looks := false }, kinds := [], alts := [], laidByText := true, laidKinds := [.data, .data, .data], laidTests := true, laidLooks := .later }
def RoundStepsCardSaid : Prop := Claim7.holds Tryd.pinned (.plain (OpenSpec.ofChange roundStepsSpec)) roundStepsCard

/-- THE SECOND FORM's CARD OF 'cubitlaw5.RoundDigits'. -/
def roundDigitsUptoCard : Claim7 := { stood := { row := roundDigitsUptoRow, standIns := [], harness := (true, "92eec6fc473b808bd27c1448a8121cf88b60fe66c8b5da239741d4b5b1d95014"), looks := false }, kinds := [], alts := [], laidByText := true, laidKinds := [.data, .data, .data], laidTests := true, laidLooks := .later }
def RoundDigitsUptoCardSaid : Prop := Claim7.holds Tryd.pinned (.plain (OpenSpec.upto roundDigitsSpec)) roundDigitsUptoCard

/-- THE SECOND FORM's CARD OF 'cubitlaw5.RoundModes'. -/
def roundModesUptoCard : Claim7 := { stood := { row := roundModesUptoRow, standIns := [], harness := (true, "92eec6fc473b808bd27c1448a8121cf88b60fe66c8b5da239741d4b5b1d95014"), looks := false }, kinds := [], alts := [], laidByText := true, laidKinds := [.data, .data, .data], laidTests := true, laidLooks := .later }
def RoundModesUptoCardSaid : Prop := Claim7.holds Tryd.pinned (.plain (OpenSpec.upto roundModesSpec)) roundModesUptoCard

/-- THE SECOND FORM's CARD OF 'cubitlaw5.RoundNear'. -/
def roundNearUptoCard : Claim7 := { stood := { row := roundNearUptoRow, standIns := [], harness := (true, "92eec6fc473b808bd27c1448a8121cf88b60fe66c8b5da239741d4b5b1d95014"), looks := false }, kinds := [], alts := [], laidByText := true, laidKinds := [.data, .data, .data], laidTests := true, laidLooks := .later }
def RoundNearUptoCardSaid : Prop := Claim7.holds Tryd.pinned (.plain (OpenSpec.upto roundNearSpec)) roundNearUptoCard

/-- THE SECOND FORM's CARD OF 'cubitlaw5.RoundOrder'. -/
def roundOrderUptoCard : Claim7 := { stood := { row := roundOrderUptoRow, standIns := [], harness := (true, "92eec6fc473b808bd27c1448a8121cf88b60fe66c8b5da239741d4b5b1d95014"), looks := false }, kinds := [], alts := [], laidByText := true, laidKinds := [.data, .data, .data], laidTests := true, laidLooks := .later }
def RoundOrderUptoCardSaid : Prop := Claim7.holds Tryd.pinned (.plain (OpenSpec.upto roundOrderSpec)) roundOrderUptoCard

/-- THE SECOND FORM's CARD OF 'cubitlaw5.RoundKnown'. -/
def roundKnownUptoCard : Claim7 := { stood := { row := roundKnownUptoRow, standIns := [], harness := (true, "92eec6fc473b808bd27c1448a8121cf88b60fe66c8b5da239741d4b5b1d95014"), looks := false }, kinds := [], alts := [], laidByText := true, laidKinds := [.data, .data, .data], laidTests := true, laidLooks := .later }
def RoundKnownUptoCardSaid : Prop := Claim7.holds Tryd.pinned (.plain (OpenSpec.upto roundKnownSpec)) roundKnownUptoCard

/-- THE SECOND FORM's CARD OF 'cubitlaw5.RoundSteps'. -/
def roundStepsUptoCard : Claim7 := { stood := { row := roundStepsUptoRow, standIns := [], harness := (true, "92eec6fc473b808bd27c1448a8121cf88b60fe66c8b5da239741d4b5b1d95014"), looks := false }, kinds := [], alts := [], laidByText := true, laidKinds := [.data, .data, .data], laidTests := true, laidLooks := .later }
def RoundStepsUptoCardSaid : Prop := Claim7.holds Tryd.pinned (.plain (OpenSpec.upto roundStepsSpec)) roundStepsUptoCard
end Rows
end Go.Proofs.YtapikjmijmebpaaDoor
