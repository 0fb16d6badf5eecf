/-
  DERIVED. GIVEN WITH THE SEED: THE CARDS: each row of YtodinbldpcldiaaGreatDoorRows.lean that lists a variable, with what it lists TIED to the program's text (the seventh form; the later family's looks); each row that meets fmt, with fmt's text TOLD by the authors' own Lean function (tested against real Go, not proved from fmt's source: count such statements apart). THE CARD IS WHAT COUNTS. Prove the row's statement (the work); the ties are given (YtodinbldpcldiaaGreatDoorTie.lean); close each card by the builder's one call (the guide's Derived/Test/ToyasCard.lean, 'card_holds'). Laid BY PROGRAM, IN A SANDBOX (cutbox-door.mjs). By AI agents, Wed Nov 11 2026. No macro, syntax, notation, axiom, sorry.
-/
import Derived.Test.YtodinbldpcldiaaGreatDoorRows
import GoSem.ClaimSeven
namespace Go.Proofs.YtodinbldpcldiaaGreatDoor
namespace Rows

/-- THE TIED CARD OF 'cubitlaw13.ConvSays'. -/
def convSaysCard : Claim7 := { stood := { row := convSaysRow, standIns := [], harness := (true, "2be95fffdc0a4315444017371039a34b06de202e0d560ed28f84dcc9c993305f"), looks := true }, kinds := [], alts := [], laidByText := true, laidKinds := [.data, .data, .data, .data, .sentinel, .sentinel, .pinned], laidTests := true, laidLooks := .later }
def ConvSaysCardSaid : Prop := Claim7.holds Tryz.pinned (.plain (OpenSpec.ofChange convSaysSpec)) convSaysCard

/-- THE TIED CARD OF 'cubitlaw13.ConvBack'. -/
def convBackCard : Claim7 := { stood := { row := convBackRow, standIns := [], harness := (true, "2be95fffdc0a4315444017371039a34b06de202e0d560ed28f84dcc9c993305f"), looks := true }, kinds := [], alts := [], laidByText := true, laidKinds := [.data, .data, .data, .data, .sentinel, .sentinel, .pinned], laidTests := true, laidLooks := .later }
def ConvBackCardSaid : Prop := Claim7.holds Tryz.pinned (.plain (OpenSpec.ofChange convBackSpec)) convBackCard

/-- THE TIED CARD OF 'cubitlaw13.ConvKnown'. -/
def convKnownCard : Claim7 := { stood := { row := convKnownRow, standIns := [], harness := (true, "2be95fffdc0a4315444017371039a34b06de202e0d560ed28f84dcc9c993305f"), looks := true }, kinds := [], alts := [], laidByText := true, laidKinds := [.data, .data, .data, .data, .sentinel, .sentinel, .pinned], laidTests := true, laidLooks := .later }
def ConvKnownCardSaid : Prop := Claim7.holds Tryz.pinned (.plain (OpenSpec.ofChange convKnownSpec)) convKnownCard

/-- THE SECOND FORM's CARD OF 'cubitlaw13.ConvSays'. -/
def convSaysUptoCard : Claim7 := { stood := { row := convSaysUptoRow, standIns := [], harness := (true, "2be95fffdc0a4315444017371039a34b06de202e0d560ed28f84dcc9c993305f"), looks := true }, kinds := [], alts := [], laidByText := true, laidKinds := [.data, .data, .data, .data, .sentinel, .sentinel, .pinned], laidTests := true, laidLooks := .later }
def ConvSaysUptoCardSaid : Prop := Claim7.holds Tryz.pinned (.plain (OpenSpec.upto convSaysSpec)) convSaysUptoCard

/-- THE SECOND FORM's CARD OF 'cubitlaw13.ConvBack'. -/
def convBackUptoCard : Claim7 := { stood := { row := convBackUptoRow, standIns := [], harness := (true, "2be95fffdc0a4315444017371039a34b06de202e0d560ed28f84dcc9c993305f"), looks := true }, kinds := [], alts := [], laidByText := true, laidKinds := [.data, .data, .data, .data, .sentinel, .sentinel, .pinned], laidTests := true, laidLooks := .later }
def ConvBackUptoCardSaid : Prop := Claim7.holds Tryz.pinned (.plain (OpenSpec.upto convBackSpec)) convBackUptoCard

/-- THE SECOND FORM's CARD OF 'cubitlaw13.ConvKnown'. -/
def convKnownUptoCard : Claim7 := { stood := { row := convKnownUptoRow, standIns := [], harness := (true, "2be95fffdc0a4315444017371039a34b06de202e0d560ed28f84dcc9c993305f"), looks := true }, kinds := [], alts := [], laidByText := true, laidKinds := [.data, .data, .data, .data, .sentinel, .sentinel, .pinned], laidTests := true, laidLooks := .later }
def ConvKnownUptoCardSaid : Prop := Claim7.holds Tryz.pinned (.plain (OpenSpec.upto convKnownSpec)) convKnownUptoCard
end Rows
end Go.Proofs.YtodinbldpcldiaaGreatDoor
