/-
  DERIVED. GIVEN WITH THE SEED: THE CARDS: each row of YtnildflhdkdbiaaGreatDoorRows.lean that lists a variable, with what it lists TIED to the program's text (the seventh form; the later family's looks); each row that meets fmt, with fmt's text TOLD by the authors' own Lean function (tested against real Go, not proved from fmt's source: count such statements apart). THE CARD IS WHAT COUNTS. Prove the row's statement (the work); the ties are given (YtnildflhdkdbiaaGreatDoorTie.lean); close each card by the builder's one call (the guide's Derived/Test/ToyasCard.lean, 'card_holds'). Laid BY PROGRAM, IN A SANDBOX (cutbox-door.mjs). By AI agents, Wed Nov 11 2026. No macro, syntax, notation, axiom, sorry.
-/
import Derived.Test.YtnildflhdkdbiaaGreatDoorRows
import GoSem.ClaimSeven
namespace Go.Proofs.YtnildflhdkdbiaaGreatDoor
namespace Rows

/-- THE TIED CARD OF 'cubitlaw1.NatSays'. -/
def natSaysCard : Claim7 := { stood := { row := natSaysRow, standIns := [], harness := (true, "7dfd56ba120d1fc21930253563b8ebfa14097d105c7bbff1a8c7eb6d0297c4bf"), looks := true }, kinds := [], alts := [], laidByText := true, laidKinds := [.data, .data, .data, .data, .sentinel, .sentinel, .pinned], laidTests := true, laidLooks := .later }
def NatSaysCardSaid : Prop := Claim7.holds Tryz.pinned (.plain (OpenSpec.ofChange natSaysSpec)) natSaysCard

/-- THE TIED CARD OF 'cubitlaw2.NumKnown'. -/
def numKnownCard : Claim7 := { stood := { row := numKnownRow, standIns := [], harness := (true, "7dfd56ba120d1fc21930253563b8ebfa14097d105c7bbff1a8c7eb6d0297c4bf"), looks := true }, kinds := [], alts := [], laidByText := true, laidKinds := [.data, .data, .data, .data, .sentinel, .sentinel, .pinned], laidTests := true, laidLooks := .later }
def NumKnownCardSaid : Prop := Claim7.holds Tryz.pinned (.plain (OpenSpec.ofChange numKnownSpec)) numKnownCard

/-- THE TIED CARD OF 'cubitlaw2.NumSays'. -/
def numSaysCard : Claim7 := { stood := { row := numSaysRow, standIns := [], harness := (true, "7dfd56ba120d1fc21930253563b8ebfa14097d105c7bbff1a8c7eb6d0297c4bf"), looks := true }, kinds := [], alts := [], laidByText := true, laidKinds := [.data, .data, .data, .data, .sentinel, .sentinel, .pinned], laidTests := true, laidLooks := .later }
def NumSaysCardSaid : Prop := Claim7.holds Tryz.pinned (.plain (OpenSpec.ofChange numSaysSpec)) numSaysCard

/-- THE TIED CARD OF 'cubitlaw2.NumBack'. -/
def numBackCard : Claim7 := { stood := { row := numBackRow, standIns := [], harness := (true, "7dfd56ba120d1fc21930253563b8ebfa14097d105c7bbff1a8c7eb6d0297c4bf"), looks := true }, kinds := [], alts := [], laidByText := true, laidKinds := [.data, .data, .data, .data, .sentinel, .sentinel, .pinned], laidTests := true, laidLooks := .later }
def NumBackCardSaid : Prop := Claim7.holds Tryz.pinned (.plain (OpenSpec.ofChange numBackSpec)) numBackCard

/-- THE TIED CARD OF 'cubitlaw3.RatLowest'. -/
def ratLowestCard : Claim7 := { stood := { row := ratLowestRow, standIns := [], harness := (true, "7dfd56ba120d1fc21930253563b8ebfa14097d105c7bbff1a8c7eb6d0297c4bf"), looks := true }, kinds := [], alts := [], laidByText := true, laidKinds := [.data, .data, .data, .data, .sentinel, .sentinel, .pinned], laidTests := true, laidLooks := .later }
def RatLowestCardSaid : Prop := Claim7.holds Tryz.pinned (.plain (OpenSpec.ofChange ratLowestSpec)) ratLowestCard

/-- THE TIED CARD OF 'cubitlaw3.RatFloor'. -/
def ratFloorCard : Claim7 := { stood := { row := ratFloorRow, standIns := [], harness := (true, "7dfd56ba120d1fc21930253563b8ebfa14097d105c7bbff1a8c7eb6d0297c4bf"), looks := true }, kinds := [], alts := [], laidByText := true, laidKinds := [.data, .data, .data, .data, .sentinel, .sentinel, .pinned], laidTests := true, laidLooks := .later }
def RatFloorCardSaid : Prop := Claim7.holds Tryz.pinned (.plain (OpenSpec.ofChange ratFloorSpec)) ratFloorCard

/-- THE TIED CARD OF 'cubitlaw3.RatOrder'. -/
def ratOrderCard : Claim7 := { stood := { row := ratOrderRow, standIns := [], harness := (true, "7dfd56ba120d1fc21930253563b8ebfa14097d105c7bbff1a8c7eb6d0297c4bf"), looks := true }, kinds := [], alts := [], laidByText := true, laidKinds := [.data, .data, .data, .data, .sentinel, .sentinel, .pinned], laidTests := true, laidLooks := .later }
def RatOrderCardSaid : Prop := Claim7.holds Tryz.pinned (.plain (OpenSpec.ofChange ratOrderSpec)) ratOrderCard

/-- THE TIED CARD OF 'cubitlaw3.RatField'. -/
def ratFieldCard : Claim7 := { stood := { row := ratFieldRow, standIns := [], harness := (true, "7dfd56ba120d1fc21930253563b8ebfa14097d105c7bbff1a8c7eb6d0297c4bf"), looks := true }, kinds := [], alts := [], laidByText := true, laidKinds := [.data, .data, .data, .data, .sentinel, .sentinel, .pinned], laidTests := true, laidLooks := .later }
def RatFieldCardSaid : Prop := Claim7.holds Tryz.pinned (.plain (OpenSpec.ofChange ratFieldSpec)) ratFieldCard

/-- THE TIED CARD OF 'cubitlaw3.RatSays'. -/
def ratSaysCard : Claim7 := { stood := { row := ratSaysRow, standIns := [], harness := (true, "7dfd56ba120d1fc21930253563b8ebfa14097d105c7bbff1a8c7eb6d0297c4bf"), looks := true }, kinds := [], alts := [], laidByText := true, laidKinds := [.data, .data, .data, .data, .sentinel, .sentinel, .pinned], laidTests := true, laidLooks := .later }
def RatSaysCardSaid : Prop := Claim7.holds Tryz.pinned (.plain (OpenSpec.ofChange ratSaysSpec)) ratSaysCard

/-- THE TIED CARD OF 'cubitlaw3.RatKnown'. -/
def ratKnownCard : Claim7 := { stood := { row := ratKnownRow, standIns := [], harness := (true, "7dfd56ba120d1fc21930253563b8ebfa14097d105c7bbff1a8c7eb6d0297c4bf"), looks := true }, kinds := [], alts := [], laidByText := true, laidKinds := [.data, .data, .data, .data, .sentinel, .sentinel, .pinned], laidTests := true, laidLooks := .later }
def RatKnownCardSaid : Prop := Claim7.holds Tryz.pinned (.plain (OpenSpec.ofChange ratKnownSpec)) ratKnownCard

/-- THE SECOND FORM's CARD OF 'cubitlaw1.NatSays'. -/
def natSaysUptoCard : Claim7 := { stood := { row := natSaysUptoRow, standIns := [], harness := (true, "7dfd56ba120d1fc21930253563b8ebfa14097d105c7bbff1a8c7eb6d0297c4bf"), looks := true }, kinds := [], alts := [], laidByText := true, laidKinds := [.data, .data, .data, .data, .sentinel, .sentinel, .pinned], laidTests := true, laidLooks := .later }
def NatSaysUptoCardSaid : Prop := Claim7.holds Tryz.pinned (.plain (OpenSpec.upto natSaysSpec)) natSaysUptoCard

/-- THE SECOND FORM's CARD OF 'cubitlaw2.NumKnown'. -/
def numKnownUptoCard : Claim7 := { stood := { row := numKnownUptoRow, standIns := [], harness := (true, "7dfd56ba120d1fc21930253563b8ebfa14097d105c7bbff1a8c7eb6d0297c4bf"), looks := true }, kinds := [], alts := [], laidByText := true, laidKinds := [.data, .data, .data, .data, .sentinel, .sentinel, .pinned], laidTests := true, laidLooks := .later }
def NumKnownUptoCardSaid : Prop := Claim7.holds Tryz.pinned (.plain (OpenSpec.upto numKnownSpec)) numKnownUptoCard

/-- THE SECOND FORM's CARD OF 'cubitlaw2.NumSays'. -/
def numSaysUptoCard : Claim7 := { stood := { row := numSaysUptoRow, standIns := [], harness := (true, "7dfd56ba120d1fc21930253563b8ebfa14097d105c7bbff1a8c7eb6d0297c4bf"), looks := true }, kinds := [], alts := [], laidByText := true, laidKinds := [.data, .data, .data, .data, .sentinel, .sentinel, .pinned], laidTests := true, laidLooks := .later }
def NumSaysUptoCardSaid : Prop := Claim7.holds Tryz.pinned (.plain (OpenSpec.upto numSaysSpec)) numSaysUptoCard

/-- THE SECOND FORM's CARD OF 'cubitlaw2.NumBack'. -/
def numBackUptoCard : Claim7 := { stood := { row := numBackUptoRow, standIns := [], harness := (true, "7dfd56ba120d1fc21930253563b8ebfa14097d105c7bbff1a8c7eb6d0297c4bf"), looks := true }, kinds := [], alts := [], laidByText := true, laidKinds := [.data, .data, .data, .data, .sentinel, .sentinel, .pinned], laidTests := true, laidLooks := .later }
def NumBackUptoCardSaid : Prop := Claim7.holds Tryz.pinned (.plain (OpenSpec.upto numBackSpec)) numBackUptoCard

/-- THE SECOND FORM's CARD OF 'cubitlaw3.RatLowest'. -/
def ratLowestUptoCard : Claim7 := { stood := { row := ratLowestUptoRow, standIns := [], harness := (true, "7dfd56ba120d1fc21930253563b8ebfa14097d105c7bbff1a8c7eb6d0297c4bf"), looks := true }, kinds := [], alts := [], laidByText := true, laidKinds := [.data, .data, .data, .data, .sentinel, .sentinel, .pinned], laidTests := true, laidLooks := .later }
def RatLowestUptoCardSaid : Prop := Claim7.holds Tryz.pinned (.plain (OpenSpec.upto ratLowestSpec)) ratLowestUptoCard

/-- THE SECOND FORM's CARD OF 'cubitlaw3.RatFloor'. -/
def ratFloorUptoCard : Claim7 := { stood := { row := ratFloorUptoRow, standIns := [], harness := (true, "7dfd56ba120d1fc21930253563b8ebfa14097d105c7bbff1a8c7eb6d0297c4bf"), looks := true }, kinds := [], alts := [], laidByText := true, laidKinds := [.data, .data, .data, .data, .sentinel, .sentinel, .pinned], laidTests := true, laidLooks := .later }
def RatFloorUptoCardSaid : Prop := Claim7.holds Tryz.pinned (.plain (OpenSpec.upto ratFloorSpec)) ratFloorUptoCard

/-- THE SECOND FORM's CARD OF 'cubitlaw3.RatOrder'. -/
def ratOrderUptoCard : Claim7 := { stood := { row := ratOrderUptoRow, standIns := [], harness := (true, "7dfd56ba120d1fc21930253563b8ebfa14097d105c7bbff1a8c7eb6d0297c4bf"), looks := true }, kinds := [], alts := [], laidByText := true, laidKinds := [.data, .data, .data, .data, .sentinel, .sentinel, .pinned], laidTests := true, laidLooks := .later }
def RatOrderUptoCardSaid : Prop := Claim7.holds Tryz.pinned (.plain (OpenSpec.upto ratOrderSpec)) ratOrderUptoCard

/-- THE SECOND FORM's CARD OF 'cubitlaw3.RatField'. -/
def ratFieldUptoCard : Claim7 := { stood := { row := ratFieldUptoRow, standIns := [], harness := (true, "7dfd56ba120d1fc21930253563b8ebfa14097d105c7bbff1a8c7eb6d0297c4bf"), looks := true }, kinds := [], alts := [], laidByText := true, laidKinds := [.data, .data, .data, .data, .sentinel, .sentinel, .pinned], laidTests := true, laidLooks := .later }
def RatFieldUptoCardSaid : Prop := Claim7.holds Tryz.pinned (.plain (OpenSpec.upto ratFieldSpec)) ratFieldUptoCard

/-- THE SECOND FORM's CARD OF 'cubitlaw3.RatSays'. -/
def ratSaysUptoCard : Claim7 := { stood := { row := ratSaysUptoRow, standIns := [], harness := (true, "7dfd56ba120d1fc21930253563b8ebfa14097d105c7bbff1a8c7eb6d0297c4bf"), looks := true }, kinds := [], alts := [], laidByText := true, laidKinds := [.data, .data, .data, .data, .sentinel, .sentinel, .pinned], laidTests := true, laidLooks := .later }
def RatSaysUptoCardSaid : Prop := Claim7.holds Tryz.pinned (.plain (OpenSpec.upto ratSaysSpec)) ratSaysUptoCard

/-- THE SECOND FORM's CARD OF 'cubitlaw3.RatKnown'. -/
def ratKnownUptoCard : Claim7 := { stood := { row := ratKnownUptoRow, standIns := [], harness := (true, "7dfd56ba120d1fc21930253563b8ebfa14097d105c7bbff1a8c7eb6d0297c4bf"), looks := true }, kinds := [], alts := [], laidByText := true, laidKinds := [.data, .data, .data, .data, .sentinel, .sentinel, .pinned], laidTests := true, laidLooks := .later }
def RatKnownUptoCardSaid : Prop := Claim7.holds Tryz.pinned (.plain (OpenSpec.upto ratKnownSpec)) ratKnownUptoCard
end Rows
end Go.Proofs.YtnildflhdkdbiaaGreatDoor
