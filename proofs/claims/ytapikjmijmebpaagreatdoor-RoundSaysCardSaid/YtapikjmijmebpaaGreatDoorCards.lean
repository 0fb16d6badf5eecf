/-
  DERIVED. GIVEN WITH THE SEED: THE CARDS: each row of YtapikjmijmebpaaGreatDoorRows.lean that lists a variable, with what it lists TIED to the program's text (the seventh form; the later family's looks); each row that meets fmt, with fmt's text TOLD by the authors' own Lean function (tested against real Go, not proved from fmt's source: count such statements apart). THE CARD IS WHAT COUNTS. Prove the row's statement (the work); the ties are given (YtapikjmijmebpaaGreatDoorTie.lean); close each card by the builder's one call (the guide's Derived/Test/ToyasCard.lean, 'card_holds'). Laid BY PROGRAM, IN A SANDBOX (cutbox-door.mjs). By AI agents, Wed Nov 11 2026. No macro, syntax, notation, axiom, sorry.
-/
import Derived.Test.YtapikjmijmebpaaGreatDoorRows
import GoSem.ClaimSeven
namespace Go.Proofs.YtapikjmijmebpaaGreatDoor
namespace Rows

/-- THE TIED CARD OF 'cubitlaw5.RoundSays'. -/
def roundSaysCard : Claim7 := { stood := { row := roundSaysRow, standIns := [], harness := (true, "9df416f6f2cc18fa69dfc91486662e1bc55102dfb8be35faf72df4468a7a3e36"), looks := true }, kinds := [], alts := [], laidByText := true, laidKinds := [.data, .data, .data], laidTests := true, laidLooks := .later }
def RoundSaysCardSaid : Prop := Claim7.holds Tryz.pinned (.plain (OpenSpec.ofChange roundSaysSpec)) roundSaysCard

/-- THE TIED CARD OF 'cubitlaw4.DecParts'. -/
def decPartsCard : Claim7 := { stood := { row := decPartsRow, standIns := [], harness := (true, "9df416f6f2cc18fa69dfc91486662e1bc55102dfb8be35faf72df4468a7a3e36"), looks := true }, kinds := [], alts := [], laidByText := true, laidKinds := [.data, .data, .data, .data, .sentinel, .sentinel, .pinned], laidTests := true, laidLooks := .later }
def DecPartsCardSaid : Prop := Claim7.holds Tryz.pinned (.plain (OpenSpec.ofChange decPartsSpec)) decPartsCard

/-- THE TIED CARD OF 'cubitlaw4.DecKnown'. -/
def decKnownCard : Claim7 := { stood := { row := decKnownRow, standIns := [], harness := (true, "9df416f6f2cc18fa69dfc91486662e1bc55102dfb8be35faf72df4468a7a3e36"), looks := true }, kinds := [], alts := [], laidByText := true, laidKinds := [.data, .data, .data, .data, .sentinel, .sentinel, .pinned], laidTests := true, laidLooks := .later }
def DecKnownCardSaid : Prop := Claim7.holds Tryz.pinned (.plain (OpenSpec.ofChange decKnownSpec)) decKnownCard

/-- THE TIED CARD OF 'cubitlaw4.DecSays'. -/
def decSaysCard : Claim7 := { stood := { row := decSaysRow, standIns := [], harness := (true, "9df416f6f2cc18fa69dfc91486662e1bc55102dfb8be35faf72df4468a7a3e36"), looks := true }, kinds := [], alts := [], laidByText := true, laidKinds := [.data, .data, .data, .data, .sentinel, .sentinel, .pinned], laidTests := true, laidLooks := .later }
def DecSaysCardSaid : Prop := Claim7.holds Tryz.pinned (.plain (OpenSpec.ofChange decSaysSpec)) decSaysCard

/-- THE TIED CARD OF 'cubitlaw18.OperKnown'. -/
def operKnownCard : Claim7 := { stood := { row := operKnownRow, standIns := [], harness := (true, "9df416f6f2cc18fa69dfc91486662e1bc55102dfb8be35faf72df4468a7a3e36"), looks := true }, kinds := [], alts := [], laidByText := true, laidKinds := [.data, .data, .data, .data, .sentinel, .sentinel, .pinned], laidTests := true, laidLooks := .later }
def OperKnownCardSaid : Prop := Claim7.holds Tryz.pinned (.plain (OpenSpec.ofChange operKnownSpec)) operKnownCard

/-- THE TIED CARD OF 'cubitlaw18.OperSays'. -/
def operSaysCard : Claim7 := { stood := { row := operSaysRow, standIns := [], harness := (true, "9df416f6f2cc18fa69dfc91486662e1bc55102dfb8be35faf72df4468a7a3e36"), looks := true }, kinds := [], alts := [], laidByText := true, laidKinds := [.data, .data, .data, .data, .sentinel, .sentinel, .pinned], laidTests := true, laidLooks := .later }
def OperSaysCardSaid : Prop := Claim7.holds Tryz.pinned (.plain (OpenSpec.ofChange operSaysSpec)) operSaysCard

/-- THE TIED CARD OF 'cubitlaw4.DecBack'. -/
def decBackCard : Claim7 := { stood := { row := decBackRow, standIns := [], harness := (true, "9df416f6f2cc18fa69dfc91486662e1bc55102dfb8be35faf72df4468a7a3e36"), looks := true }, kinds := [], alts := [], laidByText := true, laidKinds := [.data, .data, .data, .data, .sentinel, .sentinel, .pinned], laidTests := true, laidLooks := .later }
def DecBackCardSaid : Prop := Claim7.holds Tryz.pinned (.plain (OpenSpec.ofChange decBackSpec)) decBackCard

/-- THE TIED CARD OF 'cubitlaw18.OperSums'. -/
def operSumsCard : Claim7 := { stood := { row := operSumsRow, standIns := [], harness := (true, "9df416f6f2cc18fa69dfc91486662e1bc55102dfb8be35faf72df4468a7a3e36"), looks := true }, kinds := [], alts := [], laidByText := true, laidKinds := [.data, .data, .data, .data, .sentinel, .sentinel, .pinned], laidTests := true, laidLooks := .later }
def OperSumsCardSaid : Prop := Claim7.holds Tryz.pinned (.plain (OpenSpec.ofChange operSumsSpec)) operSumsCard

/-- THE TIED CARD OF 'cubitlaw18.OperWhole'. -/
def operWholeCard : Claim7 := { stood := { row := operWholeRow, standIns := [], harness := (true, "9df416f6f2cc18fa69dfc91486662e1bc55102dfb8be35faf72df4468a7a3e36"), looks := true }, kinds := [], alts := [], laidByText := true, laidKinds := [.data, .data, .data, .data, .sentinel, .sentinel, .pinned], laidTests := true, laidLooks := .later }
def OperWholeCardSaid : Prop := Claim7.holds Tryz.pinned (.plain (OpenSpec.ofChange operWholeSpec)) operWholeCard

/-- THE SECOND FORM's CARD OF 'cubitlaw5.RoundSays'. -/
def roundSaysUptoCard : Claim7 := { stood := { row := roundSaysUptoRow, standIns := [], harness := (true, "9df416f6f2cc18fa69dfc91486662e1bc55102dfb8be35faf72df4468a7a3e36"), looks := true }, kinds := [], alts := [], laidByText := true, laidKinds := [.data, .data, .data], laidTests := true, laidLooks := .later }
def RoundSaysUptoCardSaid : Prop := Claim7.holds Tryz.pinned (.plain (OpenSpec.upto roundSaysSpec)) roundSaysUptoCard

/-- THE SECOND FORM's CARD OF 'cubitlaw4.DecParts'. -/
def decPartsUptoCard : Claim7 := { stood := { row := decPartsUptoRow, standIns := [], harness := (true, "9df416f6f2cc18fa69dfc91486662e1bc55102dfb8be35faf72df4468a7a3e36"), looks := true }, kinds := [], alts := [], laidByText := true, laidKinds := [.data, .data, .data, .data, .sentinel, .sentinel, .pinned], laidTests := true, laidLooks := .later }
def DecPartsUptoCardSaid : Prop := Claim7.holds Tryz.pinned (.plain (OpenSpec.upto decPartsSpec)) decPartsUptoCard

/-- THE SECOND FORM's CARD OF 'cubitlaw4.DecKnown'. -/
def decKnownUptoCard : Claim7 := { stood := { row := decKnownUptoRow, standIns := [], harness := (true, "9df416f6f2cc18fa69dfc91486662e1bc55102dfb8be35faf72df4468a7a3e36"), looks := true }, kinds := [], alts := [], laidByText := true, laidKinds := [.data, .data, .data, .data, .sentinel, .sentinel, .pinned], laidTests := true, laidLooks := .later }
def DecKnownUptoCardSaid : Prop := Claim7.holds Tryz.pinned (.plain (OpenSpec.upto decKnownSpec)) decKnownUptoCard

/-- THE SECOND FORM's CARD OF 'cubitlaw4.DecSays'. -/
def decSaysUptoCard : Claim7 := { stood := { row := decSaysUptoRow, standIns := [], harness := (true, "9df416f6f2cc18fa69dfc91486662e1bc55102dfb8be35faf72df4468a7a3e36"), looks := true }, kinds := [], alts := [], laidByText := true, laidKinds := [.data, .data, .data, .data, .sentinel, .sentinel, .pinned], laidTests := true, laidLooks := .later }
def DecSaysUptoCardSaid : Prop := Claim7.holds Tryz.pinned (.plain (OpenSpec.upto decSaysSpec)) decSaysUptoCard

/-- THE SECOND FORM's CARD OF 'cubitlaw18.OperKnown'. -/
def operKnownUptoCard : Claim7 := { stood := { row := operKnownUptoRow, standIns := [], harness := (true, "9df416f6f2cc18fa69dfc91486662e1bc55102dfb8be35faf72df4468a7a3e36"), looks := true }, kinds := [], alts := [], laidByText := true, laidKinds := [.data, .data, .data, .data, .sentinel, .sentinel, .pinned], laidTests := true, laidLooks := .later }
def OperKnownUptoCardSaid : Prop := Claim7.holds Tryz.pinned (.plain (OpenSpec.upto operKnownSpec)) operKnownUptoCard

/-- THE SECOND FORM's CARD OF 'cubitlaw18.OperSays'. -/
def operSaysUptoCard : Claim7 := { stood := { row := operSaysUptoRow, standIns := [], harness := (true, "9df416f6f2cc18fa69dfc91486662e1bc55102dfb8be35faf72df4468a7a3e36"), looks := true }, kinds := [], alts := [], laidByText := true, laidKinds := [.data, .data, .data, .data, .sentinel, .sentinel, .pinned], laidTests := true, laidLooks := .later }
def OperSaysUptoCardSaid : Prop := Claim7.holds Tryz.pinned (.plain (OpenSpec.upto operSaysSpec)) operSaysUptoCard

/-- THE SECOND FORM's CARD OF 'cubitlaw4.DecBack'. -/
def decBackUptoCard : Claim7 := { stood := { row := decBackUptoRow, standIns := [], harness := (true, "9df416f6f2cc18fa69dfc91486662e1bc55102dfb8be35faf72df4468a7a3e36"), looks := true }, kinds := [], alts := [], laidByText := true, laidKinds := [.data, .data, .data, .data, .sentinel, .sentinel, .pinned], laidTests := true, laidLooks := .later }
def DecBackUptoCardSaid : Prop := Claim7.holds Tryz.pinned (.plain (OpenSpec.upto decBackSpec)) decBackUptoCard

/-- THE SECOND FORM's CARD OF 'cubitlaw18.OperSums'. -/
def operSumsUptoCard : Claim7 := { stood := { row := operSumsUptoRow, standIns := [], harness := (true, "9df416f6f2cc18fa69dfc91486662e1bc55102dfb8be35faf72df4468a7a3e36"), looks := true }, kinds := [], alts := [], laidByText := true, laidKinds := [.data, .data, .data, .data, .sentinel, .sentinel, .pinned], laidTests := true, laidLooks := .later }
def OperSumsUptoCardSaid : Prop := Claim7.holds Tryz.pinned (.plain (OpenSpec.upto operSumsSpec)) operSumsUptoCard

/-- THE SECOND FORM's CARD OF 'cubitlaw18.OperWhole'. -/
def operWholeUptoCard : Claim7 := { stood := { row := operWholeUptoRow, standIns := [], harness := (true, "9df416f6f2cc18fa69dfc91486662e1bc55102dfb8be35faf72df4468a7a3e36"), looks := true }, kinds := [], alts := [], laidByText := true, laidKinds := [.data, .data, .data, .data, .sentinel, .sentinel, .pinned], laidTests := true, laidLooks := .later }
def OperWholeUptoCardSaid : Prop := Claim7.holds Tryz.pinned (.plain (OpenSpec.upto operWholeSpec)) operWholeUptoCard
end Rows
end Go.Proofs.YtapikjmijmebpaaGreatDoor
