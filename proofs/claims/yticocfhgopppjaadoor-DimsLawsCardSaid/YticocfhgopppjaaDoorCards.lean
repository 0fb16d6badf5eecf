/-
  DERIVED. GIVEN WITH THE SEED: THE CARDS: each row of YticocfhgopppjaaDoorRows.lean that lists a variable, with what it lists TIED to the program's text (the seventh form; the later family's looks); each row that meets fmt, with fmt's text TOLD by the authors' own Lean function (tested against real Go, not proved from fmt's source: count such statements apart). THE CARD IS WHAT COUNTS. Prove the row's statement (the work); the ties are given (YticocfhgopppjaaDoorTie.lean); close each card by the builder's one call (the guide's Derived/Test/ToyasCard.lean, 'card_holds'). Laid BY PROGRAM, IN A SANDBOX (cutbox-door.mjs). By AI agents, Wed Nov 11 2026. No macro, syntax, notation, axiom, sorry.
-/
import Derived.Test.YticocfhgopppjaaDoorRows
import GoSem.ClaimSeven
namespace Go.Proofs.YticocfhgopppjaaDoor
namespace Rows

/-- THE TIED CARD OF 'cubitlaw8.DimsNames'. -/
def dimsNamesCard : Claim7 := { stood := { row := dimsNamesRow, standIns := [], harness := (true, "383081a2e257f08ae126ba738b9b345f388dae0a3282071993e4356c7a101d93"), looks := false }, kinds := [], alts := [], laidByText := true, laidKinds := [.data, .data, .data], laidTests := true, laidLooks := .later }
def DimsNamesCardSaid : Prop := Claim7.holds Tryd.pinned (.plain (OpenSpec.ofChange dimsNamesSpec)) dimsNamesCard

/-- THE TIED CARD OF 'cubitlaw8.DimsSays'. -/
def dimsSaysCard : Claim7 := { stood := { row := dimsSaysRow, standIns := [], harness := (true, "383081a2e257f08ae126ba738b9b345f388dae0a3282071993e4356c7a101d93"), looks := false }, kinds := [], alts := [], laidByText := true, laidKinds := [.data, .data, .data], laidTests := true, laidLooks := .later }
def DimsSaysCardSaid : Prop := Claim7.holds Tryd.pinned (.plain (OpenSpec.ofChange dimsSaysSpec)) dimsSaysCard

/-- THE TIED CARD OF 'cubitlaw8.DimsLaws'. -/
def dimsLawsCard : Claim7 := { stood := { row := dimsLawsRow, standIns := [], harness := (true, "383081a2e257f08ae126ba738b9b345f388dae0a3282071993e4356c7a101d93"), looks := false }, kinds := [], alts := [], laidByText := true, laidKinds := [.data, .data, .data], laidTests := true, laidLooks := .later }
def DimsLawsCardSaid : Prop := Claim7.holds Tryd.pinned (.plain (OpenSpec.ofChange dimsLawsSpec)) dimsLawsCard

/-- THE TIED CARD OF 'cubitlaw8.DimsKnown'. -/
def dimsKnownCard : Claim7 := { stood := { row := dimsKnownRow, standIns := [], harness := (true, "383081a2e257f08ae126ba738b9b345f388dae0a3282071993e4356c7a101d93"), looks := false }, kinds := [], alts := [], laidByText := true, laidKinds := [.data, .data, .data], laidTests := true, laidLooks := .later }
def DimsKnownCardSaid : Prop := Claim7.holds Tryd.pinned (.plain (OpenSpec.ofChange dimsKnownSpec)) dimsKnownCard

/-- THE SECOND FORM's CARD OF 'cubitlaw8.DimsNames'. -/
def dimsNamesUptoCard : Claim7 := { stood := { row := dimsNamesUptoRow, standIns := [], harness := (true, "383081a2e257f08ae126ba738b9b345f388dae0a3282071993e4356c7a101d93"), looks := false }, kinds := [], alts := [], laidByText := true, laidKinds := [.data, .data, .data], laidTests := true, laidLooks := .later }
def DimsNamesUptoCardSaid : Prop := Claim7.holds Tryd.pinned (.plain (OpenSpec.upto dimsNamesSpec)) dimsNamesUptoCard

/-- THE SECOND FORM's CARD OF 'cubitlaw8.DimsSays'. -/
def dimsSaysUptoCard : Claim7 := { stood := { row := dimsSaysUptoRow, standIns := [], harness := (true, "383081a2e257f08ae126ba738b9b345f388dae0a3282071993e4356c7a101d93"), looks := false }, kinds := [], alts := [], laidByText := true, laidKinds := [.data, .data, .data], laidTests := true, laidLooks := .later }
def DimsSaysUptoCardSaid : Prop := Claim7.holds Tryd.pinned (.plain (OpenSpec.upto dimsSaysSpec)) dimsSaysUptoCard

/-- THE SECOND FORM's CARD OF 'cubitlaw8.DimsLaws'. -/
def dimsLawsUptoCard : Claim7 := { stood := { row := dimsLawsUptoRow, standIns := [], harness := (true, "383081a2e257f08ae126ba738b9b345f388dae0a3282071993e4356c7a101d93"), looks := false }, kinds := [], alts := [], laidByText := true, laidKinds := [.data, .data, .data], laidTests := true, laidLooks := .later }
def DimsLawsUptoCardSaid : Prop := Claim7.holds Tryd.pinned (.plain (OpenSpec.upto dimsLawsSpec)) dimsLawsUptoCard

/-- THE SECOND FORM's CARD OF 'cubitlaw8.DimsKnown'. -/
def dimsKnownUptoCard : Claim7 := { stood := { row := dimsKnownUptoRow, standIns := [], harness := (true, "383081a2e257f08ae126ba738b9b345f388dae0a3282071993e4356c7a101d93"), looks := false }, kinds := [], alts := [], laidByText := true, laidKinds := [.data, .data, .data], laidTests := true, laidLooks := .later }
def DimsKnownUptoCardSaid : Prop := Claim7.holds Tryd.pinned (.plain (OpenSpec.upto dimsKnownSpec)) dimsKnownUptoCard
end Rows
end Go.Proofs.YticocfhgopppjaaDoor
