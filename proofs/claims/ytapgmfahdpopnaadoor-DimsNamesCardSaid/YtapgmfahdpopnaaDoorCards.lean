/-
  DERIVED. GIVEN WITH THE SEED: THE CARDS: each row of YtapgmfahdpopnaaDoorRows.lean that lists a variable, with what it lists TIED to the program's text (the seventh form; the later family's looks); each row that meets fmt, with fmt's text TOLD by the authors' own Lean function (tested against real Go, not proved from fmt's source: count such statements apart). THE CARD IS WHAT COUNTS. Prove the row's statement (the work); the ties are given (YtapgmfahdpopnaaDoorTie.lean); close each card by the builder's one call (the guide's Derived/Test/ToyasCard.lean, 'card_holds'). Laid BY PROGRAM, IN A SANDBOX (cutbox-door.mjs). By AI agents, Wed Nov 11 2026. No macro, syntax, notation, axiom, sorry.
-/
import Derived.Test.YtapgmfahdpopnaaDoorRows
import GoSem.ClaimSeven
namespace Go.Proofs.YtapgmfahdpopnaaDoor
namespace Rows

/-- THE TIED CARD OF 'cubitlaw8.DimsNames'. -/
def dimsNamesCard : Claim7 := { stood := { row := dimsNamesRow, standIns := [], harness := (true, "690b851756b8344d00fe6c214d45920b2f0e30329460ecdfe57a614756780e6a"), looks := false }, kinds := [], alts := [], laidByText := true, laidKinds := [.data, .data, .data], laidTests := true, laidLooks := .later }
def DimsNamesCardSaid : Prop := Claim7.holds Tryd.pinned (.plain (OpenSpec.ofChange dimsNamesSpec)) dimsNamesCard

/-- THE SECOND FORM's CARD OF 'cubitlaw8.DimsNames'. -/
def dimsNamesUptoCard : Claim7 := { stood := { row := dimsNamesUptoRow, standIns := [], harness := (true, "690b851756b8344d00fe6c214d45920b2f0e30329460ecdfe57a614756780e6a"), looks := false }, kinds := [], alts := [], laidByText := true, laidKinds := [.data, .data, .data], laidTests := true, laidLooks := .later }
def DimsNamesUptoCardSaid : Prop := Claim7.holds Tryd.pinned (.plain (OpenSpec.upto dimsNamesSpec)) dimsNamesUptoCard
end Rows
end Go.Proofs.YtapgmfahdpopnaaDoor
