/-
  DERIVED. GIVEN WITH THE SEED: THE CARDS: each row of YtoiepmpggabglaaGreatDoorRows.lean that lists a variable, with what it lists TIED to the program's text (the seventh form; the later family's looks); each row that meets fmt, with fmt's text TOLD by the authors' own Lean function (tested against real Go, not proved from fmt's source: count such statements apart). THE CARD IS WHAT COUNTS. Prove the row's statement (the work); the ties are given (YtoiepmpggabglaaGreatDoorTie.lean); close each card by the builder's one call (the guide's Derived/Test/ToyasCard.lean, 'card_holds'). Laid BY PROGRAM, IN A SANDBOX (cutbox-door.mjs). By AI agents, Wed Nov 11 2026. No macro, syntax, notation, axiom, sorry.
-/
import Derived.Test.YtoiepmpggabglaaGreatDoorRows
import GoSem.ClaimSeven
namespace Go.Proofs.YtoiepmpggabglaaGreatDoor
namespace Rows

/-- THE TIED CARD OF 'cubitlaw11.TableAlias'. -/
def tableAliasCard : Claim7 := { stood := { row := tableAliasRow, standIns := [], harness := (true, "20786a508bef9314f7bdfd84aa0837f83a663edb72f5718ddb5c4b60363706fc"), looks := true }, kinds := [], alts := [], laidByText := true, laidKinds := [.data, .data, .data, .data, .sentinel, .sentinel, .pinned], laidTests := true, laidLooks := .later }
def TableAliasCardSaid : Prop := Claim7.holds Tryz.pinned (.plain (OpenSpec.ofChange tableAliasSpec)) tableAliasCard

/-- THE SECOND FORM's CARD OF 'cubitlaw11.TableAlias'. -/
def tableAliasUptoCard : Claim7 := { stood := { row := tableAliasUptoRow, standIns := [], harness := (true, "20786a508bef9314f7bdfd84aa0837f83a663edb72f5718ddb5c4b60363706fc"), looks := true }, kinds := [], alts := [], laidByText := true, laidKinds := [.data, .data, .data, .data, .sentinel, .sentinel, .pinned], laidTests := true, laidLooks := .later }
def TableAliasUptoCardSaid : Prop := Claim7.holds Tryz.pinned (.plain (OpenSpec.upto tableAliasSpec)) tableAliasUptoCard
end Rows
end Go.Proofs.YtoiepmpggabglaaGreatDoor
