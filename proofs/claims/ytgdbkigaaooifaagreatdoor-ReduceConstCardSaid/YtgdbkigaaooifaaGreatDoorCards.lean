/-
  DERIVED. GIVEN WITH THE SEED: THE CARDS: each row of YtgdbkigaaooifaaGreatDoorRows.lean that lists a variable, with what it lists TIED to the program's text (the seventh form; the later family's looks); each row that meets fmt, with fmt's text TOLD by the authors' own Lean function (tested against real Go, not proved from fmt's source: count such statements apart). THE CARD IS WHAT COUNTS. Prove the row's statement (the work); the ties are given (YtgdbkigaaooifaaGreatDoorTie.lean); close each card by the builder's one call (the guide's Derived/Test/ToyasCard.lean, 'card_holds'). Laid BY PROGRAM, IN A SANDBOX (cutbox-door.mjs). By AI agents, Wed Nov 11 2026. No macro, syntax, notation, axiom, sorry.
-/
import Derived.Test.YtgdbkigaaooifaaGreatDoorRows
import GoSem.ClaimSeven
namespace Go.Proofs.YtgdbkigaaooifaaGreatDoor
namespace Rows

/-- THE TIED CARD OF 'cubitlaw12.ReducePrefix'. -/
def reducePrefixCard : Claim7 := { stood := { row := reducePrefixRow, standIns := [], harness := (true, "6629bd099b5a4497f59d6ce84bacf32ae85dfaa1fd570a9723669550eff4b206"), looks := true }, kinds := [], alts := [], laidByText := true, laidKinds := [.data, .data, .data, .data, .sentinel, .sentinel, .pinned], laidTests := true, laidLooks := .later }
def ReducePrefixCardSaid : Prop := Claim7.holds Tryz.pinned (.plain (OpenSpec.ofChange reducePrefixSpec)) reducePrefixCard

/-- THE TIED CARD OF 'cubitlaw12.ReduceKnown'. -/
def reduceKnownCard : Claim7 := { stood := { row := reduceKnownRow, standIns := [], harness := (true, "6629bd099b5a4497f59d6ce84bacf32ae85dfaa1fd570a9723669550eff4b206"), looks := true }, kinds := [], alts := [], laidByText := true, laidKinds := [.data, .data, .data, .data, .sentinel, .sentinel, .pinned], laidTests := true, laidLooks := .later }
def ReduceKnownCardSaid : Prop := Claim7.holds Tryz.pinned (.plain (OpenSpec.ofChange reduceKnownSpec)) reduceKnownCard

/-- THE TIED CARD OF 'cubitlaw12.ReducePer'. -/
def reducePerCard : Claim7 := { stood := { row := reducePerRow, standIns := [], harness := (true, "6629bd099b5a4497f59d6ce84bacf32ae85dfaa1fd570a9723669550eff4b206"), looks := true }, kinds := [], alts := [], laidByText := true, laidKinds := [.data, .data, .data, .data, .sentinel, .sentinel, .pinned], laidTests := true, laidLooks := .later }
def ReducePerCardSaid : Prop := Claim7.holds Tryz.pinned (.plain (OpenSpec.ofChange reducePerSpec)) reducePerCard

/-- THE TIED CARD OF 'cubitlaw12.ReduceConst'. -/
def reduceConstCard : Claim7 := { stood := { row := reduceConstRow, standIns := [], harness := (true, "6629bd099b5a4497f59d6ce84bacf32ae85dfaa1fd570a9723669550eff4b206"), looks := true }, kinds := [], alts := [], laidByText := true, laidKinds := [.data, .data, .data, .data, .sentinel, .sentinel, .pinned], laidTests := true, laidLooks := .later }
def ReduceConstCardSaid : Prop := Claim7.holds Tryz.pinned (.plain (OpenSpec.ofChange reduceConstSpec)) reduceConstCard

/-- THE SECOND FORM's CARD OF 'cubitlaw12.ReducePrefix'. -/
def reducePrefixUptoCard : Claim7 := { stood := { row := reducePrefixUptoRow, standIns := [], harness := (true, "6629bd099b5a4497f59d6ce84bacf32ae85dfaa1fd570a9723669550eff4b206"), looks := true }, kinds := [], alts := [], laidByText := true, laidKinds := [.data, .data, .data, .data, .sentinel, .sentinel, .pinned], laidTests := true, laidLooks := .later }
def ReducePrefixUptoCardSaid : Prop := Claim7.holds Tryz.pinned (.plain (OpenSpec.upto reducePrefixSpec)) reducePrefixUptoCard

/-- THE SECOND FORM's CARD OF 'cubitlaw12.ReduceKnown'. -/
def reduceKnownUptoCard : Claim7 := { stood := { row := reduceKnownUptoRow, standIns := [], harness := (true, "6629bd099b5a4497f59d6ce84bacf32ae85dfaa1fd570a9723669550eff4b206"), looks := true }, kinds := [], alts := [], laidByText := true, laidKinds := [.data, .data, .data, .data, .sentinel, .sentinel, .pinned], laidTests := true, laidLooks := .later }
def ReduceKnownUptoCardSaid : Prop := Claim7.holds Tryz.pinned (.plain (OpenSpec.upto reduceKnownSpec)) reduceKnownUptoCard

/-- THE SECOND FORM's CARD OF 'cubitlaw12.ReducePer'. -/
def reducePerUptoCard : Claim7 := { stood := { row := reducePerUptoRow, standIns := [], harness := (true, "6629bd099b5a4497f59d6ce84bacf32ae85dfaa1fd570a9723669550eff4b206"), looks := true }, kinds := [], alts := [], laidByText := true, laidKinds := [.data, .data, .data, .data, .sentinel, .sentinel, .pinned], laidTests := true, laidLooks := .later }
def ReducePerUptoCardSaid : Prop := Claim7.holds Tryz.pinned (.plain (OpenSpec.upto reducePerSpec)) reducePerUptoCard

/-- THE SECOND FORM's CARD OF 'cubitlaw12.ReduceConst'. -/
def reduceConstUptoCard : Claim7 := { stood := { row := reduceConstUptoRow, standIns := [], harness := (true, "6629bd099b5a4497f59d6ce84bacf32ae85dfaa1fd570a9723669550eff4b206"), looks := true }, kinds := [], alts := [], laidByText := true, laidKinds := [.data, .data, .data, .data, .sentinel, .sentinel, .pinned], laidTests := true, laidLooks := .later }
def ReduceConstUptoCardSaid : Prop := Claim7.holds Tryz.pinned (.plain (OpenSpec.upto reduceConstSpec)) reduceConstUptoCard
end Rows
end Go.Proofs.YtgdbkigaaooifaaGreatDoor
