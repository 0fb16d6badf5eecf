/-
  DERIVED. GIVEN WITH THE SEED: THE CARDS: each row of YtmhhgkchednpjaaGreatDoorRows.lean that lists a variable, with what it lists TIED to the program's text (the seventh form; the later family's looks); each row that meets fmt, with fmt's text TOLD by the authors' own Lean function (tested against real Go, not proved from fmt's source: count such statements apart). THE CARD IS WHAT COUNTS. Prove the row's statement (the work); the ties are given (YtmhhgkchednpjaaGreatDoorTie.lean); close each card by the builder's one call (the guide's Derived/Test/ToyasCard.lean, 'card_holds'). Laid BY PROGRAM, IN A SANDBOX (cutbox-door.mjs). By AI agents, Wed Nov 11 2026. No macro, syntax, notation, axiom, sorry.
-/
import Derived.Test.YtmhhgkchednpjaaGreatDoorRows
import GoSem.ClaimSeven
namespace Go.Proofs.YtmhhgkchednpjaaGreatDoor
namespace Rows

/-- THE TIED CARD OF 'cubitlaw17.SplitSums'. -/
def splitSumsCard : Claim7 := { stood := { row := splitSumsRow, standIns := [], harness := (true, "481af46ab082bbcc981c3f1aa03f2f464d90c4a8271664515829f16e39e7b50b"), looks := true }, kinds := [], alts := [], laidByText := true, laidKinds := [.data, .data, .data, .data, .sentinel, .sentinel, .pinned], laidTests := true, laidLooks := .later }
def SplitSumsCardSaid : Prop := Claim7.holds Tryz.pinned (.plain (OpenSpec.ofChange splitSumsSpec)) splitSumsCard

/-- THE TIED CARD OF 'cubitlaw12.ReducePrefix'. -/
def reducePrefixCard : Claim7 := { stood := { row := reducePrefixRow, standIns := [], harness := (true, "481af46ab082bbcc981c3f1aa03f2f464d90c4a8271664515829f16e39e7b50b"), looks := true }, kinds := [], alts := [], laidByText := true, laidKinds := [.data, .data, .data, .data, .sentinel, .sentinel, .pinned], laidTests := true, laidLooks := .later }
def ReducePrefixCardSaid : Prop := Claim7.holds Tryz.pinned (.plain (OpenSpec.ofChange reducePrefixSpec)) reducePrefixCard

/-- THE TIED CARD OF 'cubitlaw12.ReduceKnown'. -/
def reduceKnownCard : Claim7 := { stood := { row := reduceKnownRow, standIns := [], harness := (true, "481af46ab082bbcc981c3f1aa03f2f464d90c4a8271664515829f16e39e7b50b"), looks := true }, kinds := [], alts := [], laidByText := true, laidKinds := [.data, .data, .data, .data, .sentinel, .sentinel, .pinned], laidTests := true, laidLooks := .later }
def ReduceKnownCardSaid : Prop := Claim7.holds Tryz.pinned (.plain (OpenSpec.ofChange reduceKnownSpec)) reduceKnownCard

/-- THE TIED CARD OF 'cubitlaw12.ReducePer'. -/
def reducePerCard : Claim7 := { stood := { row := reducePerRow, standIns := [], harness := (true, "481af46ab082bbcc981c3f1aa03f2f464d90c4a8271664515829f16e39e7b50b"), looks := true }, kinds := [], alts := [], laidByText := true, laidKinds := [.data, .data, .data, .data, .sentinel, .sentinel, .pinned], laidTests := true, laidLooks := .later }
def ReducePerCardSaid : Prop := Claim7.holds Tryz.pinned (.plain (OpenSpec.ofChange reducePerSpec)) reducePerCard

/-- THE TIED CARD OF 'cubitlaw12.ReduceConst'. -/
def reduceConstCard : Claim7 := { stood := { row := reduceConstRow, standIns := [], harness := (true, "481af46ab082bbcc981c3f1aa03f2f464d90c4a8271664515829f16e39e7b50b"), looks := true }, kinds := [], alts := [], laidByText := true, laidKinds := [.data, .data, .data, .data, .sentinel, .sentinel, .pinned], laidTests := true, laidLooks := .later }
def ReduceConstCardSaid : Prop := Claim7.holds Tryz.pinned (.plain (OpenSpec.ofChange reduceConstSpec)) reduceConstCard

/-- THE TIED CARD OF 'cubitlaw13.ConvWays'. -/
def convWaysCard : Claim7 := { stood := { row := convWaysRow, standIns := [], harness := (true, "481af46ab082bbcc981c3f1aa03f2f464d90c4a8271664515829f16e39e7b50b"), looks := true }, kinds := [], alts := [], laidByText := true, laidKinds := [.data, .data, .data, .data, .sentinel, .sentinel, .pinned], laidTests := true, laidLooks := .later }
def ConvWaysCardSaid : Prop := Claim7.holds Tryz.pinned (.plain (OpenSpec.ofChange convWaysSpec)) convWaysCard

/-- THE TIED CARD OF 'cubitlaw13.ConvSays'. -/
def convSaysCard : Claim7 := { stood := { row := convSaysRow, standIns := [], harness := (true, "481af46ab082bbcc981c3f1aa03f2f464d90c4a8271664515829f16e39e7b50b"), looks := true }, kinds := [], alts := [], laidByText := true, laidKinds := [.data, .data, .data, .data, .sentinel, .sentinel, .pinned], laidTests := true, laidLooks := .later }
def ConvSaysCardSaid : Prop := Claim7.holds Tryz.pinned (.plain (OpenSpec.ofChange convSaysSpec)) convSaysCard

/-- THE TIED CARD OF 'cubitlaw13.ConvBack'. -/
def convBackCard : Claim7 := { stood := { row := convBackRow, standIns := [], harness := (true, "481af46ab082bbcc981c3f1aa03f2f464d90c4a8271664515829f16e39e7b50b"), looks := true }, kinds := [], alts := [], laidByText := true, laidKinds := [.data, .data, .data, .data, .sentinel, .sentinel, .pinned], laidTests := true, laidLooks := .later }
def ConvBackCardSaid : Prop := Claim7.holds Tryz.pinned (.plain (OpenSpec.ofChange convBackSpec)) convBackCard

/-- THE TIED CARD OF 'cubitlaw13.ConvSame'. -/
def convSameCard : Claim7 := { stood := { row := convSameRow, standIns := [], harness := (true, "481af46ab082bbcc981c3f1aa03f2f464d90c4a8271664515829f16e39e7b50b"), looks := true }, kinds := [], alts := [], laidByText := true, laidKinds := [.data, .data, .data, .data, .sentinel, .sentinel, .pinned], laidTests := true, laidLooks := .later }
def ConvSameCardSaid : Prop := Claim7.holds Tryz.pinned (.plain (OpenSpec.ofChange convSameSpec)) convSameCard

/-- THE TIED CARD OF 'cubitlaw13.ConvKnown'. -/
def convKnownCard : Claim7 := { stood := { row := convKnownRow, standIns := [], harness := (true, "481af46ab082bbcc981c3f1aa03f2f464d90c4a8271664515829f16e39e7b50b"), looks := true }, kinds := [], alts := [], laidByText := true, laidKinds := [.data, .data, .data, .data, .sentinel, .sentinel, .pinned], laidTests := true, laidLooks := .later }
def ConvKnownCardSaid : Prop := Claim7.holds Tryz.pinned (.plain (OpenSpec.ofChange convKnownSpec)) convKnownCard

/-- THE TIED CARD OF 'cubitlaw17.SplitKnown'. -/
def splitKnownCard : Claim7 := { stood := { row := splitKnownRow, standIns := [], harness := (true, "481af46ab082bbcc981c3f1aa03f2f464d90c4a8271664515829f16e39e7b50b"), looks := true }, kinds := [], alts := [], laidByText := true, laidKinds := [.data, .data, .data, .data, .sentinel, .sentinel, .pinned], laidTests := true, laidLooks := .later }
def SplitKnownCardSaid : Prop := Claim7.holds Tryz.pinned (.plain (OpenSpec.ofChange splitKnownSpec)) splitKnownCard

/-- THE TIED CARD OF 'cubitlaw17.SplitOne'. -/
def splitOneCard : Claim7 := { stood := { row := splitOneRow, standIns := [], harness := (true, "481af46ab082bbcc981c3f1aa03f2f464d90c4a8271664515829f16e39e7b50b"), looks := true }, kinds := [], alts := [], laidByText := true, laidKinds := [.data, .data, .data, .data, .sentinel, .sentinel, .pinned], laidTests := true, laidLooks := .later }
def SplitOneCardSaid : Prop := Claim7.holds Tryz.pinned (.plain (OpenSpec.ofChange splitOneSpec)) splitOneCard

/-- THE SECOND FORM's CARD OF 'cubitlaw17.SplitSums'. -/
def splitSumsUptoCard : Claim7 := { stood := { row := splitSumsUptoRow, standIns := [], harness := (true, "481af46ab082bbcc981c3f1aa03f2f464d90c4a8271664515829f16e39e7b50b"), looks := true }, kinds := [], alts := [], laidByText := true, laidKinds := [.data, .data, .data, .data, .sentinel, .sentinel, .pinned], laidTests := true, laidLooks := .later }
def SplitSumsUptoCardSaid : Prop := Claim7.holds Tryz.pinned (.plain (OpenSpec.upto splitSumsSpec)) splitSumsUptoCard

/-- THE SECOND FORM's CARD OF 'cubitlaw12.ReducePrefix'. -/
def reducePrefixUptoCard : Claim7 := { stood := { row := reducePrefixUptoRow, standIns := [], harness := (true, "481af46ab082bbcc981c3f1aa03f2f464d90c4a8271664515829f16e39e7b50b"), looks := true }, kinds := [], alts := [], laidByText := true, laidKinds := [.data, .data, .data, .data, .sentinel, .sentinel, .pinned], laidTests := true, laidLooks := .later }
def ReducePrefixUptoCardSaid : Prop := Claim7.holds Tryz.pinned (.plain (OpenSpec.upto reducePrefixSpec)) reducePrefixUptoCard

/-- THE SECOND FORM's CARD OF 'cubitlaw12.ReduceKnown'. -/
def reduceKnownUptoCard : Claim7 := { stood := { row := reduceKnownUptoRow, standIns := [], harness := (true, "481af46ab082bbcc981c3f1aa03f2f464d90c4a8271664515829f16e39e7b50b"), looks := true }, kinds := [], alts := [], laidByText := true, laidKinds := [.data, .data, .data, .data, .sentinel, .sentinel, .pinned], laidTests := true, laidLooks := .later }
def ReduceKnownUptoCardSaid : Prop := Claim7.holds Tryz.pinned (.plain (OpenSpec.upto reduceKnownSpec)) reduceKnownUptoCard

/-- THE SECOND FORM's CARD OF 'cubitlaw12.ReducePer'. -/
def reducePerUptoCard : Claim7 := { stood := { row := reducePerUptoRow, standIns := [], harness := (true, "481af46ab082bbcc981c3f1aa03f2f464d90c4a8271664515829f16e39e7b50b"), looks := true }, kinds := [], alts := [], laidByText := true, laidKinds := [.data, .data, .data, .data, .sentinel, .sentinel, .pinned], laidTests := true, laidLooks := .later }
def ReducePerUptoCardSaid : Prop := Claim7.holds Tryz.pinned (.plain (OpenSpec.upto reducePerSpec)) reducePerUptoCard

/-- THE SECOND FORM's CARD OF 'cubitlaw12.ReduceConst'. -/
def reduceConstUptoCard : Claim7 := { stood := { row := reduceConstUptoRow, standIns := [], harness := (true, "481af46ab082bbcc981c3f1aa03f2f464d90c4a8271664515829f16e39e7b50b"), looks := true }, kinds := [], alts := [], laidByText := true, laidKinds := [.data, .data, .data, .data, .sentinel, .sentinel, .pinned], laidTests := true, laidLooks := .later }
def ReduceConstUptoCardSaid : Prop := Claim7.holds Tryz.pinned (.plain (OpenSpec.upto reduceConstSpec)) reduceConstUptoCard

/-- THE SECOND FORM's CARD OF 'cubitlaw13.ConvWays'. -/
def convWaysUptoCard : Claim7 := { stood := { row := convWaysUptoRow, standIns := [], harness := (true, "481af46ab082bbcc981c3f1aa03f2f464d90c4a8271664515829f16e39e7b50b"), looks := true }, kinds := [], alts := [], laidByText := true, laidKinds := [.data, .data, .data, .data, .sentinel, .sentinel, .pinned], laidTests := true, laidLooks := .later }
def ConvWaysUptoCardSaid : Prop := Claim7.holds Tryz.pinned (.plain (OpenSpec.upto convWaysSpec)) convWaysUptoCard

/-- THE SECOND FORM's CARD OF 'cubitlaw13.ConvSays'. -/
def convSaysUptoCard : Claim7 := { stood := { row := convSaysUptoRow, standIns := [], harness := (true, "481af46ab082bbcc981c3f1aa03f2f464d90c4a8271664515829f16e39e7b50b"), looks := true }, kinds := [], alts := [], laidByText := true, laidKinds := [.data, .data, .data, .data, .sentinel, .sentinel, .pinned], laidTests := true, laidLooks := .later }
def ConvSaysUptoCardSaid : Prop := Claim7.holds Tryz.pinned (.plain (OpenSpec.upto convSaysSpec)) convSaysUptoCard

/-- THE SECOND FORM's CARD OF 'cubitlaw13.ConvBack'. -/
def convBackUptoCard : Claim7 := { stood := { row := convBackUptoRow, standIns := [], harness := (true, "481af46ab082bbcc981c3f1aa03f2f464d90c4a8271664515829f16e39e7b50b"), looks := true }, kinds := [], alts := [], laidByText := true, laidKinds := [.data, .data, .data, .data, .sentinel, .sentinel, .pinned], laidTests := true, laidLooks := .later }
def ConvBackUptoCardSaid : Prop := Claim7.holds Tryz.pinned (.plain (OpenSpec.upto convBackSpec)) convBackUptoCard

/-- THE SECOND FORM's CARD OF 'cubitlaw13.ConvSame'. -/
def convSameUptoCard : Claim7 := { stood := { row := convSameUptoRow, standIns := [], harness := (true, "481af46ab082bbcc981c3f1aa03f2f464d90c4a8271664515829f16e39e7b50b"), looks := true }, kinds := [], alts := [], laidByText := true, laidKinds := [.data, .data, .data, .data, .sentinel, .sentinel, .pinned], laidTests := true, laidLooks := .later }
def ConvSameUptoCardSaid : Prop := Claim7.holds Tryz.pinned (.plain (OpenSpec.upto convSameSpec)) convSameUptoCard

/-- THE SECOND FORM's CARD OF 'cubitlaw13.ConvKnown'. -/
def convKnownUptoCard : Claim7 := { stood := { row := convKnownUptoRow, standIns := [], harness := (true, "481af46ab082bbcc981c3f1aa03f2f464d90c4a8271664515829f16e39e7b50b"), looks := true }, kinds := [], alts := [], laidByText := true, laidKinds := [.data, .data, .data, .data, .sentinel, .sentinel, .pinned], laidTests := true, laidLooks := .later }
def ConvKnownUptoCardSaid : Prop := Claim7.holds Tryz.pinned (.plain (OpenSpec.upto convKnownSpec)) convKnownUptoCard

/-- THE SECOND FORM's CARD OF 'cubitlaw17.SplitKnown'. -/
def splitKnownUptoCard : Claim7 := { stood := { row := splitKnownUptoRow, standIns := [], harness := (true, "481af46ab082bbcc981c3f1aa03f2f464d90c4a8271664515829f16e39e7b50b"), looks := true }, kinds := [], alts := [], laidByText := true, laidKinds := [.data, .data, .data, .data, .sentinel, .sentinel, .pinned], laidTests := true, laidLooks := .later }
def SplitKnownUptoCardSaid : Prop := Claim7.holds Tryz.pinned (.plain (OpenSpec.upto splitKnownSpec)) splitKnownUptoCard

/-- THE SECOND FORM's CARD OF 'cubitlaw17.SplitOne'. -/
def splitOneUptoCard : Claim7 := { stood := { row := splitOneUptoRow, standIns := [], harness := (true, "481af46ab082bbcc981c3f1aa03f2f464d90c4a8271664515829f16e39e7b50b"), looks := true }, kinds := [], alts := [], laidByText := true, laidKinds := [.data, .data, .data, .data, .sentinel, .sentinel, .pinned], laidTests := true, laidLooks := .later }
def SplitOneUptoCardSaid : Prop := Claim7.holds Tryz.pinned (.plain (OpenSpec.upto splitOneSpec)) splitOneUptoCard
end Rows
end Go.Proofs.YtmhhgkchednpjaaGreatDoor
