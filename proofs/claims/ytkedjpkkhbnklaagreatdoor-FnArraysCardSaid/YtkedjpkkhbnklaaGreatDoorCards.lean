/-
  DERIVED. GIVEN WITH THE SEED: THE CARDS: each row of YtkedjpkkhbnklaaGreatDoorRows.lean that lists a variable, with what it lists TIED to the program's text (the seventh form; the later family's looks); each row that meets fmt, with fmt's text TOLD by the authors' own Lean function (tested against real Go, not proved from fmt's source: count such statements apart). THE CARD IS WHAT COUNTS. Prove the row's statement (the work); the ties are given (YtkedjpkkhbnklaaGreatDoorTie.lean); close each card by the builder's one call (the guide's Derived/Test/ToyasCard.lean, 'card_holds'). Laid BY PROGRAM, IN A SANDBOX (cutbox-door.mjs). By AI agents, Wed Nov 11 2026. No macro, syntax, notation, axiom, sorry.
-/
import Derived.Test.YtkedjpkkhbnklaaGreatDoorRows
import GoSem.ClaimSeven
namespace Go.Proofs.YtkedjpkkhbnklaaGreatDoor
namespace Rows

/-- THE TIED CARD OF 'laws.FnArrays'. -/
def fnArraysCard : Claim7 := { stood := { row := fnArraysRow, standIns := [], harness := (true, "1340292e04382b343d8a065225ffe52c8b9efa5a475810cb4a6c1a387c48a657"), looks := true }, kinds := [], alts := [], laidByText := true, laidKinds := [.data, .data, .data, .data, .sentinel, .sentinel, .pinned], laidTests := true, laidLooks := .later }
def FnArraysCardSaid : Prop := Claim7.holds Tryz.pinned (.plain (OpenSpec.ofChange fnArraysSpec)) fnArraysCard

/-- THE TIED CARD OF 'laws.FnParts'. -/
def fnPartsCard : Claim7 := { stood := { row := fnPartsRow, standIns := [], harness := (true, "1340292e04382b343d8a065225ffe52c8b9efa5a475810cb4a6c1a387c48a657"), looks := true }, kinds := [], alts := [], laidByText := true, laidKinds := [.data, .data, .data, .data, .sentinel, .sentinel, .pinned], laidTests := true, laidLooks := .later }
def FnPartsCardSaid : Prop := Claim7.holds Tryz.pinned (.plain (OpenSpec.ofChange fnPartsSpec)) fnPartsCard

/-- THE TIED CARD OF 'laws.FnPrinted'. -/
def fnPrintedCard : Claim7 := { stood := { row := fnPrintedRow, standIns := [], harness := (true, "1340292e04382b343d8a065225ffe52c8b9efa5a475810cb4a6c1a387c48a657"), looks := true }, kinds := [], alts := [], laidByText := true, laidKinds := [.data, .data, .data, .data, .sentinel, .sentinel, .pinned], laidTests := true, laidLooks := .later }
def FnPrintedCardSaid : Prop := Claim7.holds Tryz.pinned (.plain (OpenSpec.ofChange fnPrintedSpec)) fnPrintedCard

/-- THE SECOND FORM's CARD OF 'laws.FnArrays'. -/
def fnArraysUptoCard : Claim7 := { stood := { row := fnArraysUptoRow, standIns := [], harness := (true, "1340292e04382b343d8a065225ffe52c8b9efa5a475810cb4a6c1a387c48a657"), looks := true }, kinds := [], alts := [], laidByText := true, laidKinds := [.data, .data, .data, .data, .sentinel, .sentinel, .pinned], laidTests := true, laidLooks := .later }
def FnArraysUptoCardSaid : Prop := Claim7.holds Tryz.pinned (.plain (OpenSpec.upto fnArraysSpec)) fnArraysUptoCard

/-- THE SECOND FORM's CARD OF 'laws.FnParts'. -/
def fnPartsUptoCard : Claim7 := { stood := { row := fnPartsUptoRow, standIns := [], harness := (true, "1340292e04382b343d8a065225ffe52c8b9efa5a475810cb4a6c1a387c48a657"), looks := true }, kinds := [], alts := [], laidByText := true, laidKinds := [.data, .data, .data, .data, .sentinel, .sentinel, .pinned], laidTests := true, laidLooks := .later }
def FnPartsUptoCardSaid : Prop := Claim7.holds Tryz.pinned (.plain (OpenSpec.upto fnPartsSpec)) fnPartsUptoCard

/-- THE SECOND FORM's CARD OF 'laws.FnPrinted'. -/
def fnPrintedUptoCard : Claim7 := { stood := { row := fnPrintedUptoRow, standIns := [], harness := (true, "1340292e04382b343d8a065225ffe52c8b9efa5a475810cb4a6c1a387c48a657"), looks := true }, kinds := [], alts := [], laidByText := true, laidKinds := [.data, .data, .data, .data, .sentinel, .sentinel, .pinned], laidTests := true, laidLooks := .later }
def FnPrintedUptoCardSaid : Prop := Claim7.holds Tryz.pinned (.plain (OpenSpec.upto fnPrintedSpec)) fnPrintedUptoCard
end Rows
end Go.Proofs.YtkedjpkkhbnklaaGreatDoor
