/-
  DERIVED. GIVEN WITH THE SEED: THE CARDS: each row of YtolmeempkaelfaaGreatDoorRows.lean that lists a variable, with what it lists TIED to the program's text (the seventh form; the later family's looks); each row that meets fmt, with fmt's text TOLD by the authors' own Lean function (tested against real Go, not proved from fmt's source: count such statements apart). THE CARD IS WHAT COUNTS. Prove the row's statement (the work); the ties are given (YtolmeempkaelfaaGreatDoorTie.lean); close each card by the builder's one call (the guide's Derived/Test/ToyasCard.lean, 'card_holds'). Laid BY PROGRAM, IN A SANDBOX (cutbox-door.mjs). By AI agents, Wed Nov 11 2026. No macro, syntax, notation, axiom, sorry.
-/
import Derived.Test.YtolmeempkaelfaaGreatDoorRows
import GoSem.ClaimSeven
namespace Go.Proofs.YtolmeempkaelfaaGreatDoor
namespace Rows

/-- THE TIED CARD OF 'laws.FnStops'. -/
def fnStopsCard : Claim7 := { stood := { row := fnStopsRow, standIns := [], harness := (true, "b40d45c73f1ecce47f9494c16241cee8fdfbe0b61cbf9281116117825dd9dcca"), looks := true }, kinds := [], alts := [], laidByText := true, laidKinds := [.data, .data, .data, .data, .sentinel, .sentinel, .pinned], laidTests := true, laidLooks := .later }
def FnStopsCardSaid : Prop := Claim7.holds Tryz.pinned (.plain (OpenSpec.ofChange fnStopsSpec)) fnStopsCard

/-- THE TIED CARD OF 'laws.FnGrows'. -/
def fnGrowsCard : Claim7 := { stood := { row := fnGrowsRow, standIns := [], harness := (true, "b40d45c73f1ecce47f9494c16241cee8fdfbe0b61cbf9281116117825dd9dcca"), looks := true }, kinds := [], alts := [], laidByText := true, laidKinds := [.data, .data, .data, .data, .sentinel, .sentinel, .pinned], laidTests := true, laidLooks := .later }
def FnGrowsCardSaid : Prop := Claim7.holds Tryz.pinned (.plain (OpenSpec.ofChange fnGrowsSpec)) fnGrowsCard

/-- THE TIED CARD OF 'laws.FnLocals'. -/
def fnLocalsCard : Claim7 := { stood := { row := fnLocalsRow, standIns := [], harness := (true, "b40d45c73f1ecce47f9494c16241cee8fdfbe0b61cbf9281116117825dd9dcca"), looks := true }, kinds := [], alts := [], laidByText := true, laidKinds := [.data, .data, .data, .data, .sentinel, .sentinel, .pinned], laidTests := true, laidLooks := .later }
def FnLocalsCardSaid : Prop := Claim7.holds Tryz.pinned (.plain (OpenSpec.ofChange fnLocalsSpec)) fnLocalsCard

/-- THE TIED CARD OF 'laws.FnSides'. -/
def fnSidesCard : Claim7 := { stood := { row := fnSidesRow, standIns := [], harness := (true, "b40d45c73f1ecce47f9494c16241cee8fdfbe0b61cbf9281116117825dd9dcca"), looks := true }, kinds := [], alts := [], laidByText := true, laidKinds := [.data, .data, .data, .data, .sentinel, .sentinel, .pinned], laidTests := true, laidLooks := .later }
def FnSidesCardSaid : Prop := Claim7.holds Tryz.pinned (.plain (OpenSpec.ofChange fnSidesSpec)) fnSidesCard

/-- THE SECOND FORM's CARD OF 'laws.FnStops'. -/
def fnStopsUptoCard : Claim7 := { stood := { row := fnStopsUptoRow, standIns := [], harness := (true, "b40d45c73f1ecce47f9494c16241cee8fdfbe0b61cbf9281116117825dd9dcca"), looks := true }, kinds := [], alts := [], laidByText := true, laidKinds := [.data, .data, .data, .data, .sentinel, .sentinel, .pinned], laidTests := true, laidLooks := .later }
def FnStopsUptoCardSaid : Prop := Claim7.holds Tryz.pinned (.plain (OpenSpec.upto fnStopsSpec)) fnStopsUptoCard

/-- THE SECOND FORM's CARD OF 'laws.FnGrows'. -/
def fnGrowsUptoCard : Claim7 := { stood := { row := fnGrowsUptoRow, standIns := [], harness := (true, "b40d45c73f1ecce47f9494c16241cee8fdfbe0b61cbf9281116117825dd9dcca"), looks := true }, kinds := [], alts := [], laidByText := true, laidKinds := [.data, .data, .data, .data, .sentinel, .sentinel, .pinned], laidTests := true, laidLooks := .later }
def FnGrowsUptoCardSaid : Prop := Claim7.holds Tryz.pinned (.plain (OpenSpec.upto fnGrowsSpec)) fnGrowsUptoCard

/-- THE SECOND FORM's CARD OF 'laws.FnLocals'. -/
def fnLocalsUptoCard : Claim7 := { stood := { row := fnLocalsUptoRow, standIns := [], harness := (true, "b40d45c73f1ecce47f9494c16241cee8fdfbe0b61cbf9281116117825dd9dcca"), looks := true }, kinds := [], alts := [], laidByText := true, laidKinds := [.data, .data, .data, .data, .sentinel, .sentinel, .pinned], laidTests := true, laidLooks := .later }
def FnLocalsUptoCardSaid : Prop := Claim7.holds Tryz.pinned (.plain (OpenSpec.upto fnLocalsSpec)) fnLocalsUptoCard

/-- THE SECOND FORM's CARD OF 'laws.FnSides'. -/
def fnSidesUptoCard : Claim7 := { stood := { row := fnSidesUptoRow, standIns := [], harness := (true, "b40d45c73f1ecce47f9494c16241cee8fdfbe0b61cbf9281116117825dd9dcca"), looks := true }, kinds := [], alts := [], laidByText := true, laidKinds := [.data, .data, .data, .data, .sentinel, .sentinel, .pinned], laidTests := true, laidLooks := .later }
def FnSidesUptoCardSaid : Prop := Claim7.holds Tryz.pinned (.plain (OpenSpec.upto fnSidesSpec)) fnSidesUptoCard
end Rows
end Go.Proofs.YtolmeempkaelfaaGreatDoor
