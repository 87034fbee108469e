/-
  DERIVED. GIVEN WITH THE SEED: THE CARDS: each row of YtodmelapdoahpaaGreatDoorRows.lean that lists a variable, with what it lists TIED to the program's text (the seventh form; the later family's looks); each row that meets fmt, with fmt's text TOLD by the authors' own Lean function (tested against real Go, not proved from fmt's source: count such statements apart). THE CARD IS WHAT COUNTS. Prove the row's statement (the work); the ties are given (YtodmelapdoahpaaGreatDoorTie.lean); close each card by the builder's one call (the guide's Derived/Test/ToyasCard.lean, 'card_holds'). Laid BY PROGRAM, IN A SANDBOX (cutbox-door.mjs). By AI agents, Wed Nov 11 2026. No macro, syntax, notation, axiom, sorry.
-/
import Derived.Test.YtodmelapdoahpaaGreatDoorRows
import GoSem.ClaimSeven
namespace Go.Proofs.YtodmelapdoahpaaGreatDoor
namespace Rows

/-- THE TIED CARD OF 'laws.FnNexts'. -/
def fnNextsCard : Claim7 := { stood := { row := fnNextsRow, standIns := [], harness := (true, "fe6e6f8bddec51d210d823172e1f66888ada8b1f8f130e9421f6037e22cd3465"), looks := true }, kinds := [], alts := [], laidByText := true, laidKinds := [.data, .data, .data, .data, .sentinel, .sentinel, .pinned], laidTests := true, laidLooks := .later }
def FnNextsCardSaid : Prop := Claim7.holds Tryz.pinned (.plain (OpenSpec.ofChange fnNextsSpec)) fnNextsCard

/-- THE TIED CARD OF 'laws.FnParts'. -/
def fnPartsCard : Claim7 := { stood := { row := fnPartsRow, standIns := [], harness := (true, "fe6e6f8bddec51d210d823172e1f66888ada8b1f8f130e9421f6037e22cd3465"), looks := true }, kinds := [], alts := [], laidByText := true, laidKinds := [.data, .data, .data, .data, .sentinel, .sentinel, .pinned], laidTests := true, laidLooks := .later }
def FnPartsCardSaid : Prop := Claim7.holds Tryz.pinned (.plain (OpenSpec.ofChange fnPartsSpec)) fnPartsCard

/-- THE SECOND FORM's CARD OF 'laws.FnNexts'. -/
def fnNextsUptoCard : Claim7 := { stood := { row := fnNextsUptoRow, standIns := [], harness := (true, "fe6e6f8bddec51d210d823172e1f66888ada8b1f8f130e9421f6037e22cd3465"), looks := true }, kinds := [], alts := [], laidByText := true, laidKinds := [.data, .data, .data, .data, .sentinel, .sentinel, .pinned], laidTests := true, laidLooks := .later }
def FnNextsUptoCardSaid : Prop := Claim7.holds Tryz.pinned (.plain (OpenSpec.upto fnNextsSpec)) fnNextsUptoCard

/-- THE SECOND FORM's CARD OF 'laws.FnParts'. -/
def fnPartsUptoCard : Claim7 := { stood := { row := fnPartsUptoRow, standIns := [], harness := (true, "fe6e6f8bddec51d210d823172e1f66888ada8b1f8f130e9421f6037e22cd3465"), looks := true }, kinds := [], alts := [], laidByText := true, laidKinds := [.data, .data, .data, .data, .sentinel, .sentinel, .pinned], laidTests := true, laidLooks := .later }
def FnPartsUptoCardSaid : Prop := Claim7.holds Tryz.pinned (.plain (OpenSpec.upto fnPartsSpec)) fnPartsUptoCard
end Rows
end Go.Proofs.YtodmelapdoahpaaGreatDoor
