/-
  DERIVED. GIVEN WITH THE SEED: THE CARDS: each row of YtbbkbkhdciklaaaGreatDoorRows.lean that lists a variable, with what it lists TIED to the program's text (the seventh form; the later family's looks); each row that meets fmt, with fmt's text TOLD by the authors' own Lean function (tested against real Go, not proved from fmt's source: count such statements apart). THE CARD IS WHAT COUNTS. Prove the row's statement (the work); the ties are given (YtbbkbkhdciklaaaGreatDoorTie.lean); close each card by the builder's one call (the guide's Derived/Test/ToyasCard.lean, 'card_holds'). Laid BY PROGRAM, IN A SANDBOX (cutbox-door.mjs). By AI agents, Wed Nov 11 2026. No macro, syntax, notation, axiom, sorry.
-/
import Derived.Test.YtbbkbkhdciklaaaGreatDoorRows
import GoSem.ClaimSeven
namespace Go.Proofs.YtbbkbkhdciklaaaGreatDoor
namespace Rows

/-- THE TIED CARD OF 'supergraphlaw17.ValidateWhole'. -/
def validateWholeCard : Claim7 := { stood := { row := validateWholeRow, standIns := [], harness := (true, "791887443f486728e2950f6db37102e59b977709fb024a86da5a3bdc11e7a86a"), looks := false }, kinds := [], alts := [], laidByText := true, laidKinds := [.data, .data, .data], laidTests := true, laidLooks := .later }
def ValidateWholeCardSaid : Prop := Claim7.holds Tryz.pinned (.plain (OpenSpec.ofChange validateWholeSpec)) validateWholeCard

/-- THE SECOND FORM's CARD OF 'supergraphlaw17.ValidateWhole'. -/
def validateWholeUptoCard : Claim7 := { stood := { row := validateWholeUptoRow, standIns := [], harness := (true, "791887443f486728e2950f6db37102e59b977709fb024a86da5a3bdc11e7a86a"), looks := false }, kinds := [], alts := [], laidByText := true, laidKinds := [.data, .data, .data], laidTests := true, laidLooks := .later }
def ValidateWholeUptoCardSaid : Prop := Claim7.holds Tryz.pinned (.plain (OpenSpec.upto validateWholeSpec)) validateWholeUptoCard
end Rows
end Go.Proofs.YtbbkbkhdciklaaaGreatDoor
