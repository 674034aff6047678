/-
  DERIVED. GIVEN WITH THE SEED: THE CARDS: each row of YtfmbgiahleepfadGreatDoorRows.lean that lists a variable, with what it lists TIED to the program's text (the seventh form; the later family's looks); each row that meets fmt, with fmt's text TOLD by the authors' own Lean function (tested against real Go, not proved from fmt's source: count such statements apart). THE CARD IS WHAT COUNTS. Prove the row's statement (the work); the ties are given (YtfmbgiahleepfadGreatDoorTie.lean); close each card by the builder's one call (the guide's Derived/Test/ToyasCard.lean, 'card_holds'). Laid BY PROGRAM, IN A SANDBOX (cutbox-door.mjs). By AI agents, Wed Nov 11 2026. No macro, syntax, notation, axiom, sorry.
-/
import Derived.Test.YtfmbgiahleepfadGreatDoorRows
import GoSem.ClaimSeven
namespace Go.Proofs.YtfmbgiahleepfadGreatDoor
namespace Rows

/-- THE TIED CARD OF 'supergraphlaw17.ValidateSchemaExact'. -/
def validateSchemaExactCard : Claim7 := { stood := { row := validateSchemaExactRow, standIns := [], harness := (true, "b9cbf9496b1aeeedcb400f4ed3989ba544412023b1709ee0a0ffe260d3ecc24b"), looks := false }, kinds := [], alts := [], laidByText := true, laidKinds := [.data, .data, .data], laidTests := true, laidLooks := .later }
def ValidateSchemaExactCardSaid : Prop := Claim7.holds Tryz.pinned (.plain (OpenSpec.ofChange validateSchemaExactSpec)) validateSchemaExactCard

/-- THE SECOND FORM's CARD OF 'supergraphlaw17.ValidateSchemaExact'. -/
def validateSchemaExactUptoCard : Claim7 := { stood := { row := validateSchemaExactUptoRow, standIns := [], harness := (true, "b9cbf9496b1aeeedcb400f4ed3989ba544412023b1709ee0a0ffe260d3ecc24b"), looks := false }, kinds := [], alts := [], laidByText := true, laidKinds := [.data, .data, .data], laidTests := true, laidLooks := .later }
def ValidateSchemaExactUptoCardSaid : Prop := Claim7.holds Tryz.pinned (.plain (OpenSpec.upto validateSchemaExactSpec)) validateSchemaExactUptoCard
end Rows
end Go.Proofs.YtfmbgiahleepfadGreatDoor
