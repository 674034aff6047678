/-
  DERIVED. GIVEN WITH THE SEED: THE CARDS: each row of YtfmbgiahleepfabGreatDoorRows.lean that lists a variable, with what it lists TIED to the program's text (the seventh form; the later family's looks); each row that meets fmt, with fmt's text TOLD by the authors' own Lean function (tested against real Go, not proved from fmt's source: count such statements apart). THE CARD IS WHAT COUNTS. Prove the row's statement (the work); the ties are given (YtfmbgiahleepfabGreatDoorTie.lean); close each card by the builder's one call (the guide's Derived/Test/ToyasCard.lean, 'card_holds'). Laid BY PROGRAM, IN A SANDBOX (cutbox-door.mjs). By AI agents, Wed Nov 11 2026. No macro, syntax, notation, axiom, sorry.
-/
import Derived.Test.YtfmbgiahleepfabGreatDoorRows
import GoSem.ClaimSeven
namespace Go.Proofs.YtfmbgiahleepfabGreatDoor
namespace Rows

/-- THE TIED CARD OF 'supergraphlaw14.FieldsLiteral'. -/
def fieldsLiteralCard : Claim7 := { stood := { row := fieldsLiteralRow, standIns := [], harness := (true, "384c4554af338fcdd7d3f8f2c4de395419203b865cd76224f0f99bd06bc1e7f6"), looks := false }, kinds := [], alts := [], laidByText := true, laidKinds := [.data, .data, .data], laidTests := true, laidLooks := .later }
def FieldsLiteralCardSaid : Prop := Claim7.holds Tryz.pinned (.plain (OpenSpec.ofChange fieldsLiteralSpec)) fieldsLiteralCard

/-- THE SECOND FORM's CARD OF 'supergraphlaw14.FieldsLiteral'. -/
def fieldsLiteralUptoCard : Claim7 := { stood := { row := fieldsLiteralUptoRow, standIns := [], harness := (true, "384c4554af338fcdd7d3f8f2c4de395419203b865cd76224f0f99bd06bc1e7f6"), looks := false }, kinds := [], alts := [], laidByText := true, laidKinds := [.data, .data, .data], laidTests := true, laidLooks := .later }
def FieldsLiteralUptoCardSaid : Prop := Claim7.holds Tryz.pinned (.plain (OpenSpec.upto fieldsLiteralSpec)) fieldsLiteralUptoCard
end Rows
end Go.Proofs.YtfmbgiahleepfabGreatDoor
