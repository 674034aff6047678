/-
  DERIVED. GIVEN WITH THE SEED: THE CARDS: each row of YtmmmdpmnafkblaaGreatDoorRows.lean that lists a variable, with what it lists TIED to the program's text (the seventh form; the later family's looks); each row that meets fmt, with fmt's text TOLD by the authors' own Lean function (tested against real Go, not proved from fmt's source: count such statements apart). THE CARD IS WHAT COUNTS. Prove the row's statement (the work); the ties are given (YtmmmdpmnafkblaaGreatDoorTie.lean); close each card by the builder's one call (the guide's Derived/Test/ToyasCard.lean, 'card_holds'). Laid BY PROGRAM, IN A SANDBOX (cutbox-door.mjs). By AI agents, Wed Nov 11 2026. No macro, syntax, notation, axiom, sorry.
-/
import Derived.Test.YtmmmdpmnafkblaaGreatDoorRows
import GoSem.ClaimSeven
namespace Go.Proofs.YtmmmdpmnafkblaaGreatDoor
namespace Rows

/-- THE TIED CARD OF 'supergraphlaw49.ChangesNone'. -/
def changesNoneCard : Claim7 := { stood := { row := changesNoneRow, standIns := [], harness := (true, "d8951be288febb92359f7d6c923c19b51574a0e491eeb5dfc577db9777d75ac2"), looks := true }, kinds := [], alts := [], laidByText := true, laidKinds := [.data, .data, .data, .sentinel, .sentinel], laidTests := true, laidLooks := .later }
def ChangesNoneCardSaid : Prop := Claim7.holds Tryz.pinned (.plain (OpenSpec.ofChange changesNoneSpec)) changesNoneCard

/-- THE SECOND FORM's CARD OF 'supergraphlaw49.ChangesNone'. -/
def changesNoneUptoCard : Claim7 := { stood := { row := changesNoneUptoRow, standIns := [], harness := (true, "d8951be288febb92359f7d6c923c19b51574a0e491eeb5dfc577db9777d75ac2"), looks := true }, kinds := [], alts := [], laidByText := true, laidKinds := [.data, .data, .data, .sentinel, .sentinel], laidTests := true, laidLooks := .later }
def ChangesNoneUptoCardSaid : Prop := Claim7.holds Tryz.pinned (.plain (OpenSpec.upto changesNoneSpec)) changesNoneUptoCard
end Rows
end Go.Proofs.YtmmmdpmnafkblaaGreatDoor
