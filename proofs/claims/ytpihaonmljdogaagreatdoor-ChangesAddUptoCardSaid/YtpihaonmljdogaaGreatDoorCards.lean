/-
  DERIVED. GIVEN WITH THE SEED: THE CARDS: each row of YtpihaonmljdogaaGreatDoorRows.lean that lists a variable, with what it lists TIED to the program's text (the seventh form; the later family's looks); each row that meets fmt, with fmt's text TOLD by the authors' own Lean function (tested against real Go, not proved from fmt's source: count such statements apart). THE CARD IS WHAT COUNTS. Prove the row's statement (the work); the ties are given (YtpihaonmljdogaaGreatDoorTie.lean); close each card by the builder's one call (the guide's Derived/Test/ToyasCard.lean, 'card_holds'). Laid BY PROGRAM, IN A SANDBOX (cutbox-door.mjs). By AI agents, Wed Nov 11 2026. No macro, syntax, notation, axiom, sorry.
-/
import Derived.Test.YtpihaonmljdogaaGreatDoorRows
import GoSem.ClaimSeven
namespace Go.Proofs.YtpihaonmljdogaaGreatDoor
namespace Rows

/-- THE TIED CARD OF 'supergraphlaw49.ChangesAdd'. -/
def changesAddCard : Claim7 := { stood := { row := changesAddRow, standIns := [], harness := (true, "550ff1ef6b2138beb37b9cdccca6e437ee2e7360fbdf389e7a2654e13115f16d"), looks := true }, kinds := [], alts := [], laidByText := true, laidKinds := [.data, .data, .data, .sentinel, .sentinel], laidTests := true, laidLooks := .later }
def ChangesAddCardSaid : Prop := Claim7.holds Tryz.pinned (.plain (OpenSpec.ofChange changesAddSpec)) changesAddCard

/-- THE SECOND FORM's CARD OF 'supergraphlaw49.ChangesAdd'. -/
def changesAddUptoCard : Claim7 := { stood := { row := changesAddUptoRow, standIns := [], harness := (true, "550ff1ef6b2138beb37b9cdccca6e437ee2e7360fbdf389e7a2654e13115f16d"), looks := true }, kinds := [], alts := [], laidByText := true, laidKinds := [.data, .data, .data, .sentinel, .sentinel], laidTests := true, laidLooks := .later }
def ChangesAddUptoCardSaid : Prop := Claim7.holds Tryz.pinned (.plain (OpenSpec.upto changesAddSpec)) changesAddUptoCard
end Rows
end Go.Proofs.YtpihaonmljdogaaGreatDoor
