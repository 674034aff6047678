/-
  DERIVED. GIVEN WITH THE SEED: THE CARDS: each row of YtekcmpooblhllaaGreatDoorRows.lean that lists a variable, with what it lists TIED to the program's text (the seventh form; the later family's looks); each row that meets fmt, with fmt's text TOLD by the authors' own Lean function (tested against real Go, not proved from fmt's source: count such statements apart). THE CARD IS WHAT COUNTS. Prove the row's statement (the work); the ties are given (YtekcmpooblhllaaGreatDoorTie.lean); close each card by the builder's one call (the guide's Derived/Test/ToyasCard.lean, 'card_holds'). Laid BY PROGRAM, IN A SANDBOX (cutbox-door.mjs). By AI agents, Wed Nov 11 2026. No macro, syntax, notation, axiom, sorry.
-/
import Derived.Test.YtekcmpooblhllaaGreatDoorRows
import GoSem.ClaimSeven
namespace Go.Proofs.YtekcmpooblhllaaGreatDoor
namespace Rows

/-- THE TIED CARD OF 'supergraphlaw49.ChangesTexts'. -/
def changesTextsCard : Claim7 := { stood := { row := changesTextsRow, standIns := [], harness := (true, "433cef47f5b45137ed736aecb963b59e4d4fdf08cc8a9ab508eb11b0d7c37530"), looks := true }, kinds := [], alts := [], laidByText := true, laidKinds := [.data, .data, .data, .sentinel, .sentinel], laidTests := true, laidLooks := .later }
def ChangesTextsCardSaid : Prop := Claim7.holds Tryz.pinned (.plain (OpenSpec.ofChange changesTextsSpec)) changesTextsCard

/-- THE SECOND FORM's CARD OF 'supergraphlaw49.ChangesTexts'. -/
def changesTextsUptoCard : Claim7 := { stood := { row := changesTextsUptoRow, standIns := [], harness := (true, "433cef47f5b45137ed736aecb963b59e4d4fdf08cc8a9ab508eb11b0d7c37530"), looks := true }, kinds := [], alts := [], laidByText := true, laidKinds := [.data, .data, .data, .sentinel, .sentinel], laidTests := true, laidLooks := .later }
def ChangesTextsUptoCardSaid : Prop := Claim7.holds Tryz.pinned (.plain (OpenSpec.upto changesTextsSpec)) changesTextsUptoCard
end Rows
end Go.Proofs.YtekcmpooblhllaaGreatDoor
