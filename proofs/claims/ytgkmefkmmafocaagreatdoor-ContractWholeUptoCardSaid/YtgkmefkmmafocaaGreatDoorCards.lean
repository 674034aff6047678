/-
  DERIVED. GIVEN WITH THE SEED: THE CARDS: each row of YtgkmefkmmafocaaGreatDoorRows.lean that lists a variable, with what it lists TIED to the program's text (the seventh form; the later family's looks); each row that meets fmt, with fmt's text TOLD by the authors' own Lean function (tested against real Go, not proved from fmt's source: count such statements apart). THE CARD IS WHAT COUNTS. Prove the row's statement (the work); the ties are given (YtgkmefkmmafocaaGreatDoorTie.lean); close each card by the builder's one call (the guide's Derived/Test/ToyasCard.lean, 'card_holds'). Laid BY PROGRAM, IN A SANDBOX (cutbox-door.mjs). By AI agents, Wed Nov 11 2026. No macro, syntax, notation, axiom, sorry.
-/
import Derived.Test.YtgkmefkmmafocaaGreatDoorRows
import GoSem.ClaimSeven
namespace Go.Proofs.YtgkmefkmmafocaaGreatDoor
namespace Rows

/-- THE TIED CARD OF 'supergraphlaw51.ContractWhole'. -/
def contractWholeCard : Claim7 := { stood := { row := contractWholeRow, standIns := [], harness := (true, "d0739bd4ca16d098b85ff63e300c960a9378f93c1aa697d0e0335146d3a9b05f"), looks := false }, kinds := [], alts := [], laidByText := true, laidKinds := [.data, .data, .data], laidTests := true, laidLooks := .later }
def ContractWholeCardSaid : Prop := Claim7.holds Tryz.pinned (.plain (OpenSpec.ofChange contractWholeSpec)) contractWholeCard

/-- THE TIED CARD OF 'supergraphlaw51.ContractPrunes'. -/
def contractPrunesCard : Claim7 := { stood := { row := contractPrunesRow, standIns := [], harness := (true, "d0739bd4ca16d098b85ff63e300c960a9378f93c1aa697d0e0335146d3a9b05f"), looks := false }, kinds := [], alts := [], laidByText := true, laidKinds := [.data, .data, .data], laidTests := true, laidLooks := .later }
def ContractPrunesCardSaid : Prop := Claim7.holds Tryz.pinned (.plain (OpenSpec.ofChange contractPrunesSpec)) contractPrunesCard

/-- THE SECOND FORM's CARD OF 'supergraphlaw51.ContractWhole'. -/
def contractWholeUptoCard : Claim7 := { stood := { row := contractWholeUptoRow, standIns := [], harness := (true, "d0739bd4ca16d098b85ff63e300c960a9378f93c1aa697d0e0335146d3a9b05f"), looks := false }, kinds := [], alts := [], laidByText := true, laidKinds := [.data, .data, .data], laidTests := true, laidLooks := .later }
def ContractWholeUptoCardSaid : Prop := Claim7.holds Tryz.pinned (.plain (OpenSpec.upto contractWholeSpec)) contractWholeUptoCard

/-- THE SECOND FORM's CARD OF 'supergraphlaw51.ContractPrunes'. -/
def contractPrunesUptoCard : Claim7 := { stood := { row := contractPrunesUptoRow, standIns := [], harness := (true, "d0739bd4ca16d098b85ff63e300c960a9378f93c1aa697d0e0335146d3a9b05f"), looks := false }, kinds := [], alts := [], laidByText := true, laidKinds := [.data, .data, .data], laidTests := true, laidLooks := .later }
def ContractPrunesUptoCardSaid : Prop := Claim7.holds Tryz.pinned (.plain (OpenSpec.upto contractPrunesSpec)) contractPrunesUptoCard
end Rows
end Go.Proofs.YtgkmefkmmafocaaGreatDoor
