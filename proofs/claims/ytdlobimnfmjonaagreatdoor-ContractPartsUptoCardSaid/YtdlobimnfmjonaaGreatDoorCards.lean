/-
  DERIVED. GIVEN WITH THE SEED: THE CARDS: each row of YtdlobimnfmjonaaGreatDoorRows.lean that lists a variable, with what it lists TIED to the program's text (the seventh form; the later family's looks); each row that meets fmt, with fmt's text TOLD by the authors' own Lean function (tested against real Go, not proved from fmt's source: count such statements apart). THE CARD IS WHAT COUNTS. Prove the row's statement (the work); the ties are given (YtdlobimnfmjonaaGreatDoorTie.lean); close each card by the builder's one call (the guide's Derived/Test/ToyasCard.lean, 'card_holds'). Laid BY PROGRAM, IN A SANDBOX (cutbox-door.mjs). By AI agents, Wed Nov 11 2026. No macro, syntax, notation, axiom, sorry.
-/
import Derived.Test.YtdlobimnfmjonaaGreatDoorRows
import GoSem.ClaimSeven
namespace Go.Proofs.YtdlobimnfmjonaaGreatDoor
namespace Rows

/-- THE TIED CARD OF 'supergraphlaw51.ContractFilters'. -/
def contractFiltersCard : Claim7 := { stood := { row := contractFiltersRow, standIns := [], harness := (true, "93b4eb6edf5ff41d941e95c50ddd4cbe23b0199743875573d969a89d56fe4d6a"), looks := false }, kinds := [], alts := [], laidByText := true, laidKinds := [.data, .data, .data], laidTests := true, laidLooks := .later }
def ContractFiltersCardSaid : Prop := Claim7.holds Tryz.pinned (.plain (OpenSpec.ofChange contractFiltersSpec)) contractFiltersCard

/-- THE TIED CARD OF 'supergraphlaw51.ContractParts'. -/
def contractPartsCard : Claim7 := { stood := { row := contractPartsRow, standIns := [], harness := (true, "93b4eb6edf5ff41d941e95c50ddd4cbe23b0199743875573d969a89d56fe4d6a"), looks := false }, kinds := [], alts := [], laidByText := true, laidKinds := [.data, .data, .data], laidTests := true, laidLooks := .later }
def ContractPartsCardSaid : Prop := Claim7.holds Tryz.pinned (.plain (OpenSpec.ofChange contractPartsSpec)) contractPartsCard

/-- THE SECOND FORM's CARD OF 'supergraphlaw51.ContractFilters'. -/
def contractFiltersUptoCard : Claim7 := { stood := { row := contractFiltersUptoRow, standIns := [], harness := (true, "93b4eb6edf5ff41d941e95c50ddd4cbe23b0199743875573d969a89d56fe4d6a"), looks := false }, kinds := [], alts := [], laidByText := true, laidKinds := [.data, .data, .data], laidTests := true, laidLooks := .later }
def ContractFiltersUptoCardSaid : Prop := Claim7.holds Tryz.pinned (.plain (OpenSpec.upto contractFiltersSpec)) contractFiltersUptoCard

/-- THE SECOND FORM's CARD OF 'supergraphlaw51.ContractParts'. -/
def contractPartsUptoCard : Claim7 := { stood := { row := contractPartsUptoRow, standIns := [], harness := (true, "93b4eb6edf5ff41d941e95c50ddd4cbe23b0199743875573d969a89d56fe4d6a"), looks := false }, kinds := [], alts := [], laidByText := true, laidKinds := [.data, .data, .data], laidTests := true, laidLooks := .later }
def ContractPartsUptoCardSaid : Prop := Claim7.holds Tryz.pinned (.plain (OpenSpec.upto contractPartsSpec)) contractPartsUptoCard
end Rows
end Go.Proofs.YtdlobimnfmjonaaGreatDoor
