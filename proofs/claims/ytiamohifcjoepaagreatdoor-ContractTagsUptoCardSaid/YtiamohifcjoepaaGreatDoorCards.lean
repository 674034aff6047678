/-
  DERIVED. GIVEN WITH THE SEED: THE CARDS: each row of YtiamohifcjoepaaGreatDoorRows.lean that lists a variable, with what it lists TIED to the program's text (the seventh form; the later family's looks); each row that meets fmt, with fmt's text TOLD by the authors' own Lean function (tested against real Go, not proved from fmt's source: count such statements apart). THE CARD IS WHAT COUNTS. Prove the row's statement (the work); the ties are given (YtiamohifcjoepaaGreatDoorTie.lean); close each card by the builder's one call (the guide's Derived/Test/ToyasCard.lean, 'card_holds'). Laid BY PROGRAM, IN A SANDBOX (cutbox-door.mjs). By AI agents, Wed Nov 11 2026. No macro, syntax, notation, axiom, sorry.
-/
import Derived.Test.YtiamohifcjoepaaGreatDoorRows
import GoSem.ClaimSeven
namespace Go.Proofs.YtiamohifcjoepaaGreatDoor
namespace Rows

/-- THE TIED CARD OF 'supergraphlaw51.ContractTags'. -/
def contractTagsCard : Claim7 := { stood := { row := contractTagsRow, standIns := [], harness := (true, "1869bc54d953426728da1a52f812f254f1f6d14c29b9b36e437f1484bcdc6430"), looks := false }, kinds := [], alts := [], laidByText := true, laidKinds := [.data, .data, .data], laidTests := true, laidLooks := .later }
def ContractTagsCardSaid : Prop := Claim7.holds Tryz.pinned (.plain (OpenSpec.ofChange contractTagsSpec)) contractTagsCard

/-- THE SECOND FORM's CARD OF 'supergraphlaw51.ContractTags'. -/
def contractTagsUptoCard : Claim7 := { stood := { row := contractTagsUptoRow, standIns := [], harness := (true, "1869bc54d953426728da1a52f812f254f1f6d14c29b9b36e437f1484bcdc6430"), looks := false }, kinds := [], alts := [], laidByText := true, laidKinds := [.data, .data, .data], laidTests := true, laidLooks := .later }
def ContractTagsUptoCardSaid : Prop := Claim7.holds Tryz.pinned (.plain (OpenSpec.upto contractTagsSpec)) contractTagsUptoCard
end Rows
end Go.Proofs.YtiamohifcjoepaaGreatDoor
