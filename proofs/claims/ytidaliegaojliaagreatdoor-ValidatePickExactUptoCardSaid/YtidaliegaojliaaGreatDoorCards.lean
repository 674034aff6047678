/-
  DERIVED. GIVEN WITH THE SEED: THE CARDS: each row of YtidaliegaojliaaGreatDoorRows.lean that lists a variable, with what it lists TIED to the program's text (the seventh form; the later family's looks); each row that meets fmt, with fmt's text TOLD by the authors' own Lean function (tested against real Go, not proved from fmt's source: count such statements apart). THE CARD IS WHAT COUNTS. Prove the row's statement (the work); the ties are given (YtidaliegaojliaaGreatDoorTie.lean); close each card by the builder's one call (the guide's Derived/Test/ToyasCard.lean, 'card_holds'). Laid BY PROGRAM, IN A SANDBOX (cutbox-door.mjs). By AI agents, Wed Nov 11 2026. No macro, syntax, notation, axiom, sorry.
-/
import Derived.Test.YtidaliegaojliaaGreatDoorRows
import GoSem.ClaimSeven
namespace Go.Proofs.YtidaliegaojliaaGreatDoor
namespace Rows

/-- THE TIED CARD OF 'supergraphlaw51.ContractTags'. -/
def contractTagsCard : Claim7 := { stood := { row := contractTagsRow, standIns := [], harness := (true, "e1cc48fc532ca45ced5c3a3f2063da0c2eaf3c011b8d4921fa7e440a5ac64990"), looks := false }, kinds := [], alts := [], laidByText := true, laidKinds := [.data, .data, .data], laidTests := true, laidLooks := .later }
def ContractTagsCardSaid : Prop := Claim7.holds Tryz.pinned (.plain (OpenSpec.ofChange contractTagsSpec)) contractTagsCard

/-- THE TIED CARD OF 'supergraphlaw17.ValidatePickExact'. -/
def validatePickExactCard : Claim7 := { stood := { row := validatePickExactRow, standIns := [], harness := (true, "e1cc48fc532ca45ced5c3a3f2063da0c2eaf3c011b8d4921fa7e440a5ac64990"), looks := false }, kinds := [], alts := [], laidByText := true, laidKinds := [.data, .data, .data], laidTests := true, laidLooks := .later }
def ValidatePickExactCardSaid : Prop := Claim7.holds Tryz.pinned (.plain (OpenSpec.ofChange validatePickExactSpec)) validatePickExactCard

/-- THE SECOND FORM's CARD OF 'supergraphlaw51.ContractTags'. -/
def contractTagsUptoCard : Claim7 := { stood := { row := contractTagsUptoRow, standIns := [], harness := (true, "e1cc48fc532ca45ced5c3a3f2063da0c2eaf3c011b8d4921fa7e440a5ac64990"), looks := false }, kinds := [], alts := [], laidByText := true, laidKinds := [.data, .data, .data], laidTests := true, laidLooks := .later }
def ContractTagsUptoCardSaid : Prop := Claim7.holds Tryz.pinned (.plain (OpenSpec.upto contractTagsSpec)) contractTagsUptoCard

/-- THE SECOND FORM's CARD OF 'supergraphlaw17.ValidatePickExact'. -/
def validatePickExactUptoCard : Claim7 := { stood := { row := validatePickExactUptoRow, standIns := [], harness := (true, "e1cc48fc532ca45ced5c3a3f2063da0c2eaf3c011b8d4921fa7e440a5ac64990"), looks := false }, kinds := [], alts := [], laidByText := true, laidKinds := [.data, .data, .data], laidTests := true, laidLooks := .later }
def ValidatePickExactUptoCardSaid : Prop := Claim7.holds Tryz.pinned (.plain (OpenSpec.upto validatePickExactSpec)) validatePickExactUptoCard
end Rows
end Go.Proofs.YtidaliegaojliaaGreatDoor
