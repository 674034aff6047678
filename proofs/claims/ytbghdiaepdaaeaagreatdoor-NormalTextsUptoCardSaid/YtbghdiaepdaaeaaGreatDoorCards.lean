/-
  DERIVED. GIVEN WITH THE SEED: THE CARDS: each row of YtbghdiaepdaaeaaGreatDoorRows.lean that lists a variable, with what it lists TIED to the program's text (the seventh form; the later family's looks); each row that meets fmt, with fmt's text TOLD by the authors' own Lean function (tested against real Go, not proved from fmt's source: count such statements apart). THE CARD IS WHAT COUNTS. Prove the row's statement (the work); the ties are given (YtbghdiaepdaaeaaGreatDoorTie.lean); close each card by the builder's one call (the guide's Derived/Test/ToyasCard.lean, 'card_holds'). Laid BY PROGRAM, IN A SANDBOX (cutbox-door.mjs). By AI agents, Wed Nov 11 2026. No macro, syntax, notation, axiom, sorry.
-/
import Derived.Test.YtbghdiaepdaaeaaGreatDoorRows
import GoSem.ClaimSeven
namespace Go.Proofs.YtbghdiaepdaaeaaGreatDoor
namespace Rows

/-- THE TIED CARD OF 'supergraphlaw19.NormalRights'. -/
def normalRightsCard : Claim7 := { stood := { row := normalRightsRow, standIns := [], harness := (true, "20edb38354d10bc41300c0a2e008780f218443f3b79d32c655ca0e42caaa13fa"), looks := false }, kinds := [], alts := [], laidByText := true, laidKinds := [.data, .data, .data, .data, .pinned, .pinned], laidTests := true, laidLooks := .later }
def NormalRightsCardSaid : Prop := Claim7.holds Tryz.pinned (.plain (OpenSpec.ofChange normalRightsSpec)) normalRightsCard

/-- THE TIED CARD OF 'supergraphlaw19.NormalTexts'. -/
def normalTextsCard : Claim7 := { stood := { row := normalTextsRow, standIns := [], harness := (true, "20edb38354d10bc41300c0a2e008780f218443f3b79d32c655ca0e42caaa13fa"), looks := false }, kinds := [], alts := [], laidByText := true, laidKinds := [.data, .data, .data, .data, .pinned, .pinned], laidTests := true, laidLooks := .later }
def NormalTextsCardSaid : Prop := Claim7.holds Tryz.pinned (.plain (OpenSpec.ofChange normalTextsSpec)) normalTextsCard

/-- THE TIED CARD OF 'supergraphlaw19.NormalDocuments'. -/
def normalDocumentsCard : Claim7 := { stood := { row := normalDocumentsRow, standIns := [], harness := (true, "20edb38354d10bc41300c0a2e008780f218443f3b79d32c655ca0e42caaa13fa"), looks := false }, kinds := [], alts := [], laidByText := true, laidKinds := [.data, .data, .data, .data, .pinned, .pinned], laidTests := true, laidLooks := .later }
def NormalDocumentsCardSaid : Prop := Claim7.holds Tryz.pinned (.plain (OpenSpec.ofChange normalDocumentsSpec)) normalDocumentsCard

/-- THE SECOND FORM's CARD OF 'supergraphlaw19.NormalRights'. -/
def normalRightsUptoCard : Claim7 := { stood := { row := normalRightsUptoRow, standIns := [], harness := (true, "20edb38354d10bc41300c0a2e008780f218443f3b79d32c655ca0e42caaa13fa"), looks := false }, kinds := [], alts := [], laidByText := true, laidKinds := [.data, .data, .data, .data, .pinned, .pinned], laidTests := true, laidLooks := .later }
def NormalRightsUptoCardSaid : Prop := Claim7.holds Tryz.pinned (.plain (OpenSpec.upto normalRightsSpec)) normalRightsUptoCard

/-- THE SECOND FORM's CARD OF 'supergraphlaw19.NormalTexts'. -/
def normalTextsUptoCard : Claim7 := { stood := { row := normalTextsUptoRow, standIns := [], harness := (true, "20edb38354d10bc41300c0a2e008780f218443f3b79d32c655ca0e42caaa13fa"), looks := false }, kinds := [], alts := [], laidByText := true, laidKinds := [.data, .data, .data, .data, .pinned, .pinned], laidTests := true, laidLooks := .later }
def NormalTextsUptoCardSaid : Prop := Claim7.holds Tryz.pinned (.plain (OpenSpec.upto normalTextsSpec)) normalTextsUptoCard

/-- THE SECOND FORM's CARD OF 'supergraphlaw19.NormalDocuments'. -/
def normalDocumentsUptoCard : Claim7 := { stood := { row := normalDocumentsUptoRow, standIns := [], harness := (true, "20edb38354d10bc41300c0a2e008780f218443f3b79d32c655ca0e42caaa13fa"), looks := false }, kinds := [], alts := [], laidByText := true, laidKinds := [.data, .data, .data, .data, .pinned, .pinned], laidTests := true, laidLooks := .later }
def NormalDocumentsUptoCardSaid : Prop := Claim7.holds Tryz.pinned (.plain (OpenSpec.upto normalDocumentsSpec)) normalDocumentsUptoCard
end Rows
end Go.Proofs.YtbghdiaepdaaeaaGreatDoor
