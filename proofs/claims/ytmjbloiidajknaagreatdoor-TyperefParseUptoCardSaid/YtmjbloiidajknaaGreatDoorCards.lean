/-
  DERIVED. GIVEN WITH THE SEED: THE CARDS: each row of YtmjbloiidajknaaGreatDoorRows.lean that lists a variable, with what it lists TIED to the program's text (the seventh form; the later family's looks); each row that meets fmt, with fmt's text TOLD by the authors' own Lean function (tested against real Go, not proved from fmt's source: count such statements apart). THE CARD IS WHAT COUNTS. Prove the row's statement (the work); the ties are given (YtmjbloiidajknaaGreatDoorTie.lean); close each card by the builder's one call (the guide's Derived/Test/ToyasCard.lean, 'card_holds'). Laid BY PROGRAM, IN A SANDBOX (cutbox-door.mjs). By AI agents, Wed Nov 11 2026. No macro, syntax, notation, axiom, sorry.
-/
import Derived.Test.YtmjbloiidajknaaGreatDoorRows
import GoSem.ClaimSeven
namespace Go.Proofs.YtmjbloiidajknaaGreatDoor
namespace Rows

/-- THE TIED CARD OF 'supergraphlaw05.TyperefParts'. -/
def typerefPartsCard : Claim7 := { stood := { row := typerefPartsRow, standIns := [], harness := (true, "c0ec0e4760db611320a3db328ce025d07d43a9f2e191f8936dcbb3902f1b447e"), looks := true }, kinds := [], alts := [], laidByText := true, laidKinds := [.data, .data, .data, .sentinel, .sentinel], laidTests := true, laidLooks := .later }
def TyperefPartsCardSaid : Prop := Claim7.holds Tryz.pinned (.plain (OpenSpec.ofChange typerefPartsSpec)) typerefPartsCard

/-- THE TIED CARD OF 'supergraphlaw05.TyperefCompare'. -/
def typerefCompareCard : Claim7 := { stood := { row := typerefCompareRow, standIns := [], harness := (true, "c0ec0e4760db611320a3db328ce025d07d43a9f2e191f8936dcbb3902f1b447e"), looks := true }, kinds := [], alts := [], laidByText := true, laidKinds := [.data, .data, .data, .sentinel, .sentinel], laidTests := true, laidLooks := .later }
def TyperefCompareCardSaid : Prop := Claim7.holds Tryz.pinned (.plain (OpenSpec.ofChange typerefCompareSpec)) typerefCompareCard

/-- THE TIED CARD OF 'supergraphlaw05.TyperefParse'. -/
def typerefParseCard : Claim7 := { stood := { row := typerefParseRow, standIns := [], harness := (true, "c0ec0e4760db611320a3db328ce025d07d43a9f2e191f8936dcbb3902f1b447e"), looks := true }, kinds := [], alts := [], laidByText := true, laidKinds := [.data, .data, .data, .sentinel, .sentinel], laidTests := true, laidLooks := .later }
def TyperefParseCardSaid : Prop := Claim7.holds Tryz.pinned (.plain (OpenSpec.ofChange typerefParseSpec)) typerefParseCard

/-- THE SECOND FORM's CARD OF 'supergraphlaw05.TyperefParts'. -/
def typerefPartsUptoCard : Claim7 := { stood := { row := typerefPartsUptoRow, standIns := [], harness := (true, "c0ec0e4760db611320a3db328ce025d07d43a9f2e191f8936dcbb3902f1b447e"), looks := true }, kinds := [], alts := [], laidByText := true, laidKinds := [.data, .data, .data, .sentinel, .sentinel], laidTests := true, laidLooks := .later }
def TyperefPartsUptoCardSaid : Prop := Claim7.holds Tryz.pinned (.plain (OpenSpec.upto typerefPartsSpec)) typerefPartsUptoCard

/-- THE SECOND FORM's CARD OF 'supergraphlaw05.TyperefCompare'. -/
def typerefCompareUptoCard : Claim7 := { stood := { row := typerefCompareUptoRow, standIns := [], harness := (true, "c0ec0e4760db611320a3db328ce025d07d43a9f2e191f8936dcbb3902f1b447e"), looks := true }, kinds := [], alts := [], laidByText := true, laidKinds := [.data, .data, .data, .sentinel, .sentinel], laidTests := true, laidLooks := .later }
def TyperefCompareUptoCardSaid : Prop := Claim7.holds Tryz.pinned (.plain (OpenSpec.upto typerefCompareSpec)) typerefCompareUptoCard

/-- THE SECOND FORM's CARD OF 'supergraphlaw05.TyperefParse'. -/
def typerefParseUptoCard : Claim7 := { stood := { row := typerefParseUptoRow, standIns := [], harness := (true, "c0ec0e4760db611320a3db328ce025d07d43a9f2e191f8936dcbb3902f1b447e"), looks := true }, kinds := [], alts := [], laidByText := true, laidKinds := [.data, .data, .data, .sentinel, .sentinel], laidTests := true, laidLooks := .later }
def TyperefParseUptoCardSaid : Prop := Claim7.holds Tryz.pinned (.plain (OpenSpec.upto typerefParseSpec)) typerefParseUptoCard
end Rows
end Go.Proofs.YtmjbloiidajknaaGreatDoor
