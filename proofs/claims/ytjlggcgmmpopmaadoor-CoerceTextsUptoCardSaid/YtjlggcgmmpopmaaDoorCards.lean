/-
  DERIVED. GIVEN WITH THE SEED: THE CARDS: each row of YtjlggcgmmpopmaaDoorRows.lean that lists a variable, with what it lists TIED to the program's text (the seventh form; the later family's looks); each row that meets fmt, with fmt's text TOLD by the authors' own Lean function (tested against real Go, not proved from fmt's source: count such statements apart). THE CARD IS WHAT COUNTS. Prove the row's statement (the work); the ties are given (YtjlggcgmmpopmaaDoorTie.lean); close each card by the builder's one call (the guide's Derived/Test/ToyasCard.lean, 'card_holds'). Laid BY PROGRAM, IN A SANDBOX (cutbox-door.mjs). By AI agents, Wed Nov 11 2026. No macro, syntax, notation, axiom, sorry.
-/
import Derived.Test.YtjlggcgmmpopmaaDoorRows
import GoSem.ClaimSeven
namespace Go.Proofs.YtjlggcgmmpopmaaDoor
namespace Rows

/-- THE TIED CARD OF 'supergraphlaw12.CoerceTexts'. -/
def coerceTextsCard : Claim7 := { stood := { row := coerceTextsRow, standIns := [], harness := (true, "eeb00900421c1ab8c1df9ea5680d3fef2ebb997be6431e116f8e9d2da8054929"), looks := false }, kinds := [], alts := [], laidByText := true, laidKinds := [.data, .data, .data], laidTests := true, laidLooks := .later }
def CoerceTextsCardSaid : Prop := Claim7.holds Tryd.pinned (.plain (OpenSpec.ofChange coerceTextsSpec)) coerceTextsCard

/-- THE TIED CARD OF 'supergraphlaw12.CoerceSettles'. -/
def coerceSettlesCard : Claim7 := { stood := { row := coerceSettlesRow, standIns := [], harness := (true, "eeb00900421c1ab8c1df9ea5680d3fef2ebb997be6431e116f8e9d2da8054929"), looks := false }, kinds := [], alts := [], laidByText := true, laidKinds := [.data, .data, .data], laidTests := true, laidLooks := .later }
def CoerceSettlesCardSaid : Prop := Claim7.holds Tryd.pinned (.plain (OpenSpec.ofChange coerceSettlesSpec)) coerceSettlesCard

/-- THE SECOND FORM's CARD OF 'supergraphlaw12.CoerceTexts'. -/
def coerceTextsUptoCard : Claim7 := { stood := { row := coerceTextsUptoRow, standIns := [], harness := (true, "eeb00900421c1ab8c1df9ea5680d3fef2ebb997be6431e116f8e9d2da8054929"), looks := false }, kinds := [], alts := [], laidByText := true, laidKinds := [.data, .data, .data], laidTests := true, laidLooks := .later }
def CoerceTextsUptoCardSaid : Prop := Claim7.holds Tryd.pinned (.plain (OpenSpec.upto coerceTextsSpec)) coerceTextsUptoCard

/-- THE SECOND FORM's CARD OF 'supergraphlaw12.CoerceSettles'. -/
def coerceSettlesUptoCard : Claim7 := { stood := { row := coerceSettlesUptoRow, standIns := [], harness := (true, "eeb00900421c1ab8c1df9ea5680d3fef2ebb997be6431e116f8e9d2da8054929"), looks := false }, kinds := [], alts := [], laidByText := true, laidKinds := [.data, .data, .data], laidTests := true, laidLooks := .later }
def CoerceSettlesUptoCardSaid : Prop := Claim7.holds Tryd.pinned (.plain (OpenSpec.upto coerceSettlesSpec)) coerceSettlesUptoCard
end Rows
end Go.Proofs.YtjlggcgmmpopmaaDoor
