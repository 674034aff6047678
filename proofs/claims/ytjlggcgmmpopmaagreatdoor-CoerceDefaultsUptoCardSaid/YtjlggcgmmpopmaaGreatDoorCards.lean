/-
  DERIVED. GIVEN WITH THE SEED: THE CARDS: each row of YtjlggcgmmpopmaaGreatDoorRows.lean that lists a variable, with what it lists TIED to the program's text (the seventh form; the later family's looks); each row that meets fmt, with fmt's text TOLD by the authors' own Lean function (tested against real Go, not proved from fmt's source: count such statements apart). THE CARD IS WHAT COUNTS. Prove the row's statement (the work); the ties are given (YtjlggcgmmpopmaaGreatDoorTie.lean); close each card by the builder's one call (the guide's Derived/Test/ToyasCard.lean, 'card_holds'). Laid BY PROGRAM, IN A SANDBOX (cutbox-door.mjs). By AI agents, Wed Nov 11 2026. No macro, syntax, notation, axiom, sorry.
-/
import Derived.Test.YtjlggcgmmpopmaaGreatDoorRows
import GoSem.ClaimSeven
namespace Go.Proofs.YtjlggcgmmpopmaaGreatDoor
namespace Rows

/-- THE TIED CARD OF 'supergraphlaw12.CoerceLiterals'. -/
def coerceLiteralsCard : Claim7 := { stood := { row := coerceLiteralsRow, standIns := [], harness := (true, "9d3a34b44fd0bd01cf073f10108926dd14ac18d9f12992feca98eec694a765c5"), looks := false }, kinds := [], alts := [], laidByText := true, laidKinds := [.data, .data, .data], laidTests := true, laidLooks := .later }
def CoerceLiteralsCardSaid : Prop := Claim7.holds Tryz.pinned (.plain (OpenSpec.ofChange coerceLiteralsSpec)) coerceLiteralsCard

/-- THE TIED CARD OF 'supergraphlaw12.CoerceInputs'. -/
def coerceInputsCard : Claim7 := { stood := { row := coerceInputsRow, standIns := [], harness := (true, "9d3a34b44fd0bd01cf073f10108926dd14ac18d9f12992feca98eec694a765c5"), looks := false }, kinds := [], alts := [], laidByText := true, laidKinds := [.data, .data, .data], laidTests := true, laidLooks := .later }
def CoerceInputsCardSaid : Prop := Claim7.holds Tryz.pinned (.plain (OpenSpec.ofChange coerceInputsSpec)) coerceInputsCard

/-- THE TIED CARD OF 'supergraphlaw12.CoerceArgs'. -/
def coerceArgsCard : Claim7 := { stood := { row := coerceArgsRow, standIns := [], harness := (true, "9d3a34b44fd0bd01cf073f10108926dd14ac18d9f12992feca98eec694a765c5"), looks := false }, kinds := [], alts := [], laidByText := true, laidKinds := [.data, .data, .data], laidTests := true, laidLooks := .later }
def CoerceArgsCardSaid : Prop := Claim7.holds Tryz.pinned (.plain (OpenSpec.ofChange coerceArgsSpec)) coerceArgsCard

/-- THE TIED CARD OF 'supergraphlaw12.CoerceVars'. -/
def coerceVarsCard : Claim7 := { stood := { row := coerceVarsRow, standIns := [], harness := (true, "9d3a34b44fd0bd01cf073f10108926dd14ac18d9f12992feca98eec694a765c5"), looks := false }, kinds := [], alts := [], laidByText := true, laidKinds := [.data, .data, .data], laidTests := true, laidLooks := .later }
def CoerceVarsCardSaid : Prop := Claim7.holds Tryz.pinned (.plain (OpenSpec.ofChange coerceVarsSpec)) coerceVarsCard

/-- THE TIED CARD OF 'supergraphlaw12.CoerceDefaults'. -/
def coerceDefaultsCard : Claim7 := { stood := { row := coerceDefaultsRow, standIns := [], harness := (true, "9d3a34b44fd0bd01cf073f10108926dd14ac18d9f12992feca98eec694a765c5"), looks := false }, kinds := [], alts := [], laidByText := true, laidKinds := [.data, .data, .data], laidTests := true, laidLooks := .later }
def CoerceDefaultsCardSaid : Prop := Claim7.holds Tryz.pinned (.plain (OpenSpec.ofChange coerceDefaultsSpec)) coerceDefaultsCard

/-- THE SECOND FORM's CARD OF 'supergraphlaw12.CoerceLiterals'. -/
def coerceLiteralsUptoCard : Claim7 := { stood := { row := coerceLiteralsUptoRow, standIns := [], harness := (true, "9d3a34b44fd0bd01cf073f10108926dd14ac18d9f12992feca98eec694a765c5"), looks := false }, kinds := [], alts := [], laidByText := true, laidKinds := [.data, .data, .data], laidTests := true, laidLooks := .later }
def CoerceLiteralsUptoCardSaid : Prop := Claim7.holds Tryz.pinned (.plain (OpenSpec.upto coerceLiteralsSpec)) coerceLiteralsUptoCard

/-- THE SECOND FORM's CARD OF 'supergraphlaw12.CoerceInputs'. -/
def coerceInputsUptoCard : Claim7 := { stood := { row := coerceInputsUptoRow, standIns := [], harness := (true, "9d3a34b44fd0bd01cf073f10108926dd14ac18d9f12992feca98eec694a765c5"), looks := false }, kinds := [], alts := [], laidByText := true, laidKinds := [.data, .data, .data], laidTests := true, laidLooks := .later }
def CoerceInputsUptoCardSaid : Prop := Claim7.holds Tryz.pinned (.plain (OpenSpec.upto coerceInputsSpec)) coerceInputsUptoCard

/-- THE SECOND FORM's CARD OF 'supergraphlaw12.CoerceArgs'. -/
def coerceArgsUptoCard : Claim7 := { stood := { row := coerceArgsUptoRow, standIns := [], harness := (true, "9d3a34b44fd0bd01cf073f10108926dd14ac18d9f12992feca98eec694a765c5"), looks := false }, kinds := [], alts := [], laidByText := true, laidKinds := [.data, .data, .data], laidTests := true, laidLooks := .later }
def CoerceArgsUptoCardSaid : Prop := Claim7.holds Tryz.pinned (.plain (OpenSpec.upto coerceArgsSpec)) coerceArgsUptoCard

/-- THE SECOND FORM's CARD OF 'supergraphlaw12.CoerceVars'. -/
def coerceVarsUptoCard : Claim7 := { stood := { row := coerceVarsUptoRow, standIns := [], harness := (true, "9d3a34b44fd0bd01cf073f10108926dd14ac18d9f12992feca98eec694a765c5"), looks := false }, kinds := [], alts := [], laidByText := true, laidKinds := [.data, .data, .data], laidTests := true, laidLooks := .later }
def CoerceVarsUptoCardSaid : Prop := Claim7.holds Tryz.pinned (.plain (OpenSpec.upto coerceVarsSpec)) coerceVarsUptoCard

/-- THE SECOND FORM's CARD OF 'supergraphlaw12.CoerceDefaults'. -/
def coerceDefaultsUptoCard : Claim7 := { stood := { row := coerceDefaultsUptoRow, standIns := [], harness := (true, "9d3a34b44fd0bd01cf073f10108926dd14ac18d9f12992feca98eec694a765c5"), looks := false }, kinds := [], alts := [], laidByText := true, laidKinds := [.data, .data, .data], laidTests := true, laidLooks := .later }
def CoerceDefaultsUptoCardSaid : Prop := Claim7.holds Tryz.pinned (.plain (OpenSpec.upto coerceDefaultsSpec)) coerceDefaultsUptoCard
end Rows
end Go.Proofs.YtjlggcgmmpopmaaGreatDoor
