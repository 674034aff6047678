/-
  DERIVED. GIVEN WITH THE SEED: THE CARDS: each row of YtimiconoebjfbaaGreatDoorRows.lean that lists a variable, with what it lists TIED to the program's text (the seventh form; the later family's looks); each row that meets fmt, with fmt's text TOLD by the authors' own Lean function (tested against real Go, not proved from fmt's source: count such statements apart). THE CARD IS WHAT COUNTS. Prove the row's statement (the work); the ties are given (YtimiconoebjfbaaGreatDoorTie.lean); close each card by the builder's one call (the guide's Derived/Test/ToyasCard.lean, 'card_holds'). Laid BY PROGRAM, IN A SANDBOX (cutbox-door.mjs). By AI agents, Wed Nov 11 2026. No macro, syntax, notation, axiom, sorry.
-/
import Derived.Test.YtimiconoebjfbaaGreatDoorRows
import GoSem.ClaimSeven
namespace Go.Proofs.YtimiconoebjfbaaGreatDoor
namespace Rows

/-- THE TIED CARD OF 'supergraphlaw16.VarsClean'. -/
def varsCleanCard : Claim7 := { stood := { row := varsCleanRow, standIns := [], harness := (true, "ef3955f78daedcbfb468d3e358933684a561e22154a76df8a0333095930ce912"), looks := false }, kinds := [], alts := [], laidByText := true, laidKinds := [.data, .data, .data], laidTests := true, laidLooks := .later }
def VarsCleanCardSaid : Prop := Claim7.holds Tryz.pinned (.plain (OpenSpec.ofChange varsCleanSpec)) varsCleanCard

/-- THE TIED CARD OF 'supergraphlaw16.VarsAdd'. -/
def varsAddCard : Claim7 := { stood := { row := varsAddRow, standIns := [], harness := (true, "ef3955f78daedcbfb468d3e358933684a561e22154a76df8a0333095930ce912"), looks := false }, kinds := [], alts := [], laidByText := true, laidKinds := [.data, .data, .data], laidTests := true, laidLooks := .later }
def VarsAddCardSaid : Prop := Claim7.holds Tryz.pinned (.plain (OpenSpec.ofChange varsAddSpec)) varsAddCard

/-- THE SECOND FORM's CARD OF 'supergraphlaw16.VarsClean'. -/
def varsCleanUptoCard : Claim7 := { stood := { row := varsCleanUptoRow, standIns := [], harness := (true, "ef3955f78daedcbfb468d3e358933684a561e22154a76df8a0333095930ce912"), looks := false }, kinds := [], alts := [], laidByText := true, laidKinds := [.data, .data, .data], laidTests := true, laidLooks := .later }
def VarsCleanUptoCardSaid : Prop := Claim7.holds Tryz.pinned (.plain (OpenSpec.upto varsCleanSpec)) varsCleanUptoCard

/-- THE SECOND FORM's CARD OF 'supergraphlaw16.VarsAdd'. -/
def varsAddUptoCard : Claim7 := { stood := { row := varsAddUptoRow, standIns := [], harness := (true, "ef3955f78daedcbfb468d3e358933684a561e22154a76df8a0333095930ce912"), looks := false }, kinds := [], alts := [], laidByText := true, laidKinds := [.data, .data, .data], laidTests := true, laidLooks := .later }
def VarsAddUptoCardSaid : Prop := Claim7.holds Tryz.pinned (.plain (OpenSpec.upto varsAddSpec)) varsAddUptoCard
end Rows
end Go.Proofs.YtimiconoebjfbaaGreatDoor
