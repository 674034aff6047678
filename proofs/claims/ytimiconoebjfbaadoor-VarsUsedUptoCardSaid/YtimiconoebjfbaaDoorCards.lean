/-
  DERIVED. GIVEN WITH THE SEED: THE CARDS: each row of YtimiconoebjfbaaDoorRows.lean that lists a variable, with what it lists TIED to the program's text (the seventh form; the later family's looks); each row that meets fmt, with fmt's text TOLD by the authors' own Lean function (tested against real Go, not proved from fmt's source: count such statements apart). THE CARD IS WHAT COUNTS. Prove the row's statement (the work); the ties are given (YtimiconoebjfbaaDoorTie.lean); close each card by the builder's one call (the guide's Derived/Test/ToyasCard.lean, 'card_holds'). Laid BY PROGRAM, IN A SANDBOX (cutbox-door.mjs). By AI agents, Wed Nov 11 2026. No macro, syntax, notation, axiom, sorry.
-/
import Derived.Test.YtimiconoebjfbaaDoorRows
import GoSem.ClaimSeven
namespace Go.Proofs.YtimiconoebjfbaaDoor
namespace Rows

/-- THE TIED CARD OF 'supergraphlaw16.VarsUsed'. -/
def varsUsedCard : Claim7 := { stood := { row := varsUsedRow, standIns := [], harness := (true, "bb256b543edc1c8b412973038073c2b081811f3a5403fa5234e0d3da83868af0"), looks := false }, kinds := [], alts := [], laidByText := true, laidKinds := [.data, .data, .data], laidTests := true, laidLooks := .later }
def VarsUsedCardSaid : Prop := Claim7.holds Tryd.pinned (.plain (OpenSpec.ofChange varsUsedSpec)) varsUsedCard

/-- THE TIED CARD OF 'supergraphlaw16.VarsFit'. -/
def varsFitCard : Claim7 := { stood := { row := varsFitRow, standIns := [], harness := (true, "bb256b543edc1c8b412973038073c2b081811f3a5403fa5234e0d3da83868af0"), looks := false }, kinds := [], alts := [], laidByText := true, laidKinds := [.data, .data, .data], laidTests := true, laidLooks := .later }
def VarsFitCardSaid : Prop := Claim7.holds Tryd.pinned (.plain (OpenSpec.ofChange varsFitSpec)) varsFitCard

/-- THE SECOND FORM's CARD OF 'supergraphlaw16.VarsUsed'. -/
def varsUsedUptoCard : Claim7 := { stood := { row := varsUsedUptoRow, standIns := [], harness := (true, "bb256b543edc1c8b412973038073c2b081811f3a5403fa5234e0d3da83868af0"), looks := false }, kinds := [], alts := [], laidByText := true, laidKinds := [.data, .data, .data], laidTests := true, laidLooks := .later }
def VarsUsedUptoCardSaid : Prop := Claim7.holds Tryd.pinned (.plain (OpenSpec.upto varsUsedSpec)) varsUsedUptoCard

/-- THE SECOND FORM's CARD OF 'supergraphlaw16.VarsFit'. -/
def varsFitUptoCard : Claim7 := { stood := { row := varsFitUptoRow, standIns := [], harness := (true, "bb256b543edc1c8b412973038073c2b081811f3a5403fa5234e0d3da83868af0"), looks := false }, kinds := [], alts := [], laidByText := true, laidKinds := [.data, .data, .data], laidTests := true, laidLooks := .later }
def VarsFitUptoCardSaid : Prop := Claim7.holds Tryd.pinned (.plain (OpenSpec.upto varsFitSpec)) varsFitUptoCard
end Rows
end Go.Proofs.YtimiconoebjfbaaDoor
