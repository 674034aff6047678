/-
  DERIVED. GIVEN WITH THE SEED: THE CARDS: each row of YtfmbgiahleepfaeGreatDoorRows.lean that lists a variable, with what it lists TIED to the program's text (the seventh form; the later family's looks); each row that meets fmt, with fmt's text TOLD by the authors' own Lean function (tested against real Go, not proved from fmt's source: count such statements apart). THE CARD IS WHAT COUNTS. Prove the row's statement (the work); the ties are given (YtfmbgiahleepfaeGreatDoorTie.lean); close each card by the builder's one call (the guide's Derived/Test/ToyasCard.lean, 'card_holds'). Laid BY PROGRAM, IN A SANDBOX (cutbox-door.mjs). By AI agents, Wed Nov 11 2026. No macro, syntax, notation, axiom, sorry.
-/
import Derived.Test.YtfmbgiahleepfaeGreatDoorRows
import GoSem.ClaimSeven
namespace Go.Proofs.YtfmbgiahleepfaeGreatDoor
namespace Rows

/-- THE TIED CARD OF 'supergraphlaw50.EvolveSafeExact'. -/
def evolveSafeExactCard : Claim7 := { stood := { row := evolveSafeExactRow, standIns := [], harness := (true, "402183d1dfab45eb2db2f005efb62daec98bde6f81879ffcc00b2b52fd49ed24"), looks := false }, kinds := [], alts := [], laidByText := true, laidKinds := [.data, .data, .data], laidTests := true, laidLooks := .later }
def EvolveSafeExactCardSaid : Prop := Claim7.holds Tryz.pinned (.plain (OpenSpec.ofChange evolveSafeExactSpec)) evolveSafeExactCard

/-- THE SECOND FORM's CARD OF 'supergraphlaw50.EvolveSafeExact'. -/
def evolveSafeExactUptoCard : Claim7 := { stood := { row := evolveSafeExactUptoRow, standIns := [], harness := (true, "402183d1dfab45eb2db2f005efb62daec98bde6f81879ffcc00b2b52fd49ed24"), looks := false }, kinds := [], alts := [], laidByText := true, laidKinds := [.data, .data, .data], laidTests := true, laidLooks := .later }
def EvolveSafeExactUptoCardSaid : Prop := Claim7.holds Tryz.pinned (.plain (OpenSpec.upto evolveSafeExactSpec)) evolveSafeExactUptoCard
end Rows
end Go.Proofs.YtfmbgiahleepfaeGreatDoor
