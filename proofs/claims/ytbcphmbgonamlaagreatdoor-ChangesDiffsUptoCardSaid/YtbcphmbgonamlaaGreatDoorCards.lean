/-
  DERIVED. GIVEN WITH THE SEED: THE CARDS: each row of YtbcphmbgonamlaaGreatDoorRows.lean that lists a variable, with what it lists TIED to the program's text (the seventh form; the later family's looks); each row that meets fmt, with fmt's text TOLD by the authors' own Lean function (tested against real Go, not proved from fmt's source: count such statements apart). THE CARD IS WHAT COUNTS. Prove the row's statement (the work); the ties are given (YtbcphmbgonamlaaGreatDoorTie.lean); close each card by the builder's one call (the guide's Derived/Test/ToyasCard.lean, 'card_holds'). Laid BY PROGRAM, IN A SANDBOX (cutbox-door.mjs). By AI agents, Wed Nov 11 2026. No macro, syntax, notation, axiom, sorry.
-/
import Derived.Test.YtbcphmbgonamlaaGreatDoorRows
import GoSem.ClaimSeven
namespace Go.Proofs.YtbcphmbgonamlaaGreatDoor
namespace Rows

/-- THE TIED CARD OF 'supergraphlaw50.EvolveNothing'. -/
def evolveNothingCard : Claim7 := { stood := { row := evolveNothingRow, standIns := [], harness := (true, "ad3881f1c7c374c09a3c15cccce39ca139cadb5911535b2e230622d465adcffc"), looks := true }, kinds := [], alts := [], laidByText := true, laidKinds := [.data, .data, .data], laidTests := true, laidLooks := .later }
def EvolveNothingCardSaid : Prop := Claim7.holds Tryz.pinned (.plain (OpenSpec.ofChange evolveNothingSpec)) evolveNothingCard

/-- THE TIED CARD OF 'supergraphlaw49.ChangesDiffs'. -/
def changesDiffsCard : Claim7 := { stood := { row := changesDiffsRow, standIns := [], harness := (true, "ad3881f1c7c374c09a3c15cccce39ca139cadb5911535b2e230622d465adcffc"), looks := true }, kinds := [], alts := [], laidByText := true, laidKinds := [.data, .data, .data, .sentinel, .sentinel], laidTests := true, laidLooks := .later }
def ChangesDiffsCardSaid : Prop := Claim7.holds Tryz.pinned (.plain (OpenSpec.ofChange changesDiffsSpec)) changesDiffsCard

/-- THE TIED CARD OF 'supergraphlaw49.ChangesOpposite'. -/
def changesOppositeCard : Claim7 := { stood := { row := changesOppositeRow, standIns := [], harness := (true, "ad3881f1c7c374c09a3c15cccce39ca139cadb5911535b2e230622d465adcffc"), looks := true }, kinds := [], alts := [], laidByText := true, laidKinds := [.data, .data, .data, .sentinel, .sentinel], laidTests := true, laidLooks := .later }
def ChangesOppositeCardSaid : Prop := Claim7.holds Tryz.pinned (.plain (OpenSpec.ofChange changesOppositeSpec)) changesOppositeCard

/-- THE SECOND FORM's CARD OF 'supergraphlaw50.EvolveNothing'. -/
def evolveNothingUptoCard : Claim7 := { stood := { row := evolveNothingUptoRow, standIns := [], harness := (true, "ad3881f1c7c374c09a3c15cccce39ca139cadb5911535b2e230622d465adcffc"), looks := true }, kinds := [], alts := [], laidByText := true, laidKinds := [.data, .data, .data], laidTests := true, laidLooks := .later }
def EvolveNothingUptoCardSaid : Prop := Claim7.holds Tryz.pinned (.plain (OpenSpec.upto evolveNothingSpec)) evolveNothingUptoCard

/-- THE SECOND FORM's CARD OF 'supergraphlaw49.ChangesDiffs'. -/
def changesDiffsUptoCard : Claim7 := { stood := { row := changesDiffsUptoRow, standIns := [], harness := (true, "ad3881f1c7c374c09a3c15cccce39ca139cadb5911535b2e230622d465adcffc"), looks := true }, kinds := [], alts := [], laidByText := true, laidKinds := [.data, .data, .data, .sentinel, .sentinel], laidTests := true, laidLooks := .later }
def ChangesDiffsUptoCardSaid : Prop := Claim7.holds Tryz.pinned (.plain (OpenSpec.upto changesDiffsSpec)) changesDiffsUptoCard

/-- THE SECOND FORM's CARD OF 'supergraphlaw49.ChangesOpposite'. -/
def changesOppositeUptoCard : Claim7 := { stood := { row := changesOppositeUptoRow, standIns := [], harness := (true, "ad3881f1c7c374c09a3c15cccce39ca139cadb5911535b2e230622d465adcffc"), looks := true }, kinds := [], alts := [], laidByText := true, laidKinds := [.data, .data, .data, .sentinel, .sentinel], laidTests := true, laidLooks := .later }
def ChangesOppositeUptoCardSaid : Prop := Claim7.holds Tryz.pinned (.plain (OpenSpec.upto changesOppositeSpec)) changesOppositeUptoCard
end Rows
end Go.Proofs.YtbcphmbgonamlaaGreatDoor
