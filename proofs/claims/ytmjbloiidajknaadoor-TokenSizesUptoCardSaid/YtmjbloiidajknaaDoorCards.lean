/-
  DERIVED. GIVEN WITH THE SEED: THE CARDS: each row of YtmjbloiidajknaaDoorRows.lean that lists a variable, with what it lists TIED to the program's text (the seventh form; the later family's looks); each row that meets fmt, with fmt's text TOLD by the authors' own Lean function (tested against real Go, not proved from fmt's source: count such statements apart). THE CARD IS WHAT COUNTS. Prove the row's statement (the work); the ties are given (YtmjbloiidajknaaDoorTie.lean); close each card by the builder's one call (the guide's Derived/Test/ToyasCard.lean, 'card_holds'). Laid BY PROGRAM, IN A SANDBOX (cutbox-door.mjs). By AI agents, Wed Nov 11 2026. No macro, syntax, notation, axiom, sorry.
-/
import Derived.Test.YtmjbloiidajknaaDoorRows
import GoSem.ClaimSeven
namespace Go.Proofs.YtmjbloiidajknaaDoor
namespace Rows

/-- THE TIED CARD OF 'supergraphlaw04.TokenScans'. -/
def tokenScansCard : Claim7 := { stood := { row := tokenScansRow, standIns := [], harness := (true, "47971d0ac16deee7718732ca41c1fa0e54db5b0aba0e2056f323907b3ee6f293"), looks := true }, kinds := [], alts := [], laidByText := true, laidKinds := [.data, .data, .data, .sentinel, .sentinel], laidTests := true, laidLooks := .later }
def TokenScansCardSaid : Prop := Claim7.holds Tryd.pinned (.plain (OpenSpec.ofChange tokenScansSpec)) tokenScansCard

/-- THE TIED CARD OF 'supergraphlaw04.TokenSizes'. -/
def tokenSizesCard : Claim7 := { stood := { row := tokenSizesRow, standIns := [], harness := (true, "47971d0ac16deee7718732ca41c1fa0e54db5b0aba0e2056f323907b3ee6f293"), looks := true }, kinds := [], alts := [], laidByText := true, laidKinds := [.data, .data, .data, .sentinel, .sentinel], laidTests := true, laidLooks := .later }
def TokenSizesCardSaid : Prop := Claim7.holds Tryd.pinned (.plain (OpenSpec.ofChange tokenSizesSpec)) tokenSizesCard

/-- THE TIED CARD OF 'supergraphlaw04.TokenPrints'. -/
def tokenPrintsCard : Claim7 := { stood := { row := tokenPrintsRow, standIns := [], harness := (true, "47971d0ac16deee7718732ca41c1fa0e54db5b0aba0e2056f323907b3ee6f293"), looks := true }, kinds := [], alts := [], laidByText := true, laidKinds := [.data, .data, .data, .sentinel, .sentinel], laidTests := true, laidLooks := .later }
def TokenPrintsCardSaid : Prop := Claim7.holds Tryd.pinned (.plain (OpenSpec.ofChange tokenPrintsSpec)) tokenPrintsCard

/-- THE TIED CARD OF 'supergraphlaw04.TokenReturns'. -/
def tokenReturnsCard : Claim7 := { stood := { row := tokenReturnsRow, standIns := [], harness := (true, "47971d0ac16deee7718732ca41c1fa0e54db5b0aba0e2056f323907b3ee6f293"), looks := true }, kinds := [], alts := [], laidByText := true, laidKinds := [.data, .data, .data, .sentinel, .sentinel], laidTests := true, laidLooks := .later }
def TokenReturnsCardSaid : Prop := Claim7.holds Tryd.pinned (.plain (OpenSpec.ofChange tokenReturnsSpec)) tokenReturnsCard

/-- THE TIED CARD OF 'supergraphlaw04.TokenPlaces'. -/
def tokenPlacesCard : Claim7 := { stood := { row := tokenPlacesRow, standIns := [], harness := (true, "47971d0ac16deee7718732ca41c1fa0e54db5b0aba0e2056f323907b3ee6f293"), looks := true }, kinds := [], alts := [], laidByText := true, laidKinds := [.data, .data, .data, .sentinel, .sentinel], laidTests := true, laidLooks := .later }
def TokenPlacesCardSaid : Prop := Claim7.holds Tryd.pinned (.plain (OpenSpec.ofChange tokenPlacesSpec)) tokenPlacesCard

/-- THE TIED CARD OF 'supergraphlaw04.TokenSeparates'. -/
def tokenSeparatesCard : Claim7 := { stood := { row := tokenSeparatesRow, standIns := [], harness := (true, "47971d0ac16deee7718732ca41c1fa0e54db5b0aba0e2056f323907b3ee6f293"), looks := true }, kinds := [], alts := [], laidByText := true, laidKinds := [.data, .data, .data, .sentinel, .sentinel], laidTests := true, laidLooks := .later }
def TokenSeparatesCardSaid : Prop := Claim7.holds Tryd.pinned (.plain (OpenSpec.ofChange tokenSeparatesSpec)) tokenSeparatesCard

/-- THE TIED CARD OF 'supergraphlaw05.TyperefOrder'. -/
def typerefOrderCard : Claim7 := { stood := { row := typerefOrderRow, standIns := [], harness := (true, "47971d0ac16deee7718732ca41c1fa0e54db5b0aba0e2056f323907b3ee6f293"), looks := true }, kinds := [], alts := [], laidByText := true, laidKinds := [.data, .data, .data, .sentinel, .sentinel], laidTests := true, laidLooks := .later }
def TyperefOrderCardSaid : Prop := Claim7.holds Tryd.pinned (.plain (OpenSpec.ofChange typerefOrderSpec)) typerefOrderCard

/-- THE TIED CARD OF 'supergraphlaw05.TyperefRound'. -/
def typerefRoundCard : Claim7 := { stood := { row := typerefRoundRow, standIns := [], harness := (true, "47971d0ac16deee7718732ca41c1fa0e54db5b0aba0e2056f323907b3ee6f293"), looks := true }, kinds := [], alts := [], laidByText := true, laidKinds := [.data, .data, .data, .sentinel, .sentinel], laidTests := true, laidLooks := .later }
def TyperefRoundCardSaid : Prop := Claim7.holds Tryd.pinned (.plain (OpenSpec.ofChange typerefRoundSpec)) typerefRoundCard

/-- THE SECOND FORM's CARD OF 'supergraphlaw04.TokenScans'. -/
def tokenScansUptoCard : Claim7 := { stood := { row := tokenScansUptoRow, standIns := [], harness := (true, "47971d0ac16deee7718732ca41c1fa0e54db5b0aba0e2056f323907b3ee6f293"), looks := true }, kinds := [], alts := [], laidByText := true, laidKinds := [.data, .data, .data, .sentinel, .sentinel], laidTests := true, laidLooks := .later }
def TokenScansUptoCardSaid : Prop := Claim7.holds Tryd.pinned (.plain (OpenSpec.upto tokenScansSpec)) tokenScansUptoCard

/-- THE SECOND FORM's CARD OF 'supergraphlaw04.TokenSizes'. -/
def tokenSizesUptoCard : Claim7 := { stood := { row := tokenSizesUptoRow, standIns := [], harness := (true, "47971d0ac16deee7718732ca41c1fa0e54db5b0aba0e2056f323907b3ee6f293"), looks := true }, kinds := [], alts := [], laidByText := true, laidKinds := [.data, .data, .data, .sentinel, .sentinel], laidTests := true, laidLooks := .later }
def TokenSizesUptoCardSaid : Prop := Claim7.holds Tryd.pinned (.plain (OpenSpec.upto tokenSizesSpec)) tokenSizesUptoCard

/-- THE SECOND FORM's CARD OF 'supergraphlaw04.TokenPrints'. -/
def tokenPrintsUptoCard : Claim7 := { stood := { row := tokenPrintsUptoRow, standIns := [], harness := (true, "47971d0ac16deee7718732ca41c1fa0e54db5b0aba0e2056f323907b3ee6f293"), looks := true }, kinds := [], alts := [], laidByText := true, laidKinds := [.data, .data, .data, .sentinel, .sentinel], laidTests := true, laidLooks := .later }
def TokenPrintsUptoCardSaid : Prop := Claim7.holds Tryd.pinned (.plain (OpenSpec.upto tokenPrintsSpec)) tokenPrintsUptoCard

/-- THE SECOND FORM's CARD OF 'supergraphlaw04.TokenReturns'. -/
def tokenReturnsUptoCard : Claim7 := { stood := { row := tokenReturnsUptoRow, standIns := [], harness := (true, "47971d0ac16deee7718732ca41c1fa0e54db5b0aba0e2056f323907b3ee6f293"), looks := true }, kinds := [], alts := [], laidByText := true, laidKinds := [.data, .data, .data, .sentinel, .sentinel], laidTests := true, laidLooks := .later }
def TokenReturnsUptoCardSaid : Prop := Claim7.holds Tryd.pinned (.plain (OpenSpec.upto tokenReturnsSpec)) tokenReturnsUptoCard

/-- THE SECOND FORM's CARD OF 'supergraphlaw04.TokenPlaces'. -/
def tokenPlacesUptoCard : Claim7 := { stood := { row := tokenPlacesUptoRow, standIns := [], harness := (true, "47971d0ac16deee7718732ca41c1fa0e54db5b0aba0e2056f323907b3ee6f293"), looks := true }, kinds := [], alts := [], laidByText := true, laidKinds := [.data, .data, .data, .sentinel, .sentinel], laidTests := true, laidLooks := .later }
def TokenPlacesUptoCardSaid : Prop := Claim7.holds Tryd.pinned (.plain (OpenSpec.upto tokenPlacesSpec)) tokenPlacesUptoCard

/-- THE SECOND FORM's CARD OF 'supergraphlaw04.TokenSeparates'. -/
def tokenSeparatesUptoCard : Claim7 := { stood := { row := tokenSeparatesUptoRow, standIns := [], harness := (true, "47971d0ac16deee7718732ca41c1fa0e54db5b0aba0e2056f323907b3ee6f293"), looks := true }, kinds := [], alts := [], laidByText := true, laidKinds := [.data, .data, .data, .sentinel, .sentinel], laidTests := true, laidLooks := .later }
def TokenSeparatesUptoCardSaid : Prop := Claim7.holds Tryd.pinned (.plain (OpenSpec.upto tokenSeparatesSpec)) tokenSeparatesUptoCard

/-- THE SECOND FORM's CARD OF 'supergraphlaw05.TyperefOrder'. -/
def typerefOrderUptoCard : Claim7 := { stood := { row := typerefOrderUptoRow, standIns := [], harness := (true, "47971d0ac16deee7718732ca41c1fa0e54db5b0aba0e2056f323907b3ee6f293"), looks := true }, kinds := [], alts := [], laidByText := true, laidKinds := [.data, .data, .data, .sentinel, .sentinel], laidTests := true, laidLooks := .later }
def TyperefOrderUptoCardSaid : Prop := Claim7.holds Tryd.pinned (.plain (OpenSpec.upto typerefOrderSpec)) typerefOrderUptoCard

/-- THE SECOND FORM's CARD OF 'supergraphlaw05.TyperefRound'. -/
def typerefRoundUptoCard : Claim7 := { stood := { row := typerefRoundUptoRow, standIns := [], harness := (true, "47971d0ac16deee7718732ca41c1fa0e54db5b0aba0e2056f323907b3ee6f293"), looks := true }, kinds := [], alts := [], laidByText := true, laidKinds := [.data, .data, .data, .sentinel, .sentinel], laidTests := true, laidLooks := .later }
def TyperefRoundUptoCardSaid : Prop := Claim7.holds Tryd.pinned (.plain (OpenSpec.upto typerefRoundSpec)) typerefRoundUptoCard
end Rows
end Go.Proofs.YtmjbloiidajknaaDoor
