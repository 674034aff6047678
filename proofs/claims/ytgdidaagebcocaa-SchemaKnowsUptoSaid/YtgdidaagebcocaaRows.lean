/-
  NARROWER THAN 'FOR EVERY INPUT', by the rows' own cells (each row's printed sentence says how): SchemaChecks: loops · SchemaAdds: loops · SchemaKinds: loops · SchemaKnows: loops · SchemaFinds: loops.
  DERIVED. THE GIVEN ROWS OF THIS SEAT. 5 by the template 'for every input the law returns true; each argument reads behind the call as it read before'; 0 by the template 'total and deterministic' (their statements: YtgdidaagebcocaaTotals.lean).
  GIVEN WITH THE SEED: the statements are not yours to turn. If you find one false, say at which input.
  Laid BY PROGRAM, IN A SANDBOX (cutbox-rows.mjs): the forced cells as the released guide's own fill.sh prints them over the translation 4e8fc80dbdded0d1… (all of the seat's roots in one cut). By AI agents, Wed Nov 11 2026. No macro, syntax, notation, axiom, sorry.
-/
import Derived.Test.YtgdidaagebcocaaChecked
import GoSem.Claim
import GoSem.ClaimJoined
import GoSem.ClaimMapViews
import Derived.JoinedTies
import Derived.KernelRfl
namespace Go.Proofs.Ytgdidaagebcocaa
/- THE CELL 'sum', in the pinned program and in every row, IS THE sha256 OF THE DUMP (.gsa) THAT YtgdidaagebcocaaProg.lean LOADS. Nothing in Lean hashes anything: it is a label: what it is worth is what the hold of that sum in a sandbox is worth. -/
noncomputable def Try.pinned : Pinned := { name := "ytgdidaagebcocaa", sum := "4e8fc80dbdded0d151f95714d6bc6870fa87f33de557bb8f3932f7606ccddecf", checked := Try.checked }
namespace Rows
def none {H : Type} : Left H := { results := [], args := [] }

/-- 'supergraphlaw10.SchemaChecks': WHATEVER THE INPUT: true; the input reads as it did. -/
def schemaChecksSpec : ChangeSpec := { name := "schemaChecks", fn := fun _ => fun
  | [d] => { results := [.lit (.bool true)], args := [d] }
  | _ => none }
def schemaChecksRow : OpenClaim := { program := "ytgdidaagebcocaa", sum := "4e8fc80dbdded0d151f95714d6bc6870fa87f33de557bb8f3932f7606ccddecf", func := "supergraph/supergraphlaw10.SchemaChecks", spec := "schemaChecks", unfollowed := true, recurses := true, loops := true, apart := false }
def SchemaChecksSaid : Prop := schemaChecksRow.holds Try.pinned (OpenSpec.ofChange schemaChecksSpec)

/-- ITS FALSE NEIGHBOUR: 'it returns false'. Refute it at one input. -/
def schemaChecksWrong : ChangeSpec := { name := "schemaChecks", fn := fun _ => fun
  | [d] => { results := [.lit (.bool false)], args := [d] }
  | _ => none }
def SchemaChecksWrongFalsely : Prop := schemaChecksRow.holds Try.pinned (OpenSpec.ofChange schemaChecksWrong)

/-- 'supergraphlaw10.SchemaAdds': WHATEVER THE INPUT: true; the input reads as it did. -/
def schemaAddsSpec : ChangeSpec := { name := "schemaAdds", fn := fun _ => fun
  | [d1, d2] => { results := [.lit (.bool true)], args := [d1, d2] }
  | _ => none }
def schemaAddsRow : OpenClaim := { program := "ytgdidaagebcocaa", sum := "4e8fc80dbdded0d151f95714d6bc6870fa87f33de557bb8f3932f7606ccddecf", func := "supergraph/supergraphlaw10.SchemaAdds", spec := "schemaAdds", unfollowed := true, recurses := true, loops := true, apart := false }
def SchemaAddsSaid : Prop := schemaAddsRow.holds Try.pinned (OpenSpec.ofChange schemaAddsSpec)

/-- ITS FALSE NEIGHBOUR: 'it returns false'. Refute it at one input. -/
def schemaAddsWrong : ChangeSpec := { name := "schemaAdds", fn := fun _ => fun
  | [d1, d2] => { results := [.lit (.bool false)], args := [d1, d2] }
  | _ => none }
def SchemaAddsWrongFalsely : Prop := schemaAddsRow.holds Try.pinned (OpenSpec.ofChange schemaAddsWrong)

/-- 'supergraphlaw10.SchemaKinds': WHATEVER THE INPUT: true; the input reads as it did. -/
def schemaKindsSpec : ChangeSpec := { name := "schemaKinds", fn := fun _ => fun
  | [d1, d2, d3] => { results := [.lit (.bool true)], args := [d1, d2, d3] }
  | _ => none }
def schemaKindsRow : OpenClaim := { program := "ytgdidaagebcocaa", sum := "4e8fc80dbdded0d151f95714d6bc6870fa87f33de557bb8f3932f7606ccddecf", func := "supergraph/supergraphlaw10.SchemaKinds", spec := "schemaKinds", unfollowed := true, recurses := true, loops := true, apart := false }
def SchemaKindsSaid : Prop := schemaKindsRow.holds Try.pinned (OpenSpec.ofChange schemaKindsSpec)

/-- ITS FALSE NEIGHBOUR: 'it returns false'. Refute it at one input. -/
def schemaKindsWrong : ChangeSpec := { name := "schemaKinds", fn := fun _ => fun
  | [d1, d2, d3] => { results := [.lit (.bool false)], args := [d1, d2, d3] }
  | _ => none }
def SchemaKindsWrongFalsely : Prop := schemaKindsRow.holds Try.pinned (OpenSpec.ofChange schemaKindsWrong)

/-- 'supergraphlaw10.SchemaKnows': WHATEVER THE INPUT: true; the input reads as it did. -/
def schemaKnowsSpec : ChangeSpec := { name := "schemaKnows", fn := fun _ => fun
  | [d] => { results := [.lit (.bool true)], args := [d] }
  | _ => none }
def schemaKnowsRow : OpenClaim := { program := "ytgdidaagebcocaa", sum := "4e8fc80dbdded0d151f95714d6bc6870fa87f33de557bb8f3932f7606ccddecf", func := "supergraph/supergraphlaw10.SchemaKnows", spec := "schemaKnows", unfollowed := true, recurses := true, loops := true, apart := false }
def SchemaKnowsSaid : Prop := schemaKnowsRow.holds Try.pinned (OpenSpec.ofChange schemaKnowsSpec)

/-- ITS FALSE NEIGHBOUR: 'it returns false'. Refute it at one input. -/
def schemaKnowsWrong : ChangeSpec := { name := "schemaKnows", fn := fun _ => fun
  | [d] => { results := [.lit (.bool false)], args := [d] }
  | _ => none }
def SchemaKnowsWrongFalsely : Prop := schemaKnowsRow.holds Try.pinned (OpenSpec.ofChange schemaKnowsWrong)

/-- 'supergraphlaw10.SchemaFinds': WHATEVER THE INPUT: true; the input reads as it did. -/
def schemaFindsSpec : ChangeSpec := { name := "schemaFinds", fn := fun _ => fun
  | [d1, d2, d3] => { results := [.lit (.bool true)], args := [d1, d2, d3] }
  | _ => none }
def schemaFindsRow : OpenClaim := { program := "ytgdidaagebcocaa", sum := "4e8fc80dbdded0d151f95714d6bc6870fa87f33de557bb8f3932f7606ccddecf", func := "supergraph/supergraphlaw10.SchemaFinds", spec := "schemaFinds", unfollowed := true, recurses := true, loops := true, apart := false }
def SchemaFindsSaid : Prop := schemaFindsRow.holds Try.pinned (OpenSpec.ofChange schemaFindsSpec)

/-- ITS FALSE NEIGHBOUR: 'it returns false'. Refute it at one input. -/
def schemaFindsWrong : ChangeSpec := { name := "schemaFinds", fn := fun _ => fun
  | [d1, d2, d3] => { results := [.lit (.bool false)], args := [d1, d2, d3] }
  | _ => none }
def SchemaFindsWrongFalsely : Prop := schemaFindsRow.holds Try.pinned (OpenSpec.ofChange schemaFindsWrong)

/- THE SECOND FORM. 'bulk': how many values and letters a reading holds, each counted each time it is reached (what is shared counts as often as it is met; a slice's spare places count too). A statement '..UptoSaid' is the law's where the arguments, and the package variables that the reading takes, are together of bulk at most 1048576: NARROWER than '..Said'. Prove '..Said' where nothing that the law and all that it calls make is longer than what came in: it says more and counts as full. Else prove '..UptoSaid'. A law counts once. -/
mutual
def uptoBulk {H : Type} : DataW H → Nat
  | .lit (.string bytes) => bytes.length + 1
  | .lit _ => 1
  | .nil => 1
  | .ptr d => uptoBulk d + 1
  | .slice elems spare => uptoBulkAll elems + uptoBulkAll spare + 1
  | .agg parts => uptoBulkAll parts + 1
  | .iface _ d => uptoBulk d + 1
  | .map entries => uptoBulkEntries entries + 1
  | .held _ => 1
def uptoBulkAll {H : Type} : List (DataW H) → Nat
  | [] => 0
  | d :: r => uptoBulk d + uptoBulkAll r
def uptoBulkEntries {H : Type} : List (Lit × DataW H) → Nat
  | [] => 0
  | x :: r => uptoBulkEntry x + uptoBulkEntries r
def uptoBulkEntry {H : Type} : Lit × DataW H → Nat
  | (.string bytes, d) => bytes.length + uptoBulk d + 1
  | (_, d) => uptoBulk d + 1
 end
def uptoSmall : (H : Type) → List (DataW H) → Bool := fun _ ds => decide (uptoBulkAll ds ≤ 1048576)
def OpenSpec.upto (s : _root_.Go.ChangeSpec) : _root_.Go.OpenSpec := { _root_.Go.OpenSpec.ofChange s with cond := some uptoSmall }

/-- 'supergraphlaw10.SchemaChecks', WHERE WHAT IT READS IS OF BULK AT MOST 1048576: true; the input reads as it did. -/
def schemaChecksUptoRow : OpenClaim := { program := "ytgdidaagebcocaa", sum := "4e8fc80dbdded0d151f95714d6bc6870fa87f33de557bb8f3932f7606ccddecf", func := "supergraph/supergraphlaw10.SchemaChecks", spec := "schemaChecks", unfollowed := true, recurses := true, loops := true, apart := false, narrowed := true }
def SchemaChecksUptoSaid : Prop := schemaChecksUptoRow.holds Try.pinned (OpenSpec.upto schemaChecksSpec)

/-- 'supergraphlaw10.SchemaAdds', WHERE WHAT IT READS IS OF BULK AT MOST 1048576: true; the input reads as it did. -/
def schemaAddsUptoRow : OpenClaim := { program := "ytgdidaagebcocaa", sum := "4e8fc80dbdded0d151f95714d6bc6870fa87f33de557bb8f3932f7606ccddecf", func := "supergraph/supergraphlaw10.SchemaAdds", spec := "schemaAdds", unfollowed := true, recurses := true, loops := true, apart := false, narrowed := true }
def SchemaAddsUptoSaid : Prop := schemaAddsUptoRow.holds Try.pinned (OpenSpec.upto schemaAddsSpec)

/-- 'supergraphlaw10.SchemaKinds', WHERE WHAT IT READS IS OF BULK AT MOST 1048576: true; the input reads as it did. -/
def schemaKindsUptoRow : OpenClaim := { program := "ytgdidaagebcocaa", sum := "4e8fc80dbdded0d151f95714d6bc6870fa87f33de557bb8f3932f7606ccddecf", func := "supergraph/supergraphlaw10.SchemaKinds", spec := "schemaKinds", unfollowed := true, recurses := true, loops := true, apart := false, narrowed := true }
def SchemaKindsUptoSaid : Prop := schemaKindsUptoRow.holds Try.pinned (OpenSpec.upto schemaKindsSpec)

/-- 'supergraphlaw10.SchemaKnows', WHERE WHAT IT READS IS OF BULK AT MOST 1048576: true; the input reads as it did. -/
def schemaKnowsUptoRow : OpenClaim := { program := "ytgdidaagebcocaa", sum := "4e8fc80dbdded0d151f95714d6bc6870fa87f33de557bb8f3932f7606ccddecf", func := "supergraph/supergraphlaw10.SchemaKnows", spec := "schemaKnows", unfollowed := true, recurses := true, loops := true, apart := false, narrowed := true }
def SchemaKnowsUptoSaid : Prop := schemaKnowsUptoRow.holds Try.pinned (OpenSpec.upto schemaKnowsSpec)

/-- 'supergraphlaw10.SchemaFinds', WHERE WHAT IT READS IS OF BULK AT MOST 1048576: true; the input reads as it did. -/
def schemaFindsUptoRow : OpenClaim := { program := "ytgdidaagebcocaa", sum := "4e8fc80dbdded0d151f95714d6bc6870fa87f33de557bb8f3932f7606ccddecf", func := "supergraph/supergraphlaw10.SchemaFinds", spec := "schemaFinds", unfollowed := true, recurses := true, loops := true, apart := false, narrowed := true }
def SchemaFindsUptoSaid : Prop := schemaFindsUptoRow.holds Try.pinned (OpenSpec.upto schemaFindsSpec)

end Rows
end Go.Proofs.Ytgdidaagebcocaa
