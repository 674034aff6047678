/-
  NARROWER THAN 'FOR EVERY INPUT', by the rows' own cells (each row's printed sentence says how): UsageOf: loops · UsageFields: loops.
  DERIVED. THE GIVEN ROWS OF THIS SEAT. 2 by the template 'for every input the law returns true; each argument reads behind the call as it read before'; 0 by the template 'total and deterministic' (their statements: YtnbbdamkdkhjkaaGreatTotals.lean).
  GIVEN WITH THE SEED: the statements are not yours to turn. If you find one false, say at which input.
  Laid BY PROGRAM, IN A SANDBOX (cutbox-rows.mjs): the forced cells as the released guide's own fill.sh prints them over the translation 83b8da5cffa57013… (all of the seat's roots in one cut). By AI agents, Wed Nov 11 2026. No macro, syntax, notation, axiom, sorry.
-/
import Derived.Test.YtnbbdamkdkhjkaaGreatChecked
import GoSem.Claim
import GoSem.ClaimJoined
import GoSem.ClaimMapViews
import Derived.JoinedTies
import Derived.KernelRfl
namespace Go.Proofs.YtnbbdamkdkhjkaaGreat
/- THE CELL 'sum', in the pinned program and in every row, IS THE sha256 OF THE DUMP (.gsa) THAT YtnbbdamkdkhjkaaGreatProg.lean LOADS. Nothing in Lean hashes anything: it is a label: what it is worth is what the hold of that sum in a sandbox is worth. -/
noncomputable def Tryz.pinned : Pinned := { name := "ytnbbdamkdkhjkaagreat", sum := "83b8da5cffa5701323b892c16901c203a41b7c4a35178804031cfb4419018f82", checked := Tryz.checked }
namespace Rows
def none {H : Type} : Left H := { results := [], args := [] }

/-- 'supergraphlaw48.UsageOf': WHATEVER THE INPUT: true; the input reads as it did. -/
def usageOfSpec : ChangeSpec := { name := "usageOf", fn := fun _ => fun
  | [d1, d2, d3] => { results := [.lit (.bool true)], args := [d1, d2, d3] }
  | _ => none }
def usageOfRow : OpenClaim := { program := "ytnbbdamkdkhjkaagreat", sum := "83b8da5cffa5701323b892c16901c203a41b7c4a35178804031cfb4419018f82", func := "supergraph/supergraphlaw48.UsageOf", spec := "usageOf", unfollowed := true, recurses := true, loops := true, apart := false }
def UsageOfSaid : Prop := usageOfRow.holds Tryz.pinned (OpenSpec.ofChange usageOfSpec)

/-- ITS FALSE NEIGHBOUR: 'it returns false'. Refute it at one input. -/
def usageOfWrong : ChangeSpec := { name := "usageOf", fn := fun _ => fun
  | [d1, d2, d3] => { results := [.lit (.bool false)], args := [d1, d2, d3] }
  | _ => none }
def UsageOfWrongFalsely : Prop := usageOfRow.holds Tryz.pinned (OpenSpec.ofChange usageOfWrong)

/-- 'supergraphlaw48.UsageFields': WHATEVER THE INPUT: true; the input reads as it did. -/
def usageFieldsSpec : ChangeSpec := { name := "usageFields", fn := fun _ => fun
  | [d1, d2] => { results := [.lit (.bool true)], args := [d1, d2] }
  | _ => none }
def usageFieldsRow : OpenClaim := { program := "ytnbbdamkdkhjkaagreat", sum := "83b8da5cffa5701323b892c16901c203a41b7c4a35178804031cfb4419018f82", func := "supergraph/supergraphlaw48.UsageFields", spec := "usageFields", unfollowed := true, recurses := true, loops := true, apart := false }
def UsageFieldsSaid : Prop := usageFieldsRow.holds Tryz.pinned (OpenSpec.ofChange usageFieldsSpec)

/-- ITS FALSE NEIGHBOUR: 'it returns false'. Refute it at one input. -/
def usageFieldsWrong : ChangeSpec := { name := "usageFields", fn := fun _ => fun
  | [d1, d2] => { results := [.lit (.bool false)], args := [d1, d2] }
  | _ => none }
def UsageFieldsWrongFalsely : Prop := usageFieldsRow.holds Tryz.pinned (OpenSpec.ofChange usageFieldsWrong)

/- THE SECOND FORM. 'bulk': how many values and letters a reading holds, each counted each time it is reached (what is shared counts as often as it is met; a slice's spare places count too). A statement '..UptoSaid' is the law's where the arguments, and the package variables that the reading takes, are together of bulk at most 1048576: NARROWER than '..Said'. Prove '..Said' where nothing that the law and all that it calls make is longer than what came in: it says more and counts as full. Else prove '..UptoSaid'. A law counts once. -/
mutual
def uptoBulk {H : Type} : DataW H → Nat
  | .lit (.string bytes) => bytes.length + 1
  | .lit _ => 1
  | .nil => 1
  | .ptr d => uptoBulk d + 1
  | .slice elems spare => uptoBulkAll elems + uptoBulkAll spare + 1
  | .agg parts => uptoBulkAll parts + 1
  | .iface _ d => uptoBulk d + 1
  | .map entries => uptoBulkEntries entries + 1
  | .held _ => 1
def uptoBulkAll {H : Type} : List (DataW H) → Nat
  | [] => 0
  | d :: r => uptoBulk d + uptoBulkAll r
def uptoBulkEntries {H : Type} : List (Lit × DataW H) → Nat
  | [] => 0
  | x :: r => uptoBulkEntry x + uptoBulkEntries r
def uptoBulkEntry {H : Type} : Lit × DataW H → Nat
  | (.string bytes, d) => bytes.length + uptoBulk d + 1
  | (_, d) => uptoBulk d + 1
 end
def uptoSmall : (H : Type) → List (DataW H) → Bool := fun _ ds => decide (uptoBulkAll ds ≤ 1048576)
def OpenSpec.upto (s : _root_.Go.ChangeSpec) : _root_.Go.OpenSpec := { _root_.Go.OpenSpec.ofChange s with cond := some uptoSmall }

/-- 'supergraphlaw48.UsageOf', WHERE WHAT IT READS IS OF BULK AT MOST 1048576: true; the input reads as it did. -/
def usageOfUptoRow : OpenClaim := { program := "ytnbbdamkdkhjkaagreat", sum := "83b8da5cffa5701323b892c16901c203a41b7c4a35178804031cfb4419018f82", func := "supergraph/supergraphlaw48.UsageOf", spec := "usageOf", unfollowed := true, recurses := true, loops := true, apart := false, narrowed := true }
def UsageOfUptoSaid : Prop := usageOfUptoRow.holds Tryz.pinned (OpenSpec.upto usageOfSpec)

/-- 'supergraphlaw48.UsageFields', WHERE WHAT IT READS IS OF BULK AT MOST 1048576: true; the input reads as it did. -/
def usageFieldsUptoRow : OpenClaim := { program := "ytnbbdamkdkhjkaagreat", sum := "83b8da5cffa5701323b892c16901c203a41b7c4a35178804031cfb4419018f82", func := "supergraph/supergraphlaw48.UsageFields", spec := "usageFields", unfollowed := true, recurses := true, loops := true, apart := false, narrowed := true }
def UsageFieldsUptoSaid : Prop := usageFieldsUptoRow.holds Tryz.pinned (OpenSpec.upto usageFieldsSpec)

end Rows
end Go.Proofs.YtnbbdamkdkhjkaaGreat
