/- SchemaKnows returns true for every document whose bulk is at most 1048576, and leaves it as it was. -/
import Derived.Test.YtgdidaagebcocaaV7
set_option linter.unusedVariables false
set_option linter.unusedSimpArgs false
namespace Go.Proofs.Ytgdidaagebcocaa
open Go Go.Ab Go.Ab.Sch Go.RowKit Go.ChangeShapes Go.WideShapes Go.ChangeAt
theorem knows_contract (H : Type) (enc : TypeId × Value → H) (W : World) (base : Nat) (args : Array Value) (ds gs : List (DataW H)) (before : List MemPlace)
    (hval : ∀ (j : Nat) t v, Try.f6.params[j]? = some t → args[j]? = some v → Value.okWide Try.prog W .any base t v)
    (hW : DataW.Whole enc Try.prog Try.f6.params.toList Rows.schemaKnowsSpec.vars false W args.toList ds gs before) (hk : Rows.uptoSmall H (ds ++ gs) = true) :
    Calls Try.prog 6 args W fun e W' => ∃ v, e = .returned v ∧ Rows.schemaKnowsSpec.post enc Try.prog Try.f6 false true false false W args v W' := by
  have hW' := hW
  obtain ⟨p, q, hA0, hV, rfl, hfz, hnd⟩ := hW
  have hA : DataW.TrodAll enc Try.prog W 0 (fun _ => true) true Try.f6.params.toList args.toList ds p := hA0
  rw [Try.params6] at hA hval
  obtain ⟨v0, vs0, d0, ds0, p0, q0, hargs, rfl, rfl, t0, r0⟩ := trodAll_cons hA
  obtain ⟨rfl, rfl, rfl⟩ := trodAll_nil r0
  obtain rfl : args = #[v0] := by cases args; simp_all
  obtain ⟨rfl, rfl⟩ := trodVars_none hV
  have hb := bound hk
  simp only [Rows.uptoBulkAll, List.append_nil] at hb
  obtain ⟨a0, e0, s0, w0⟩ := arg_struct (Try.tab_ok _ _ rfl) rfl rd_doc (hval 0 24 v0 rfl rfl) t0 (by omega)
  refine (law_calls (args := [v0]) ((law_SchemaKnows a0 (bd_of (by omega)) h0).mono fun _ _ h => h.1) (.cons e0 .nil)).mono fun e W' ⟨he, hg⟩ => ?_
  exact ⟨_, he, post_true rfl hW' hg laid (by decide +kernel) rfl Try.underlying4 rfl⟩
set_option maxRecDepth 100000 in
theorem knows_lifted (os : Os) (started : os.Started) (H : Type) (enc : TypeId × Value → H) (F : Stop.Interp) :
    ReturnsInHanded {} Try.checked os 6 .any ((Rows.OpenSpec.upto Rows.schemaKnowsSpec).pre6 enc Try.prog Try.f6 Rows.schemaKnowsUptoRow.domain false) (((Rows.OpenSpec.upto Rows.schemaKnowsSpec).at F).post enc Try.prog Try.f6 false true false false) := by
  refine returnsInHanded_of_cond (C := Try.checked) (s := Rows.OpenSpec.upto Rows.schemaKnowsSpec) (k := Rows.uptoSmall) rfl own started (by kernel_rfl) Try.func6
    (OpenSpec.witness (enc := enc) (C := Try.checked) (s := Rows.OpenSpec.upto Rows.schemaKnowsSpec) (k := Rows.uptoSmall) rfl false ⟨#[], #[.agg #[.slice none 0 0]], []⟩ 8 (by kernel_rfl) (by kernel_rfl) (by kernel_rfl)
      (x := ([.agg [.nil]], [], [])) (by kernel_rfl) rfl (by kernel_rfl)) ?_
  intro W base args ds gs before hval hW _ hk _
  exact knows_contract H enc W base args ds gs before hval hW hk
theorem knows_over : Rows.schemaKnowsUptoRow.holds Try.pinned (Rows.OpenSpec.upto Rows.schemaKnowsSpec) :=
  OpenClaim.holds_of_cond 6 Try.f6 rfl rfl rfl rfl rfl rfl rfl ⟨rfl, rfl, rfl, rfl, rfl⟩ rfl rfl rfl rfl rfl (by kernel_rfl) Try.func6 (by kernel_rfl)
    (of_decide_eq_true (by kernel_rfl)) (by unfold Func.isWrapper; first | (rw [if_pos (by decide +kernel)]; kernel_rfl) | (rw [if_neg (by decide +kernel)]; exact ⟨rfl, rfl⟩))
    (fun os started H enc _ F => knows_lifted os started H enc F)
theorem knows_holds : Rows.SchemaKnowsUptoSaid := knows_over
end Go.Proofs.Ytgdidaagebcocaa

