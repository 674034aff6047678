/- ValidateSchemaExact returns true for every schema whose bulk is at most 1048576, and leaves it as it was. -/
import Derived.Test.YtfmbgiahleepfadGreatDoorV9
import Derived.Deep.DeepHandedRow
import Derived.Lay
import Derived.MakeChecks
import Derived.SevenTiedAt
import Derived.Test.YtfmbgiahleepfadGreatDoorCards
import Derived.Test.YtfmbgiahleepfadGreatDoorTie
set_option maxRecDepth 100000
set_option maxHeartbeats 2000000
set_option linter.unusedVariables false
set_option linter.unusedSimpArgs false
namespace Go.Proofs.YtfmbgiahleepfadGreatDoor
open Go Go.Ab Go.Ab.Sch Go.RowKit Go.ChangeShapes Go.WideShapes Go.ChangeAt
set_option maxRecDepth 100000 in
theorem schemaExact_contract (H : Type) (enc : TypeId × Value → H) (W : World) (base : Nat) (args : Array Value) (ds gs : List (DataW H)) (before : List MemPlace)
    (hval : ∀ (j : Nat) t v, Tryz.f3.params[j]? = some t → args[j]? = some v → Value.okWide Tryz.prog W .any base t v)
    (hW : DataW.Whole enc Tryz.prog Tryz.f3.params.toList Rows.validateSchemaExactSpec.vars false W args.toList ds gs before) (hk : Rows.uptoSmall H (ds ++ gs) = true) (hl : laidMetH Tryz.prog Rows.validateSchemaExactUptoRow.laid W) :
    Calls Tryz.prog 3 args W fun e W' => ∃ v, e = .returned v ∧ Rows.validateSchemaExactSpec.post enc Tryz.prog Tryz.f3 false true false false W args v W' := by
  have hW' := hW
  obtain ⟨p, q, hA0, hV, rfl, hfz, hnd⟩ := hW
  have hA : DataW.TrodAll enc Tryz.prog W 0 (fun _ => true) true Tryz.f3.params.toList args.toList ds p := hA0
  rw [Tryz.params3] at hA hval
  obtain ⟨v0, vs0, d0, ds0, p0, q0, hargs, rfl, rfl, t0, r0⟩ := trodAll_cons hA
  obtain ⟨rfl, rfl, rfl⟩ := trodAll_nil r0
  obtain rfl : args = #[v0] := by cases args; simp_all
  obtain ⟨rfl, rfl⟩ := trodVars_none hV
  have hb := bound hk
  simp only [Rows.uptoBulkAll, List.append_nil] at hb
  obtain ⟨a0, e0, s0, w0⟩ := arg_struct (Tryz.tab_ok _ _ rfl) rfl (rd_TDoc_24 bulkB) (hval 0 24 v0 rfl rfl) t0 (by omega)
  obtain ⟨u, fr, hT⟩ := table (by rw [← MakeChecks.laidMetH_plain _ _ _ (by kernel_rfl)]; exact hl)
  refine (law_callsT (args := [v0]) (schemaExact_call a0 (by omega) w0 u fr) hT (.cons e0 .nil)).mono fun e W' ⟨he, hg⟩ => ?_
  exact ⟨_, he, post_true rfl hW' hg laid (by decide +kernel) rfl Tryz.underlying4 rfl⟩
set_option maxRecDepth 100000 in
theorem schemaExact_lifted (os : Os) (started : os.Started) (H : Type) (enc : TypeId × Value → H) (F : Stop.Interp) :
    ReturnsInHanded {} Tryz.checked os 3 .any ((Rows.OpenSpec.upto Rows.validateSchemaExactSpec).preRow enc Tryz.prog Tryz.f3 Rows.validateSchemaExactUptoRow.domain false Rows.validateSchemaExactUptoRow.laid) (((Rows.OpenSpec.upto Rows.validateSchemaExactSpec).at F).post enc Tryz.prog Tryz.f3 false true false false) := by
  refine returnsInHanded_of_row (C := Tryz.checked) (s := Rows.OpenSpec.upto Rows.validateSchemaExactSpec) own started (by kernel_rfl) Tryz.func3
    (witness_row_at (enc := enc) (C := Tryz.checked) false (World.laidAll Tryz.prog os Rows.validateSchemaExactUptoRow.laid) #[.agg #[.slice none 0 0]] (World.laidAll_os _ _ _) (by kernel_rfl) (by kernel_rfl) (by kernel_rfl)
      (OpenSpec.preRow_of_cond 8 (x := ([.agg [.nil]], [], [])) (by kernel_rfl) (by kernel_rfl) (fun k hk => by cases hk; kernel_rfl) (by kernel_rfl)
        (by rw [MakeChecks.laidMetH_plain _ _ _ (by kernel_rfl)]; exact laidMet_laidAll _ (by kernel_rfl) (by kernel_rfl)))) ?_
  intro W base args ds gs before hval hW _ hk _ hl _ _
  exact schemaExact_contract H enc W base args ds gs before hval hW (hk _ rfl) hl
theorem schemaExact_over : Rows.validateSchemaExactUptoRow.holds Tryz.pinned (Rows.OpenSpec.upto Rows.validateSchemaExactSpec) :=
  OpenClaim.holds_of_cond 3 Tryz.f3 rfl rfl rfl rfl rfl rfl rfl ⟨rfl, rfl, rfl, rfl, rfl⟩ rfl rfl rfl rfl rfl (by kernel_rfl) Tryz.func3 (by kernel_rfl)
    (of_decide_eq_true (by kernel_rfl)) (by unfold Func.isWrapper; first | (rw [if_pos (by decide +kernel)]; kernel_rfl) | (rw [if_neg (by decide +kernel)]; exact ⟨rfl, rfl⟩))
    (fun os started H enc _ F => by rw [OpenClaim.pre_eq_preRow]; exact schemaExact_lifted os started H enc F)
set_option maxRecDepth 100000 in
theorem schemaExact_holds : Rows.ValidateSchemaExactUptoCardSaid :=
  Claim7.holds_tied_plain_at .later [] [.data, .data, .data] true (true, "b9cbf9496b1aeeedcb400f4ed3989ba544412023b1709ee0a0ffe260d3ecc24b") false schemaExact_over (fun _ h => by cases h) (by kernel_rfl) (fun _ h => by cases h) validateSchemaExactUpto_row_tie rfl ⟨rfl, rfl⟩ (by kernel_rfl) rfl
    (fun f fn hf hfn => by
      obtain rfl : f = 3 := Option.some.inj ((show Tryz.prog.funcNamed "supergraph/supergraphlaw17.ValidateSchemaExact" = some 3 by kernel_rfl).symm.trans hf) |>.symm
      obtain rfl : fn = Tryz.f3 := (Option.some.inj (Tryz.func3.symm.trans hfn)).symm
      exact ⟨by kernel_rfl, fun j t ht => by
        rw [Tryz.params3] at ht
        have hm : t ∈ [24] := by simpa using Array.mem_of_getElem? ht
        have hall : ([24].all fun u => !Tryz.prog.wantsStandIn u) = true := by kernel_rfl
        exact (show Tryz.prog.wantsStandIn t = false by simpa using List.all_eq_true.1 hall t hm)⟩)
    (by kernel_rfl)
end Go.Proofs.YtfmbgiahleepfadGreatDoor

