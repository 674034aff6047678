/- EvolveSafeExact returns true for every list of verdicts whose bulk is at most 1048576, and leaves it as it was. -/
import Derived.Test.YtfmbgiahleepfaeGreatDoorV2
import Derived.Deep.DeepHandedRow
import Derived.Lay
import Derived.MakeChecks
import Derived.SevenTiedAt
import Derived.Test.YtfmbgiahleepfaeGreatDoorCards
import Derived.Test.YtfmbgiahleepfaeGreatDoorTie
set_option maxRecDepth 100000
set_option maxHeartbeats 2000000
set_option linter.unusedVariables false
set_option linter.unusedSimpArgs false
namespace Go.Proofs.YtfmbgiahleepfaeGreatDoor
open Go Go.Ab Go.Ab.Sch Go.RowKit Go.ChangeShapes Go.WideShapes Go.ChangeAt
set_option maxRecDepth 100000 in
theorem evolveSafe_contract (H : Type) (enc : TypeId × Value → H) (W : World) (base : Nat) (args : Array Value) (ds gs : List (DataW H)) (before : List MemPlace)
    (hval : ∀ (j : Nat) t v, Tryz.f3.params[j]? = some t → args[j]? = some v → Value.okWide Tryz.prog W .any base t v)
    (hW : DataW.Whole enc Tryz.prog Tryz.f3.params.toList Rows.evolveSafeExactSpec.vars false W args.toList ds gs before) (hk : Rows.uptoSmall H (ds ++ gs) = true) (hl : laidMetH Tryz.prog Rows.evolveSafeExactUptoRow.laid W) :
    Calls Tryz.prog 3 args W fun e W' => ∃ v, e = .returned v ∧ Rows.evolveSafeExactSpec.post enc Tryz.prog Tryz.f3 false true false false W args v W' := by
  have hW' := hW
  obtain ⟨p, q, hA0, hV, rfl, hfz, hnd⟩ := hW
  have hA : DataW.TrodAll enc Tryz.prog W 0 (fun _ => true) true Tryz.f3.params.toList args.toList ds p := hA0
  rw [Tryz.params3] at hA hval
  obtain ⟨v0, vs0, d0, ds0, p0, q0, hargs, rfl, rfl, t0, r0⟩ := trodAll_cons hA
  obtain ⟨rfl, rfl, rfl⟩ := trodAll_nil r0
  obtain rfl : args = #[v0] := by cases args; simp_all
  obtain ⟨rfl, rfl⟩ := trodVars_none hV
  have hb := bound hk
  simp only [Rows.uptoBulkAll, List.append_nil] at hb
  obtain ⟨a0, e0, s0, w0⟩ := arg_slice (Tryz.tab_ok _ _ rfl) rfl (RdS.slice bulkB (Tryz.tab_ok 22 _ rfl) rfl (Tryz.tab_ok 28 _ rfl) rfl (by decide) (fun _ => rfl) (rd_TVerdict_28 bulkB)) (hval 0 22 v0 rfl rfl) t0 (by omega)
  obtain ⟨u, fr, hT⟩ := table (by rw [← MakeChecks.laidMetH_plain _ _ _ (by kernel_rfl)]; exact hl)
  refine (law_callsT (args := [v0]) (evolveSafe_call a0 (by omega) w0 u fr) hT (.cons e0 .nil)).mono fun e W' ⟨he, hg⟩ => ?_
  exact ⟨_, he, post_true rfl hW' hg laid (by decide +kernel) rfl Tryz.underlying4 rfl⟩
set_option maxRecDepth 100000 in
theorem evolveSafe_lifted (os : Os) (started : os.Started) (H : Type) (enc : TypeId × Value → H) (F : Stop.Interp) :
    ReturnsInHanded {} Tryz.checked os 3 .any ((Rows.OpenSpec.upto Rows.evolveSafeExactSpec).preRow enc Tryz.prog Tryz.f3 Rows.evolveSafeExactUptoRow.domain false Rows.evolveSafeExactUptoRow.laid) (((Rows.OpenSpec.upto Rows.evolveSafeExactSpec).at F).post enc Tryz.prog Tryz.f3 false true false false) := by
  refine returnsInHanded_of_row (C := Tryz.checked) (s := Rows.OpenSpec.upto Rows.evolveSafeExactSpec) own started (by kernel_rfl) Tryz.func3
    (witness_row_at (enc := enc) (C := Tryz.checked) false (World.laidAll Tryz.prog os Rows.evolveSafeExactUptoRow.laid) #[.slice none 0 0] (World.laidAll_os _ _ _) (by kernel_rfl) (by kernel_rfl) (by kernel_rfl)
      (OpenSpec.preRow_of_cond 8 (x := ([.nil], [], [])) (by kernel_rfl) (by kernel_rfl) (fun k hk => by cases hk; kernel_rfl) (by kernel_rfl)
        (by rw [MakeChecks.laidMetH_plain _ _ _ (by kernel_rfl)]; exact laidMet_laidAll _ (by kernel_rfl) (by kernel_rfl)))) ?_
  intro W base args ds gs before hval hW _ hk _ hl _ _
  exact evolveSafe_contract H enc W base args ds gs before hval hW (hk _ rfl) hl
theorem evolveSafe_over : Rows.evolveSafeExactUptoRow.holds Tryz.pinned (Rows.OpenSpec.upto Rows.evolveSafeExactSpec) :=
  OpenClaim.holds_of_cond 3 Tryz.f3 rfl rfl rfl rfl rfl rfl rfl ⟨rfl, rfl, rfl, rfl, rfl⟩ rfl rfl rfl rfl rfl (by kernel_rfl) Tryz.func3 (by kernel_rfl)
    (of_decide_eq_true (by kernel_rfl)) (by unfold Func.isWrapper; first | (rw [if_pos (by decide +kernel)]; kernel_rfl) | (rw [if_neg (by decide +kernel)]; exact ⟨rfl, rfl⟩))
    (fun os started H enc _ F => by rw [OpenClaim.pre_eq_preRow]; exact evolveSafe_lifted os started H enc F)
set_option maxRecDepth 100000 in
theorem evolveSafe_holds : Rows.EvolveSafeExactUptoCardSaid :=
  Claim7.holds_tied_plain_at .later [] [.data, .data, .data] true (true, "402183d1dfab45eb2db2f005efb62daec98bde6f81879ffcc00b2b52fd49ed24") false evolveSafe_over (fun _ h => by cases h) (by kernel_rfl) (fun _ h => by cases h) evolveSafeExactUpto_row_tie rfl ⟨rfl, rfl⟩ (by kernel_rfl) rfl
    (fun f fn hf hfn => by
      obtain rfl : f = 3 := Option.some.inj ((show Tryz.prog.funcNamed "supergraph/supergraphlaw50.EvolveSafeExact" = some 3 by kernel_rfl).symm.trans hf) |>.symm
      obtain rfl : fn = Tryz.f3 := (Option.some.inj (Tryz.func3.symm.trans hfn)).symm
      exact ⟨by kernel_rfl, fun j t ht => by
        rw [Tryz.params3] at ht
        have hm : t ∈ [22] := by simpa using Array.mem_of_getElem? ht
        have hall : ([22].all fun u => !Tryz.prog.wantsStandIn u) = true := by kernel_rfl
        exact (show Tryz.prog.wantsStandIn t = false by simpa using List.all_eq_true.1 hall t hm)⟩)
    (by kernel_rfl)
end Go.Proofs.YtfmbgiahleepfaeGreatDoor

