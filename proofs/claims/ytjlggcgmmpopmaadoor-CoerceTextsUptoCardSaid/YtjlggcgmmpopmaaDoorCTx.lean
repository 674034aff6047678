/- CoerceTexts returns true for all arguments whose bulk is together at most 1048576, and leaves them as they were. -/
import Derived.Test.YtjlggcgmmpopmaaDoorV8
import Derived.Deep.DeepHandedRow
import Derived.Lay
import Derived.MakeChecks
import Derived.SevenTiedAt
import Derived.Test.YtjlggcgmmpopmaaDoorCards
import Derived.Test.YtjlggcgmmpopmaaDoorTie
set_option maxRecDepth 100000
set_option maxHeartbeats 2000000
set_option linter.unusedVariables false
set_option linter.unusedSimpArgs false
namespace Go.Proofs.YtjlggcgmmpopmaaDoor
open Go Go.Ab Go.Ab.Sch Go.RowKit Go.ChangeShapes Go.WideShapes Go.ChangeAt
set_option maxRecDepth 100000 in
theorem coerceTexts_contract (H : Type) (enc : TypeId × Value → H) (W : World) (base : Nat) (args : Array Value) (ds gs : List (DataW H)) (before : List MemPlace)
    (hval : ∀ (j : Nat) t v, Tryd.f3.params[j]? = some t → args[j]? = some v → Value.okWide Tryd.prog W .any base t v)
    (hW : DataW.Whole enc Tryd.prog Tryd.f3.params.toList Rows.coerceTextsSpec.vars false W args.toList ds gs before) (hk : Rows.uptoSmall H (ds ++ gs) = true) (hl : laidMetH Tryd.prog Rows.coerceTextsUptoRow.laid W) :
    Calls Tryd.prog 3 args W fun e W' => ∃ v, e = .returned v ∧ Rows.coerceTextsSpec.post enc Tryd.prog Tryd.f3 false true false false W args v W' := by
  have hW' := hW
  obtain ⟨p, q, hA0, hV, rfl, hfz, hnd⟩ := hW
  have hA : DataW.TrodAll enc Tryd.prog W 0 (fun _ => true) true Tryd.f3.params.toList args.toList ds p := hA0
  rw [Tryd.params3] at hA hval
  obtain ⟨v0, vs0, d0, ds0, p0, q0, hargs, rfl, rfl, t0, r0⟩ := trodAll_cons hA
  obtain ⟨v1, vs1, d1, ds1, p1, q1, rfl, rfl, rfl, t1, r1⟩ := trodAll_cons r0
  obtain ⟨rfl, rfl, rfl⟩ := trodAll_nil r1
  obtain rfl : args = #[v0, v1] := by cases args; simp_all
  obtain ⟨rfl, rfl⟩ := trodVars_none hV
  have hb := bound hk
  simp only [Rows.uptoBulkAll, List.append_nil] at hb
  obtain ⟨a0, e0, s0, w0⟩ := arg_slice (Tryd.tab_ok _ _ rfl) rfl (RdS.slice bulkB (Tryd.tab_ok 22 _ rfl) rfl (Tryd.tab_ok 29 _ rfl) rfl (by decide) (fun _ => rfl) (rd_TArg_29 bulkB)) (hval 0 22 v0 rfl rfl) t0 (by omega)
  obtain ⟨a1, e1, s1, w1⟩ := arg_slice (Tryd.tab_ok _ _ rfl) rfl (RdS.slice bulkB (Tryd.tab_ok 22 _ rfl) rfl (Tryd.tab_ok 29 _ rfl) rfl (by decide) (fun _ => rfl) (rd_TArg_29 bulkB)) (hval 1 22 v1 rfl rfl) t1 (by omega)
  obtain ⟨u, fr, hT⟩ := table (by rw [← MakeChecks.laidMetH_plain _ _ _ (by kernel_rfl)]; exact hl)
  refine (law_callsT (args := [v0, v1]) (texts_call a0 a1 (by omega) w0 w1 u fr) hT (.cons e0 (.cons e1 .nil))).mono fun e W' ⟨he, hg⟩ => ?_
  exact ⟨_, he, post_true rfl hW' hg laid (by decide +kernel) rfl Tryd.underlying4 rfl⟩
set_option maxRecDepth 100000 in
theorem coerceTexts_lifted (os : Os) (started : os.Started) (H : Type) (enc : TypeId × Value → H) (F : Stop.Interp) :
    ReturnsInHanded {} Tryd.checked os 3 .any ((Rows.OpenSpec.upto Rows.coerceTextsSpec).preRow enc Tryd.prog Tryd.f3 Rows.coerceTextsUptoRow.domain false Rows.coerceTextsUptoRow.laid) (((Rows.OpenSpec.upto Rows.coerceTextsSpec).at F).post enc Tryd.prog Tryd.f3 false true false false) := by
  refine returnsInHanded_of_row (C := Tryd.checked) (s := Rows.OpenSpec.upto Rows.coerceTextsSpec) own started (by kernel_rfl) Tryd.func3
    (witness_row_at (enc := enc) (C := Tryd.checked) false (World.laidAll Tryd.prog os Rows.coerceTextsUptoRow.laid) #[.slice none 0 0, .slice none 0 0] (World.laidAll_os _ _ _) (by kernel_rfl) (by kernel_rfl) (by kernel_rfl)
      (OpenSpec.preRow_of_cond 8 (x := ([.nil, .nil], [], [])) (by kernel_rfl) (by kernel_rfl) (fun k hk => by cases hk; kernel_rfl) (by kernel_rfl)
        (by rw [MakeChecks.laidMetH_plain _ _ _ (by kernel_rfl)]; exact laidMet_laidAll _ (by kernel_rfl) (by kernel_rfl)))) ?_
  intro W base args ds gs before hval hW _ hk _ hl _ _
  exact coerceTexts_contract H enc W base args ds gs before hval hW (hk _ rfl) hl
theorem coerceTexts_over : Rows.coerceTextsUptoRow.holds Tryd.pinned (Rows.OpenSpec.upto Rows.coerceTextsSpec) :=
  OpenClaim.holds_of_cond 3 Tryd.f3 rfl rfl rfl rfl rfl rfl rfl ⟨rfl, rfl, rfl, rfl, rfl⟩ rfl rfl rfl rfl rfl (by kernel_rfl) Tryd.func3 (by kernel_rfl)
    (of_decide_eq_true (by kernel_rfl)) (by unfold Func.isWrapper; first | (rw [if_pos (by decide +kernel)]; kernel_rfl) | (rw [if_neg (by decide +kernel)]; exact ⟨rfl, rfl⟩))
    (fun os started H enc _ F => by rw [OpenClaim.pre_eq_preRow]; exact coerceTexts_lifted os started H enc F)
set_option maxRecDepth 100000 in
theorem coerceTexts_holds : Rows.CoerceTextsUptoCardSaid :=
  Claim7.holds_tied_plain_at .later [] [.data, .data, .data] true (true, "eeb00900421c1ab8c1df9ea5680d3fef2ebb997be6431e116f8e9d2da8054929") false coerceTexts_over (fun _ h => by cases h) (by kernel_rfl) (fun _ h => by cases h) coerceTextsUpto_row_tie rfl ⟨rfl, rfl⟩ (by kernel_rfl) rfl
    (fun f fn hf hfn => by
      obtain rfl : f = 3 := Option.some.inj ((show Tryd.prog.funcNamed "supergraph/supergraphlaw12.CoerceTexts" = some 3 by kernel_rfl).symm.trans hf) |>.symm
      obtain rfl : fn = Tryd.f3 := (Option.some.inj (Tryd.func3.symm.trans hfn)).symm
      exact ⟨by kernel_rfl, fun j t ht => by
        rw [Tryd.params3] at ht
        have hm : t ∈ [22, 22] := by simpa using Array.mem_of_getElem? ht
        have hall : ([22, 22].all fun u => !Tryd.prog.wantsStandIn u) = true := by kernel_rfl
        exact (show Tryd.prog.wantsStandIn t = false by simpa using List.all_eq_true.1 hall t hm)⟩)
    (by kernel_rfl)
end Go.Proofs.YtjlggcgmmpopmaaDoor

