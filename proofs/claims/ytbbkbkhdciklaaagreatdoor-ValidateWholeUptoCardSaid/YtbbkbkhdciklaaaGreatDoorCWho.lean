/- ValidateWhole returns true for all schemas and documents whose bulk is at most 1048576, and leaves them as they were. -/
import Derived.Test.YtbbkbkhdciklaaaGreatDoorV11
import Derived.Deep.DeepHandedRow
import Derived.Lay
import Derived.MakeChecks
import Derived.SevenTiedAt
import Derived.Test.YtbbkbkhdciklaaaGreatDoorCards
import Derived.Test.YtbbkbkhdciklaaaGreatDoorTie
set_option maxRecDepth 100000
set_option maxHeartbeats 2000000
set_option linter.unusedVariables false
set_option linter.unusedSimpArgs false
namespace Go.Proofs.YtbbkbkhdciklaaaGreatDoor
open Go Go.Ab Go.Ab.pU Go.RowKit Go.ChangeShapes Go.WideShapes Go.ChangeAt
set_option maxRecDepth 100000 in
theorem Yx (H : Type) (enc : TypeId × Value → H) (W : World) (base : Nat) (args : Array Value) (ds gs : List (DataW H)) (before : List MemPlace)
    (f : ∀ (j : Nat) t v, Tryz.f3.params[j]? = some t → args[j]? = some v → Value.okWide Tryz.prog W .any base t v)
    (g : DataW.Whole enc Tryz.prog Tryz.f3.params.toList Rows.validateWholeSpec.vars false W args.toList ds gs before) (hk : Rows.uptoSmall H (ds ++ gs) = true) (hl : laidMetH Tryz.prog Rows.validateWholeUptoRow.laid W) :
    Calls Tryz.prog 3 args W fun e k => ∃ v, e = .returned v ∧ Rows.validateWholeSpec.post enc Tryz.prog Tryz.f3 false true false false W args v k := by
  have r := g
  obtain ⟨p, q, s, w, rfl, l, J⟩ := g
  have m : DataW.TrodAll enc Tryz.prog W 0 (fun _ => true) true Tryz.f3.params.toList args.toList ds p := s
  rw [Tryz.params3] at m f
  obtain ⟨v0, K, d0, L, M, N, O, rfl, rfl, t0, y⟩ := trodAll_cons m
  obtain ⟨v1, P, d1, Q, R, S, rfl, rfl, rfl, t1, z⟩ := trodAll_cons y
  obtain ⟨rfl, rfl, rfl⟩ := trodAll_nil z
  obtain rfl : args = #[v0, v1] := by cases args; simp_all
  obtain ⟨rfl, rfl⟩ := trodVars_none w
  have B := UZ hk
  simp only [Rows.uptoBulkAll, List.append_nil] at B
  obtain ⟨a0, C, s0, w0⟩ := Jd (Tryz.br _ _ rfl) rfl (Qb Me) (f 0 24 v0 rfl rfl) t0 (by omega) (fun b o h => l b o (by simp [h]))
  obtain ⟨E, F, U, G⟩ := Jd (Tryz.br _ _ rfl) rfl (Qh Me) (f 1 28 v1 rfl rfl) t1 (by omega) (fun b o h => l b o (by simp [h]))
  obtain ⟨u, fr, I⟩ := table (by rw [← MakeChecks.laidMetH_plain _ _ _ (by kernel_rfl)]; exact hl)
  refine (P0 (args := [v0, v1]) (U3 a0 E (by omega) w0 (by omega) G u fr) I (.cons C (.cons F .nil))).mono fun e k ⟨he, hg⟩ => ?_
  exact ⟨_, he, PT rfl r hg laid (by decide +kernel) rfl Tryz.underlying4 rfl⟩
set_option maxRecDepth 100000 in
theorem Yy (os : Os) (started : os.Started) (H : Type) (enc : TypeId × Value → H) (F : Stop.Interp) :
    ReturnsInHanded {} Tryz.checked os 3 .any ((Rows.OpenSpec.upto Rows.validateWholeSpec).preRow enc Tryz.prog Tryz.f3 Rows.validateWholeUptoRow.domain false Rows.validateWholeUptoRow.laid) (((Rows.OpenSpec.upto Rows.validateWholeSpec).at F).post enc Tryz.prog Tryz.f3 false true false false) := by
  refine returnsInHanded_of_row (C := Tryz.checked) (s := Rows.OpenSpec.upto Rows.validateWholeSpec) own started (by kernel_rfl) Tryz.func3
    (witness_row_at (enc := enc) (C := Tryz.checked) false (World.laidAll Tryz.prog os Rows.validateWholeUptoRow.laid) #[.agg #[.slice none 0 0], .agg #[.slice none 0 0, .slice none 0 0]] (World.laidAll_os _ _ _) (by kernel_rfl) (by kernel_rfl) (by kernel_rfl)
      (OpenSpec.preRow_of_cond 8 (x := ([.agg [.nil], .agg [.nil, .nil]], [], [])) (by kernel_rfl) (by kernel_rfl) (fun k hk => by cases hk; kernel_rfl) (by kernel_rfl)
        (by rw [MakeChecks.laidMetH_plain _ _ _ (by kernel_rfl)]; exact laidMet_laidAll _ (by kernel_rfl) (by kernel_rfl)))) ?_
  intro W base args ds gs before b f _ hk _ hl _ _
  exact Yx H enc W base args ds gs before b f (hk _ rfl) hl
theorem ff {a b : Bool} (h : a = true) (g : b = true) : (a && b) = true := by rw [h, g]; rfl
theorem Yz (P : Program) (f : FuncId) (fn : Func) (s : ChangeSpec) (c : OpenClaim) (h0 : (c.wf (OpenSpec.ofChange s)) = true) (h1 : (laidOutB P) = true) (h2 : (mapsRowed P) = true) (b : (fn.params.all (P.readableRec ·)) = true) (g : (namedTie P c.named s.vars) = true) (j : ((c.stops == [])) = true) (l : ((P.stops == [])) = true) (m : ((c.knobs == [])) = true) (p : ((P.stopKnobs == [])) = true) (q : ((c.inPlace == P.inPlace f)) = true) (r : ((c.unfollowed == P.unfollowed f)) = true) (u : ((c.recurses == P.recurses f)) = true) (v : ((c.named == P.varsNamed f)) = true) (w : ((c.maps == (fn.params.toList ++ s.plain.varTypes P).any (P.mapsRec ·))) = true) (y : ((c.ifaces == (fn.params.toList ++ s.plain.varTypes P).any (P.ifacesRec ·))) = true) (z : ((c.mapsOut == P.mapsAmong fn.resultTypes.toList)) = true) (B : ((c.loops == (fn.params.toList ++ s.plain.varTypes P).any (P.loopsFrom ·))) = true) (C : ((c.wideKeys == (fn.params.toList ++ s.plain.varTypes P ++ fn.resultTypes.toList).any (P.wideKeysFrom ·))) = true) (E : (s.vars.all (P.varReadable ·)) = true) (F : (fn.resultTypes.all (fun t => P.readableRec t && decide (t < P.types.size))) = true) (G : ((c.ifacesOut == fn.resultTypes.toList.any (P.ifacesRec ·))) = true) (H : ((c.loopsOut == fn.resultTypes.toList.any (P.loopsFrom ·))) = true) (I : ((c.plainKeys == P.plainKeys)) = true) (J : (c.shortTexts.isNone) = true) (K : (P.stopsHeard) = true) (L : (P.mayEnter) = true) (M : ((c.lifted == P.liftsFinal)) = true) (N : ((P.make == some c.make)) = true) (O : ((c.kinds == (if c.domain.isEmpty then [] else fn.params.toList.map fun t => match P.underlying t with | some (.int k) => some k | _ => none))) = true) (Q : ((c.pinned == c.pinnedBy)) = true) (R : ((c.veiled == (fn.params.toList ++ s.plain.varTypes P ++ fn.resultTypes.toList).any (P.veiledRec ·))) = true) (S : (c.veiledFits P fn.params.toList (fn.params.toList ++ s.plain.varTypes P ++ fn.resultTypes.toList)) = true) : joinedFacts P f fn s c = true := by
  unfold joinedFacts
  exact (ff (ff (ff (ff (ff (ff (ff (ff (ff (ff (ff (ff (ff (ff (ff (ff (ff (ff (ff (ff (ff (ff (ff (ff (ff (ff (ff (ff (ff (ff (ff h0 h1) h2) b) g) j) l) m) p) q) r) u) v) w) y) z) B) C) E) F) G) H) I) J) K) L) M) N) O) Q) R) S)
theorem YA : (Rows.validateWholeUptoRow.wf (OpenSpec.ofChange (Rows.OpenSpec.upto Rows.validateWholeSpec).bare)) = true := by kernel_rfl
theorem YB : (laidOutB Tryz.prog) = true := by kernel_rfl
theorem YC : (mapsRowed Tryz.prog) = true := by kernel_rfl
theorem YD : (Tryz.f3.params.all (Tryz.prog.readableRec ·)) = true := by kernel_rfl
theorem YE : (namedTie Tryz.prog Rows.validateWholeUptoRow.named (Rows.OpenSpec.upto Rows.validateWholeSpec).bare.vars) = true := by kernel_rfl
theorem YF : ((Rows.validateWholeUptoRow.stops == [])) = true := by kernel_rfl
theorem YG : ((Tryz.prog.stops == [])) = true := by kernel_rfl
theorem YH : ((Rows.validateWholeUptoRow.knobs == [])) = true := by kernel_rfl
theorem YI : ((Tryz.prog.stopKnobs == [])) = true := by kernel_rfl
theorem YJ : ((Rows.validateWholeUptoRow.inPlace == Tryz.prog.inPlace 3)) = true := by kernel_rfl
theorem YK : ((Rows.validateWholeUptoRow.unfollowed == Tryz.prog.unfollowed 3)) = true := by kernel_rfl
theorem YL : ((Rows.validateWholeUptoRow.recurses == Tryz.prog.recurses 3)) = true := by kernel_rfl
theorem YM : ((Rows.validateWholeUptoRow.named == Tryz.prog.varsNamed 3)) = true := by kernel_rfl
theorem YN : ((Rows.validateWholeUptoRow.maps == (Tryz.f3.params.toList ++ (Rows.OpenSpec.upto Rows.validateWholeSpec).bare.plain.varTypes Tryz.prog).any (Tryz.prog.mapsRec ·))) = true := by kernel_rfl
theorem YO : ((Rows.validateWholeUptoRow.ifaces == (Tryz.f3.params.toList ++ (Rows.OpenSpec.upto Rows.validateWholeSpec).bare.plain.varTypes Tryz.prog).any (Tryz.prog.ifacesRec ·))) = true := by kernel_rfl
theorem YP : ((Rows.validateWholeUptoRow.mapsOut == Tryz.prog.mapsAmong Tryz.f3.resultTypes.toList)) = true := by kernel_rfl
theorem YQ : ((Rows.validateWholeUptoRow.loops == (Tryz.f3.params.toList ++ (Rows.OpenSpec.upto Rows.validateWholeSpec).bare.plain.varTypes Tryz.prog).any (Tryz.prog.loopsFrom ·))) = true := by kernel_rfl
theorem YR : ((Rows.validateWholeUptoRow.wideKeys == (Tryz.f3.params.toList ++ (Rows.OpenSpec.upto Rows.validateWholeSpec).bare.plain.varTypes Tryz.prog ++ Tryz.f3.resultTypes.toList).any (Tryz.prog.wideKeysFrom ·))) = true := by kernel_rfl
theorem YS : ((Rows.OpenSpec.upto Rows.validateWholeSpec).bare.vars.all (Tryz.prog.varReadable ·)) = true := by kernel_rfl
theorem YT : (Tryz.f3.resultTypes.all (fun t => Tryz.prog.readableRec t && decide (t < Tryz.prog.types.size))) = true := by kernel_rfl
theorem YU : ((Rows.validateWholeUptoRow.ifacesOut == Tryz.f3.resultTypes.toList.any (Tryz.prog.ifacesRec ·))) = true := by kernel_rfl
theorem YV : ((Rows.validateWholeUptoRow.loopsOut == Tryz.f3.resultTypes.toList.any (Tryz.prog.loopsFrom ·))) = true := by kernel_rfl
theorem YW : ((Rows.validateWholeUptoRow.plainKeys == Tryz.prog.plainKeys)) = true := by kernel_rfl
theorem YX : (Rows.validateWholeUptoRow.shortTexts.isNone) = true := by kernel_rfl
theorem YY : (Tryz.prog.stopsHeard) = true := by kernel_rfl
theorem YZ : (Tryz.prog.mayEnter) = true := by kernel_rfl
theorem Y0 : ((Rows.validateWholeUptoRow.lifted == Tryz.prog.liftsFinal)) = true := by kernel_rfl
theorem Y_ : ((Tryz.prog.make == some Rows.validateWholeUptoRow.make)) = true := by kernel_rfl
theorem Za : ((Rows.validateWholeUptoRow.kinds == (if Rows.validateWholeUptoRow.domain.isEmpty then [] else Tryz.f3.params.toList.map fun t => match Tryz.prog.underlying t with | some (.int k) => some k | _ => none))) = true := by kernel_rfl
theorem Zb : ((Rows.validateWholeUptoRow.pinned == Rows.validateWholeUptoRow.pinnedBy)) = true := by kernel_rfl
theorem Zc : ((Rows.validateWholeUptoRow.veiled == (Tryz.f3.params.toList ++ (Rows.OpenSpec.upto Rows.validateWholeSpec).bare.plain.varTypes Tryz.prog ++ Tryz.f3.resultTypes.toList).any (Tryz.prog.veiledRec ·))) = true := by kernel_rfl
theorem Zd : (Rows.validateWholeUptoRow.veiledFits Tryz.prog Tryz.f3.params.toList (Tryz.f3.params.toList ++ (Rows.OpenSpec.upto Rows.validateWholeSpec).bare.plain.varTypes Tryz.prog ++ Tryz.f3.resultTypes.toList)) = true := by kernel_rfl
theorem Ze : joinedFacts Tryz.prog 3 Tryz.f3 (Rows.OpenSpec.upto Rows.validateWholeSpec).bare Rows.validateWholeUptoRow = true := Yz _ _ _ _ _ YA YB YC YD YE YF YG YH YI YJ YK YL YM YN YO YP YQ YR YS YT YU YV YW YX YY YZ Y0 Y_ Za Zb Zc Zd
theorem Zf : Rows.validateWholeUptoRow.wfByText (Rows.OpenSpec.upto Rows.validateWholeSpec) = true := by kernel_rfl
theorem Zg : Tryz.prog.mainIs = some (((true, "791887443f486728e2950f6db37102e59b977709fb024a86da5a3bdc11e7a86a") : Bool × String).1, ((true, "791887443f486728e2950f6db37102e59b977709fb024a86da5a3bdc11e7a86a") : Bool × String).2.toList) := by kernel_rfl
theorem Zh : false = Tryz.prog.looks [] := by kernel_rfl
theorem Zi : false = Rows.validateWholeUptoRow.goesBy Tryz.prog := by kernel_rfl
theorem Zj : Rows.validateWholeUptoRow.holds Tryz.pinned (Rows.OpenSpec.upto Rows.validateWholeSpec) :=
  OpenClaim.holds_of_cond 3 Tryz.f3 rfl rfl rfl rfl rfl rfl rfl ⟨rfl, rfl, rfl, rfl, rfl⟩ rfl rfl rfl rfl rfl (by kernel_rfl) Tryz.func3 Ze
    (of_decide_eq_true (by kernel_rfl)) (by unfold Func.isWrapper; first | (rw [if_pos (by decide +kernel)]; kernel_rfl) | (rw [if_neg (by decide +kernel)]; exact ⟨rfl, rfl⟩))
    (fun os started H enc _ F => by rw [OpenClaim.pre_eq_preRow]; exact Yy os started H enc F)
set_option maxRecDepth 100000 in
theorem whole_holds : Rows.ValidateWholeUptoCardSaid :=
  Claim7.holds_tied_plain_at .later [] [.data, .data, .data] true (true, "791887443f486728e2950f6db37102e59b977709fb024a86da5a3bdc11e7a86a") false Zj (fun _ h => by cases h) Zf (fun _ h => by cases h) validateWholeUpto_row_tie rfl ⟨rfl, rfl⟩ Zg rfl
    (fun f fn b g => by
      obtain rfl : f = 3 := Option.some.inj ((show Tryz.prog.funcNamed "supergraph/supergraphlaw17.ValidateWhole" = some 3 by kernel_rfl).symm.trans b) |>.symm
      obtain rfl : fn = Tryz.f3 := (Option.some.inj (Tryz.func3.symm.trans g)).symm
      exact ⟨Zh, fun j t ht => by
        rw [Tryz.params3] at ht
        have hm : t ∈ [24, 28] := by simpa using Array.mem_of_getElem? ht
        have ct : ([24, 28].all fun u => !Tryz.prog.wantsStandIn u) = true := by kernel_rfl
        exact (show Tryz.prog.wantsStandIn t = false by simpa using List.all_eq_true.1 ct t hm)⟩)
    Zi
end Go.Proofs.YtbbkbkhdciklaaaGreatDoor

