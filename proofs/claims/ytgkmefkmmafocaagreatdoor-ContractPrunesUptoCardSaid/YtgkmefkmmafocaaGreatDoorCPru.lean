/- ContractPrunes returns true for all schemas whose bulk is at most 1048576, and leaves them as they were. -/
import Derived.Test.YtgkmefkmmafocaaGreatDoorV8
import Derived.Deep.DeepHandedRow
import Derived.Lay
import Derived.MakeChecks
import Derived.SevenTiedAt
import Derived.Test.YtgkmefkmmafocaaGreatDoorCards
import Derived.Test.YtgkmefkmmafocaaGreatDoorTie
set_option maxRecDepth 100000
set_option maxHeartbeats 2000000
set_option linter.unusedVariables false
set_option linter.unusedSimpArgs false
namespace Go.Proofs.YtgkmefkmmafocaaGreatDoor
open Go Go.Ab Go.Ab.l5 Go.RowKit Go.ChangeShapes Go.WideShapes Go.ChangeAt
set_option maxRecDepth 100000 in
theorem Oa (H : Type) (enc : TypeId × Value → H) (W : World) (base : Nat) (args : Array Value) (ds gs : List (DataW H)) (before : List MemPlace)
    (b : ∀ (j : Nat) t v, Tryz.f4.params[j]? = some t → args[j]? = some v → Value.okWide Tryz.prog W .any base t v)
    (f : DataW.Whole enc Tryz.prog Tryz.f4.params.toList Rows.contractPrunesSpec.vars false W args.toList ds gs before) (hk : Rows.uptoSmall H (ds ++ gs) = true) :
    Calls Tryz.prog 4 args W fun e g => ∃ v, e = .returned v ∧ Rows.contractPrunesSpec.post enc Tryz.prog Tryz.f4 false true false false W args v g := by
  have k := f
  obtain ⟨p, q, l, m, rfl, s, u⟩ := f
  have i : DataW.TrodAll enc Tryz.prog W 0 (fun _ => true) true Tryz.f4.params.toList args.toList ds p := l
  rw [Tryz.params4] at i b
  obtain ⟨v0, w, d0, x, y, z, B, rfl, rfl, t0, o⟩ := trodAll_cons i
  obtain ⟨rfl, rfl, rfl⟩ := trodAll_nil o
  obtain rfl : args = #[v0] := by cases args; simp_all
  obtain ⟨rfl, rfl⟩ := trodVars_none m
  have hb := N8 hk
  simp only [Rows.uptoBulkAll, List.append_nil] at hb
  obtain ⟨a0, r, s0, w0⟩ := H9 (Tryz.bt _ _ rfl) rfl (Io N7) (b 0 24 v0 rfl rfl) t0 (by omega)
  refine (H_ (args := [v0]) ((N9 a0 (by omega) w0).mono fun _ _ h => h.1) (.cons r .nil)).mono fun e g ⟨he, hg⟩ => ?_
  exact ⟨_, he, Ia rfl k hg laid (by decide +kernel) rfl Tryz.underlying4 rfl⟩
set_option maxRecDepth 100000 in
theorem Ob (os : Os) (started : os.Started) (H : Type) (enc : TypeId × Value → H) (F : Stop.Interp) :
    ReturnsInHanded {} Tryz.checked os 4 .any ((Rows.OpenSpec.upto Rows.contractPrunesSpec).preRow enc Tryz.prog Tryz.f4 Rows.contractPrunesUptoRow.domain false Rows.contractPrunesUptoRow.laid) (((Rows.OpenSpec.upto Rows.contractPrunesSpec).at F).post enc Tryz.prog Tryz.f4 false true false false) := by
  refine returnsInHanded_of_row (C := Tryz.checked) (s := Rows.OpenSpec.upto Rows.contractPrunesSpec) own started (by kernel_rfl) Tryz.func4
    (witness_row_at (enc := enc) (C := Tryz.checked) false (World.laidAll Tryz.prog os Rows.contractPrunesUptoRow.laid) #[.agg #[.slice none 0 0]] (World.laidAll_os _ _ _) (by kernel_rfl) (by kernel_rfl) (by kernel_rfl)
      (OpenSpec.preRow_of_cond 8 (x := ([.agg [.nil]], [], [])) (by kernel_rfl) (by kernel_rfl) (fun k hk => by cases hk; kernel_rfl) (by kernel_rfl)
        (by rw [MakeChecks.laidMetH_plain _ _ _ (by kernel_rfl)]; exact laidMet_laidAll _ (by kernel_rfl) (by kernel_rfl)))) ?_
  intro W base args ds gs before b f _ hk _ _ _ _
  exact Oa H enc W base args ds gs before b f (hk _ rfl)
theorem dy {a b : Bool} (h : a = true) (g : b = true) : (a && b) = true := by rw [h, g]; rfl
theorem Oc (P : Program) (f : FuncId) (fn : Func) (s : ChangeSpec) (c : OpenClaim) (h0 : (c.wf (OpenSpec.ofChange s)) = true) (h1 : (laidOutB P) = true) (b : (mapsRowed P) = true) (g : (fn.params.all (P.readableRec ·)) = true) (i : (namedTie P c.named s.vars) = true) (j : ((c.stops == [])) = true) (l : ((P.stops == [])) = true) (m : ((c.knobs == [])) = true) (o : ((P.stopKnobs == [])) = true) (p : ((c.inPlace == P.inPlace f)) = true) (q : ((c.unfollowed == P.unfollowed f)) = true) (r : ((c.recurses == P.recurses f)) = true) (u : ((c.named == P.varsNamed f)) = true) (v : ((c.maps == (fn.params.toList ++ s.plain.varTypes P).any (P.mapsRec ·))) = true) (w : ((c.ifaces == (fn.params.toList ++ s.plain.varTypes P).any (P.ifacesRec ·))) = true) (x : ((c.mapsOut == P.mapsAmong fn.resultTypes.toList)) = true) (y : ((c.loops == (fn.params.toList ++ s.plain.varTypes P).any (P.loopsFrom ·))) = true) (z : ((c.wideKeys == (fn.params.toList ++ s.plain.varTypes P ++ fn.resultTypes.toList).any (P.wideKeysFrom ·))) = true) (B : (s.vars.all (P.varReadable ·)) = true) (C : (fn.resultTypes.all (fun t => P.readableRec t && decide (t < P.types.size))) = true) (E : ((c.ifacesOut == fn.resultTypes.toList.any (P.ifacesRec ·))) = true) (F : ((c.loopsOut == fn.resultTypes.toList.any (P.loopsFrom ·))) = true) (G : ((c.plainKeys == P.plainKeys)) = true) (H : (c.shortTexts.isNone) = true) (I : (P.stopsHeard) = true) (J : (P.mayEnter) = true) (K : ((c.lifted == P.liftsFinal)) = true) (L : ((P.make == some c.make)) = true) (M : ((c.kinds == (if c.domain.isEmpty then [] else fn.params.toList.map fun t => match P.underlying t with | some (.int k) => some k | _ => none))) = true) (N : ((c.pinned == c.pinnedBy)) = true) (O : ((c.veiled == (fn.params.toList ++ s.plain.varTypes P ++ fn.resultTypes.toList).any (P.veiledRec ·))) = true) (Q : (c.veiledFits P fn.params.toList (fn.params.toList ++ s.plain.varTypes P ++ fn.resultTypes.toList)) = true) : joinedFacts P f fn s c = true := by
  unfold joinedFacts
  exact (dy (dy (dy (dy (dy (dy (dy (dy (dy (dy (dy (dy (dy (dy (dy (dy (dy (dy (dy (dy (dy (dy (dy (dy (dy (dy (dy (dy (dy (dy (dy h0 h1) b) g) i) j) l) m) o) p) q) r) u) v) w) x) y) z) B) C) E) F) G) H) I) J) K) L) M) N) O) Q)
theorem Od : (Rows.contractPrunesUptoRow.wf (OpenSpec.ofChange (Rows.OpenSpec.upto Rows.contractPrunesSpec).bare)) = true := by kernel_rfl
theorem Oe : (laidOutB Tryz.prog) = true := by kernel_rfl
theorem Of : (mapsRowed Tryz.prog) = true := by kernel_rfl
theorem Og : (Tryz.f4.params.all (Tryz.prog.readableRec ·)) = true := by kernel_rfl
theorem Oh : (namedTie Tryz.prog Rows.contractPrunesUptoRow.named (Rows.OpenSpec.upto Rows.contractPrunesSpec).bare.vars) = true := by kernel_rfl
theorem Oi : ((Rows.contractPrunesUptoRow.stops == [])) = true := by kernel_rfl
theorem Oj : ((Tryz.prog.stops == [])) = true := by kernel_rfl
theorem Ol : ((Rows.contractPrunesUptoRow.knobs == [])) = true := by kernel_rfl
theorem Om : ((Tryz.prog.stopKnobs == [])) = true := by kernel_rfl
theorem On : ((Rows.contractPrunesUptoRow.inPlace == Tryz.prog.inPlace 4)) = true := by kernel_rfl
theorem Oo : ((Rows.contractPrunesUptoRow.unfollowed == Tryz.prog.unfollowed 4)) = true := by kernel_rfl
theorem Oq : ((Rows.contractPrunesUptoRow.recurses == Tryz.prog.recurses 4)) = true := by kernel_rfl
theorem Ot : ((Rows.contractPrunesUptoRow.named == Tryz.prog.varsNamed 4)) = true := by kernel_rfl
theorem Ou : ((Rows.contractPrunesUptoRow.maps == (Tryz.f4.params.toList ++ (Rows.OpenSpec.upto Rows.contractPrunesSpec).bare.plain.varTypes Tryz.prog).any (Tryz.prog.mapsRec ·))) = true := by kernel_rfl
theorem Ov : ((Rows.contractPrunesUptoRow.ifaces == (Tryz.f4.params.toList ++ (Rows.OpenSpec.upto Rows.contractPrunesSpec).bare.plain.varTypes Tryz.prog).any (Tryz.prog.ifacesRec ·))) = true := by kernel_rfl
theorem Ow : ((Rows.contractPrunesUptoRow.mapsOut == Tryz.prog.mapsAmong Tryz.f4.resultTypes.toList)) = true := by kernel_rfl
theorem Ox : ((Rows.contractPrunesUptoRow.loops == (Tryz.f4.params.toList ++ (Rows.OpenSpec.upto Rows.contractPrunesSpec).bare.plain.varTypes Tryz.prog).any (Tryz.prog.loopsFrom ·))) = true := by kernel_rfl
theorem Oy : ((Rows.contractPrunesUptoRow.wideKeys == (Tryz.f4.params.toList ++ (Rows.OpenSpec.upto Rows.contractPrunesSpec).bare.plain.varTypes Tryz.prog ++ Tryz.f4.resultTypes.toList).any (Tryz.prog.wideKeysFrom ·))) = true := by kernel_rfl
theorem Oz : ((Rows.OpenSpec.upto Rows.contractPrunesSpec).bare.vars.all (Tryz.prog.varReadable ·)) = true := by kernel_rfl
theorem OA : (Tryz.f4.resultTypes.all (fun t => Tryz.prog.readableRec t && decide (t < Tryz.prog.types.size))) = true := by kernel_rfl
theorem OB : ((Rows.contractPrunesUptoRow.ifacesOut == Tryz.f4.resultTypes.toList.any (Tryz.prog.ifacesRec ·))) = true := by kernel_rfl
theorem OC : ((Rows.contractPrunesUptoRow.loopsOut == Tryz.f4.resultTypes.toList.any (Tryz.prog.loopsFrom ·))) = true := by kernel_rfl
theorem OD : ((Rows.contractPrunesUptoRow.plainKeys == Tryz.prog.plainKeys)) = true := by kernel_rfl
theorem OE : (Rows.contractPrunesUptoRow.shortTexts.isNone) = true := by kernel_rfl
theorem OF : (Tryz.prog.stopsHeard) = true := by kernel_rfl
theorem OG : (Tryz.prog.mayEnter) = true := by kernel_rfl
theorem OH : ((Rows.contractPrunesUptoRow.lifted == Tryz.prog.liftsFinal)) = true := by kernel_rfl
theorem OI : ((Tryz.prog.make == some Rows.contractPrunesUptoRow.make)) = true := by kernel_rfl
theorem OJ : ((Rows.contractPrunesUptoRow.kinds == (if Rows.contractPrunesUptoRow.domain.isEmpty then [] else Tryz.f4.params.toList.map fun t => match Tryz.prog.underlying t with | some (.int k) => some k | _ => none))) = true := by kernel_rfl
theorem OK : ((Rows.contractPrunesUptoRow.pinned == Rows.contractPrunesUptoRow.pinnedBy)) = true := by kernel_rfl
theorem OL : ((Rows.contractPrunesUptoRow.veiled == (Tryz.f4.params.toList ++ (Rows.OpenSpec.upto Rows.contractPrunesSpec).bare.plain.varTypes Tryz.prog ++ Tryz.f4.resultTypes.toList).any (Tryz.prog.veiledRec ·))) = true := by kernel_rfl
theorem OM : (Rows.contractPrunesUptoRow.veiledFits Tryz.prog Tryz.f4.params.toList (Tryz.f4.params.toList ++ (Rows.OpenSpec.upto Rows.contractPrunesSpec).bare.plain.varTypes Tryz.prog ++ Tryz.f4.resultTypes.toList)) = true := by kernel_rfl
theorem ON : joinedFacts Tryz.prog 4 Tryz.f4 (Rows.OpenSpec.upto Rows.contractPrunesSpec).bare Rows.contractPrunesUptoRow = true := Oc _ _ _ _ _ Od Oe Of Og Oh Oi Oj Ol Om On Oo Oq Ot Ou Ov Ow Ox Oy Oz OA OB OC OD OE OF OG OH OI OJ OK OL OM
theorem OO : Rows.contractPrunesUptoRow.wfByText (Rows.OpenSpec.upto Rows.contractPrunesSpec) = true := by kernel_rfl
theorem OP : Tryz.prog.mainIs = some (((true, "d0739bd4ca16d098b85ff63e300c960a9378f93c1aa697d0e0335146d3a9b05f") : Bool × String).1, ((true, "d0739bd4ca16d098b85ff63e300c960a9378f93c1aa697d0e0335146d3a9b05f") : Bool × String).2.toList) := by kernel_rfl
theorem OQ : false = Tryz.prog.looks [] := by kernel_rfl
theorem OR : false = Rows.contractPrunesUptoRow.goesBy Tryz.prog := by kernel_rfl
theorem OS : Rows.contractPrunesUptoRow.holds Tryz.pinned (Rows.OpenSpec.upto Rows.contractPrunesSpec) :=
  OpenClaim.holds_of_cond 4 Tryz.f4 rfl rfl rfl rfl rfl rfl rfl ⟨rfl, rfl, rfl, rfl, rfl⟩ rfl rfl rfl rfl rfl (by kernel_rfl) Tryz.func4 ON
    (of_decide_eq_true (by kernel_rfl)) (by unfold Func.isWrapper; first | (rw [if_pos (by decide +kernel)]; kernel_rfl) | (rw [if_neg (by decide +kernel)]; exact ⟨rfl, rfl⟩))
    (fun os started H enc _ F => by rw [OpenClaim.pre_eq_preRow]; exact Ob os started H enc F)
set_option maxRecDepth 100000 in
theorem prunes_holds : Rows.ContractPrunesUptoCardSaid :=
  Claim7.holds_tied_plain_at .later [] [.data, .data, .data] true (true, "d0739bd4ca16d098b85ff63e300c960a9378f93c1aa697d0e0335146d3a9b05f") false OS (fun _ h => by cases h) OO (fun _ h => by cases h) contractPrunesUpto_row_tie rfl ⟨rfl, rfl⟩ OP rfl
    (fun f fn b g => by
      obtain rfl : f = 4 := Option.some.inj ((show Tryz.prog.funcNamed "supergraph/supergraphlaw51.ContractPrunes" = some 4 by kernel_rfl).symm.trans b) |>.symm
      obtain rfl : fn = Tryz.f4 := (Option.some.inj (Tryz.func4.symm.trans g)).symm
      exact ⟨OQ, fun j t ht => by
        rw [Tryz.params4] at ht
        have hm : t ∈ [24] := by simpa using Array.mem_of_getElem? ht
        have i : ([24].all fun u => !Tryz.prog.wantsStandIn u) = true := by kernel_rfl
        exact (show Tryz.prog.wantsStandIn t = false by simpa using List.all_eq_true.1 i t hm)⟩)
    OR
end Go.Proofs.YtgkmefkmmafocaaGreatDoor

