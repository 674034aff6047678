/- ContractFilters returns true for all schemas whose bulk is at most 1048576 and all lists of tags, and leaves them as they were. -/
import Derived.Test.YtdlobimnfmjonaaGreatDoorV12
import Derived.Deep.DeepHandedRow
import Derived.Lay
import Derived.MakeChecks
import Derived.SevenTiedAt
import Derived.Test.YtdlobimnfmjonaaGreatDoorCards
import Derived.Test.YtdlobimnfmjonaaGreatDoorTie
set_option maxRecDepth 100000
set_option maxHeartbeats 2000000
set_option linter.unusedVariables false
set_option linter.unusedSimpArgs false
namespace Go.Proofs.YtdlobimnfmjonaaGreatDoor
open Go Go.Ab Go.Ab.rJ Go.RowKit Go.ChangeShapes Go.WideShapes Go.ChangeAt
set_option maxRecDepth 100000 in
theorem XG (H : Type) (enc : TypeId × Value → H) (W : World) (base : Nat) (args : Array Value) (ds gs : List (DataW H)) (before : List MemPlace)
    (f : ∀ (j : Nat) t v, Tryz.f3.params[j]? = some t → args[j]? = some v → Value.okWide Tryz.prog W .any base t v)
    (k : DataW.Whole enc Tryz.prog Tryz.f3.params.toList Rows.contractFiltersSpec.vars false W args.toList ds gs before) (hk : Rows.uptoSmall H (ds ++ gs) = true) (hl : laidMetH Tryz.prog Rows.contractFiltersUptoRow.laid W) :
    Calls Tryz.prog 3 args W fun e l => ∃ v, e = .returned v ∧ Rows.contractFiltersSpec.post enc Tryz.prog Tryz.f3 false true false false W args v l := by
  have r := k
  obtain ⟨p, q, s, w, rfl, g, J⟩ := k
  have m : DataW.TrodAll enc Tryz.prog W 0 (fun _ => true) true Tryz.f3.params.toList args.toList ds p := s
  rw [Tryz.params3] at m f
  obtain ⟨v0, K, d0, L, M, N, O, rfl, rfl, t0, y⟩ := trodAll_cons m
  obtain ⟨v1, P, d1, Q, R, S, rfl, rfl, rfl, t1, z⟩ := trodAll_cons y
  obtain ⟨v2, U, d2, X, Y, Z, rfl, rfl, rfl, t2, B⟩ := trodAll_cons z
  obtain ⟨rfl, rfl, rfl⟩ := trodAll_nil B
  obtain rfl : args = #[v0, v1, v2] := by cases args; simp_all
  obtain ⟨rfl, rfl⟩ := trodVars_none w
  have C := U6 hk
  simp only [Rows.uptoBulkAll, List.append_nil] at C
  obtain ⟨a0, E, s0, w0⟩ := PS (Tryz.bN _ _ rfl) rfl (Qf zH) (f 0 24 v0 rfl rfl) t0 (by omega) (fun b o h => g b o (by simp [h]))
  obtain ⟨a1, F, s1, aa⟩ := HT (Tryz.bN _ _ rfl) rfl (dY.slice zH (Tryz.bN 25 _ rfl) rfl (Tryz.bN 9 _ rfl) rfl (by decide) (fun _ => rfl) (dY.str zH (Tryz.bN 9 _ rfl) rfl)) (f 1 25 v1 rfl rfl) t1 (by omega) (fun b o h => g b o (by simp [h]))
  obtain ⟨a2, G, ab, ad⟩ := HT (Tryz.bN _ _ rfl) rfl (dY.slice zH (Tryz.bN 25 _ rfl) rfl (Tryz.bN 9 _ rfl) rfl (by decide) (fun _ => rfl) (dY.str zH (Tryz.bN 9 _ rfl) rfl)) (f 2 25 v2 rfl rfl) t2 (by omega) (fun b o h => g b o (by simp [h]))
  obtain ⟨u, fr, I⟩ := table (by rw [← MakeChecks.laidMetH_plain _ _ _ (by kernel_rfl)]; exact hl)
  refine (P0 (args := [v0, v1, v2]) (U8 a0 a1 a2 (by omega) w0 u fr) I (.cons E (.cons F (.cons G .nil)))).mono fun e l ⟨he, hg⟩ => ?_
  exact ⟨_, he, PT rfl r hg laid (by decide +kernel) rfl Tryz.underlying4 rfl⟩
set_option maxRecDepth 100000 in
theorem XH (os : Os) (started : os.Started) (H : Type) (enc : TypeId × Value → H) (F : Stop.Interp) :
    ReturnsInHanded {} Tryz.checked os 3 .any ((Rows.OpenSpec.upto Rows.contractFiltersSpec).preRow enc Tryz.prog Tryz.f3 Rows.contractFiltersUptoRow.domain false Rows.contractFiltersUptoRow.laid) (((Rows.OpenSpec.upto Rows.contractFiltersSpec).at F).post enc Tryz.prog Tryz.f3 false true false false) := by
  refine returnsInHanded_of_row (C := Tryz.checked) (s := Rows.OpenSpec.upto Rows.contractFiltersSpec) own started (by kernel_rfl) Tryz.func3
    (witness_row_at (enc := enc) (C := Tryz.checked) false (World.laidAll Tryz.prog os Rows.contractFiltersUptoRow.laid) #[.agg #[.slice none 0 0], .slice none 0 0, .slice none 0 0] (World.laidAll_os _ _ _) (by kernel_rfl) (by kernel_rfl) (by kernel_rfl)
      (OpenSpec.preRow_of_cond 8 (x := ([.agg [.nil], .nil, .nil], [], [])) (by kernel_rfl) (by kernel_rfl) (fun k hk => by cases hk; kernel_rfl) (by kernel_rfl)
        (by rw [MakeChecks.laidMetH_plain _ _ _ (by kernel_rfl)]; exact laidMet_laidAll _ (by kernel_rfl) (by kernel_rfl)))) ?_
  intro W base args ds gs before b f _ hk _ hl _ _
  exact XG H enc W base args ds gs before b f (hk _ rfl) hl
theorem fq {a b : Bool} (h : a = true) (g : b = true) : (a && b) = true := by rw [h, g]; rfl
theorem XI (P : Program) (f : FuncId) (fn : Func) (s : ChangeSpec) (c : OpenClaim) (h0 : (c.wf (OpenSpec.ofChange s)) = true) (h1 : (laidOutB P) = true) (b : (mapsRowed P) = true) (g : (fn.params.all (P.readableRec ·)) = true) (j : (namedTie P c.named s.vars) = true) (l : ((c.stops == [])) = true) (m : ((P.stops == [])) = true) (p : ((c.knobs == [])) = true) (q : ((P.stopKnobs == [])) = true) (r : ((c.inPlace == P.inPlace f)) = true) (u : ((c.unfollowed == P.unfollowed f)) = true) (v : ((c.recurses == P.recurses f)) = true) (w : ((c.named == P.varsNamed f)) = true) (y : ((c.maps == (fn.params.toList ++ s.plain.varTypes P).any (P.mapsRec ·))) = true) (z : ((c.ifaces == (fn.params.toList ++ s.plain.varTypes P).any (P.ifacesRec ·))) = true) (B : ((c.mapsOut == P.mapsAmong fn.resultTypes.toList)) = true) (C : ((c.loops == (fn.params.toList ++ s.plain.varTypes P).any (P.loopsFrom ·))) = true) (E : ((c.wideKeys == (fn.params.toList ++ s.plain.varTypes P ++ fn.resultTypes.toList).any (P.wideKeysFrom ·))) = true) (F : (s.vars.all (P.varReadable ·)) = true) (G : (fn.resultTypes.all (fun t => P.readableRec t && decide (t < P.types.size))) = true) (H : ((c.ifacesOut == fn.resultTypes.toList.any (P.ifacesRec ·))) = true) (I : ((c.loopsOut == fn.resultTypes.toList.any (P.loopsFrom ·))) = true) (J : ((c.plainKeys == P.plainKeys)) = true) (K : (c.shortTexts.isNone) = true) (L : (P.stopsHeard) = true) (M : (P.mayEnter) = true) (N : ((c.lifted == P.liftsFinal)) = true) (O : ((P.make == some c.make)) = true) (Q : ((c.kinds == (if c.domain.isEmpty then [] else fn.params.toList.map fun t => match P.underlying t with | some (.int k) => some k | _ => none))) = true) (R : ((c.pinned == c.pinnedBy)) = true) (S : ((c.veiled == (fn.params.toList ++ s.plain.varTypes P ++ fn.resultTypes.toList).any (P.veiledRec ·))) = true) (U : (c.veiledFits P fn.params.toList (fn.params.toList ++ s.plain.varTypes P ++ fn.resultTypes.toList)) = true) : joinedFacts P f fn s c = true := by
  unfold joinedFacts
  exact (fq (fq (fq (fq (fq (fq (fq (fq (fq (fq (fq (fq (fq (fq (fq (fq (fq (fq (fq (fq (fq (fq (fq (fq (fq (fq (fq (fq (fq (fq (fq h0 h1) b) g) j) l) m) p) q) r) u) v) w) y) z) B) C) E) F) G) H) I) J) K) L) M) N) O) Q) R) S) U)
theorem XJ : (Rows.contractFiltersUptoRow.wf (OpenSpec.ofChange (Rows.OpenSpec.upto Rows.contractFiltersSpec).bare)) = true := by kernel_rfl
theorem XK : (laidOutB Tryz.prog) = true := by kernel_rfl
theorem XL : (mapsRowed Tryz.prog) = true := by kernel_rfl
theorem XM : (Tryz.f3.params.all (Tryz.prog.readableRec ·)) = true := by kernel_rfl
theorem XN : (namedTie Tryz.prog Rows.contractFiltersUptoRow.named (Rows.OpenSpec.upto Rows.contractFiltersSpec).bare.vars) = true := by kernel_rfl
theorem XO : ((Rows.contractFiltersUptoRow.stops == [])) = true := by kernel_rfl
theorem XP : ((Tryz.prog.stops == [])) = true := by kernel_rfl
theorem XQ : ((Rows.contractFiltersUptoRow.knobs == [])) = true := by kernel_rfl
theorem XR : ((Tryz.prog.stopKnobs == [])) = true := by kernel_rfl
theorem XS : ((Rows.contractFiltersUptoRow.inPlace == Tryz.prog.inPlace 3)) = true := by kernel_rfl
theorem XT : ((Rows.contractFiltersUptoRow.unfollowed == Tryz.prog.unfollowed 3)) = true := by kernel_rfl
theorem XU : ((Rows.contractFiltersUptoRow.recurses == Tryz.prog.recurses 3)) = true := by kernel_rfl
theorem XV : ((Rows.contractFiltersUptoRow.named == Tryz.prog.varsNamed 3)) = true := by kernel_rfl
theorem XW : ((Rows.contractFiltersUptoRow.maps == (Tryz.f3.params.toList ++ (Rows.OpenSpec.upto Rows.contractFiltersSpec).bare.plain.varTypes Tryz.prog).any (Tryz.prog.mapsRec ·))) = true := by kernel_rfl
theorem XX : ((Rows.contractFiltersUptoRow.ifaces == (Tryz.f3.params.toList ++ (Rows.OpenSpec.upto Rows.contractFiltersSpec).bare.plain.varTypes Tryz.prog).any (Tryz.prog.ifacesRec ·))) = true := by kernel_rfl
theorem XY : ((Rows.contractFiltersUptoRow.mapsOut == Tryz.prog.mapsAmong Tryz.f3.resultTypes.toList)) = true := by kernel_rfl
theorem XZ : ((Rows.contractFiltersUptoRow.loops == (Tryz.f3.params.toList ++ (Rows.OpenSpec.upto Rows.contractFiltersSpec).bare.plain.varTypes Tryz.prog).any (Tryz.prog.loopsFrom ·))) = true := by kernel_rfl
theorem X0 : ((Rows.contractFiltersUptoRow.wideKeys == (Tryz.f3.params.toList ++ (Rows.OpenSpec.upto Rows.contractFiltersSpec).bare.plain.varTypes Tryz.prog ++ Tryz.f3.resultTypes.toList).any (Tryz.prog.wideKeysFrom ·))) = true := by kernel_rfl
theorem X1 : ((Rows.OpenSpec.upto Rows.contractFiltersSpec).bare.vars.all (Tryz.prog.varReadable ·)) = true := by kernel_rfl
theorem X2 : (Tryz.f3.resultTypes.all (fun t => Tryz.prog.readableRec t && decide (t < Tryz.prog.types.size))) = true := by kernel_rfl
theorem X3 : ((Rows.contractFiltersUptoRow.ifacesOut == Tryz.f3.resultTypes.toList.any (Tryz.prog.ifacesRec ·))) = true := by kernel_rfl
theorem X4 : ((Rows.contractFiltersUptoRow.loopsOut == Tryz.f3.resultTypes.toList.any (Tryz.prog.loopsFrom ·))) = true := by kernel_rfl
theorem X5 : ((Rows.contractFiltersUptoRow.plainKeys == Tryz.prog.plainKeys)) = true := by kernel_rfl
theorem X6 : (Rows.contractFiltersUptoRow.shortTexts.isNone) = true := by kernel_rfl
theorem X7 : (Tryz.prog.stopsHeard) = true := by kernel_rfl
theorem X8 : (Tryz.prog.mayEnter) = true := by kernel_rfl
theorem X9 : ((Rows.contractFiltersUptoRow.lifted == Tryz.prog.liftsFinal)) = true := by kernel_rfl
theorem X_ : ((Tryz.prog.make == some Rows.contractFiltersUptoRow.make)) = true := by kernel_rfl
theorem Ya : ((Rows.contractFiltersUptoRow.kinds == (if Rows.contractFiltersUptoRow.domain.isEmpty then [] else Tryz.f3.params.toList.map fun t => match Tryz.prog.underlying t with | some (.int k) => some k | _ => none))) = true := by kernel_rfl
theorem Yb : ((Rows.contractFiltersUptoRow.pinned == Rows.contractFiltersUptoRow.pinnedBy)) = true := by kernel_rfl
theorem Yc : ((Rows.contractFiltersUptoRow.veiled == (Tryz.f3.params.toList ++ (Rows.OpenSpec.upto Rows.contractFiltersSpec).bare.plain.varTypes Tryz.prog ++ Tryz.f3.resultTypes.toList).any (Tryz.prog.veiledRec ·))) = true := by kernel_rfl
theorem Yd : (Rows.contractFiltersUptoRow.veiledFits Tryz.prog Tryz.f3.params.toList (Tryz.f3.params.toList ++ (Rows.OpenSpec.upto Rows.contractFiltersSpec).bare.plain.varTypes Tryz.prog ++ Tryz.f3.resultTypes.toList)) = true := by kernel_rfl
theorem Ye : joinedFacts Tryz.prog 3 Tryz.f3 (Rows.OpenSpec.upto Rows.contractFiltersSpec).bare Rows.contractFiltersUptoRow = true := XI _ _ _ _ _ XJ XK XL XM XN XO XP XQ XR XS XT XU XV XW XX XY XZ X0 X1 X2 X3 X4 X5 X6 X7 X8 X9 X_ Ya Yb Yc Yd
theorem Yf : Rows.contractFiltersUptoRow.wfByText (Rows.OpenSpec.upto Rows.contractFiltersSpec) = true := by kernel_rfl
theorem Yg : Tryz.prog.mainIs = some (((true, "93b4eb6edf5ff41d941e95c50ddd4cbe23b0199743875573d969a89d56fe4d6a") : Bool × String).1, ((true, "93b4eb6edf5ff41d941e95c50ddd4cbe23b0199743875573d969a89d56fe4d6a") : Bool × String).2.toList) := by kernel_rfl
theorem Yh : false = Tryz.prog.looks [] := by kernel_rfl
theorem Yi : false = Rows.contractFiltersUptoRow.goesBy Tryz.prog := by kernel_rfl
theorem Yj : Rows.contractFiltersUptoRow.holds Tryz.pinned (Rows.OpenSpec.upto Rows.contractFiltersSpec) :=
  OpenClaim.holds_of_cond 3 Tryz.f3 rfl rfl rfl rfl rfl rfl rfl ⟨rfl, rfl, rfl, rfl, rfl⟩ rfl rfl rfl rfl rfl (by kernel_rfl) Tryz.func3 Ye
    (of_decide_eq_true (by kernel_rfl)) (by unfold Func.isWrapper; first | (rw [if_pos (by decide +kernel)]; kernel_rfl) | (rw [if_neg (by decide +kernel)]; exact ⟨rfl, rfl⟩))
    (fun os started H enc _ F => by rw [OpenClaim.pre_eq_preRow]; exact XH os started H enc F)
set_option maxRecDepth 100000 in
theorem filters_holds : Rows.ContractFiltersUptoCardSaid :=
  Claim7.holds_tied_plain_at .later [] [.data, .data, .data] true (true, "93b4eb6edf5ff41d941e95c50ddd4cbe23b0199743875573d969a89d56fe4d6a") false Yj (fun _ h => by cases h) Yf (fun _ h => by cases h) contractFiltersUpto_row_tie rfl ⟨rfl, rfl⟩ Yg rfl
    (fun f fn b g => by
      obtain rfl : f = 3 := Option.some.inj ((show Tryz.prog.funcNamed "supergraph/supergraphlaw51.ContractFilters" = some 3 by kernel_rfl).symm.trans b) |>.symm
      obtain rfl : fn = Tryz.f3 := (Option.some.inj (Tryz.func3.symm.trans g)).symm
      exact ⟨Yh, fun j t ht => by
        rw [Tryz.params3] at ht
        have hm : t ∈ [24, 25, 25] := by simpa using Array.mem_of_getElem? ht
        have k : ([24, 25, 25].all fun u => !Tryz.prog.wantsStandIn u) = true := by kernel_rfl
        exact (show Tryz.prog.wantsStandIn t = false by simpa using List.all_eq_true.1 k t hm)⟩)
    Yi
end Go.Proofs.YtdlobimnfmjonaaGreatDoor

