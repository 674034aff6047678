/- ContractParts returns true for all schemas whose bulk is at most 1048576 and all lists of tags, and leaves them as they were. -/
import Derived.Test.YtdlobimnfmjonaaGreatDoorV12
import Derived.Deep.DeepHandedRow
import Derived.Lay
import Derived.MakeChecks
import Derived.SevenTiedAt
import Derived.Test.YtdlobimnfmjonaaGreatDoorCards
import Derived.Test.YtdlobimnfmjonaaGreatDoorTie
set_option maxRecDepth 100000
set_option maxHeartbeats 2000000
set_option linter.unusedVariables false
set_option linter.unusedSimpArgs false
namespace Go.Proofs.YtdlobimnfmjonaaGreatDoor
open Go Go.Ab Go.Ab.sj Go.RowKit Go.ChangeShapes Go.WideShapes Go.ChangeAt
set_option maxRecDepth 100000 in
theorem X0 (H : Type) (enc : TypeId × Value → H) (W : World) (base : Nat) (args : Array Value) (ds gs : List (DataW H)) (before : List MemPlace)
    (f : ∀ (j : Nat) t v, Tryz.f4.params[j]? = some t → args[j]? = some v → Value.okWide Tryz.prog W .any base t v)
    (k : DataW.Whole enc Tryz.prog Tryz.f4.params.toList Rows.contractPartsSpec.vars false W args.toList ds gs before) (hk : Rows.uptoSmall H (ds ++ gs) = true) (hl : laidMetH Tryz.prog Rows.contractPartsUptoRow.laid W) :
    Calls Tryz.prog 4 args W fun e l => ∃ v, e = .returned v ∧ Rows.contractPartsSpec.post enc Tryz.prog Tryz.f4 false true false false W args v l := by
  have r := k
  obtain ⟨p, q, s, w, rfl, g, J⟩ := k
  have m : DataW.TrodAll enc Tryz.prog W 0 (fun _ => true) true Tryz.f4.params.toList args.toList ds p := s
  rw [Tryz.params4] at m f
  obtain ⟨v0, K, d0, L, M, N, O, rfl, rfl, t0, y⟩ := trodAll_cons m
  obtain ⟨v1, P, d1, Q, R, S, rfl, rfl, rfl, t1, z⟩ := trodAll_cons y
  obtain ⟨v2, U, d2, X, Y, Z, rfl, rfl, rfl, t2, B⟩ := trodAll_cons z
  obtain ⟨rfl, rfl, rfl⟩ := trodAll_nil B
  obtain rfl : args = #[v0, v1, v2] := by cases args; simp_all
  obtain ⟨rfl, rfl⟩ := trodVars_none w
  have C := Vn hk
  simp only [Rows.uptoBulkAll, List.append_nil] at C
  obtain ⟨a0, E, s0, w0⟩ := Qh (Tryz.bM _ _ rfl) rfl (QD Ae) (f 0 24 v0 rfl rfl) t0 (by omega) (fun b o h => g b o (by simp [h]))
  obtain ⟨a1, F, s1, aa⟩ := It (Tryz.bM _ _ rfl) rfl (dV.slice Ae (Tryz.bM 25 _ rfl) rfl (Tryz.bM 9 _ rfl) rfl (by decide) (fun _ => rfl) (dV.str Ae (Tryz.bM 9 _ rfl) rfl)) (f 1 25 v1 rfl rfl) t1 (by omega) (fun b o h => g b o (by simp [h]))
  obtain ⟨a2, G, ab, ad⟩ := It (Tryz.bM _ _ rfl) rfl (dV.slice Ae (Tryz.bM 25 _ rfl) rfl (Tryz.bM 9 _ rfl) rfl (by decide) (fun _ => rfl) (dV.str Ae (Tryz.bM 9 _ rfl) rfl)) (f 2 25 v2 rfl rfl) t2 (by omega) (fun b o h => g b o (by simp [h]))
  obtain ⟨u, fr, I⟩ := table (by rw [← MakeChecks.laidMetH_plain _ _ _ (by kernel_rfl)]; exact hl)
  refine (Qp (args := [v0, v1, v2]) (Vp a0 a1 a2 (by omega) w0 u fr) I (.cons E (.cons F (.cons G .nil)))).mono fun e l ⟨he, hg⟩ => ?_
  exact ⟨_, he, Qi rfl r hg laid (by decide +kernel) rfl Tryz.underlying4 rfl⟩
set_option maxRecDepth 100000 in
theorem X1 (os : Os) (started : os.Started) (H : Type) (enc : TypeId × Value → H) (F : Stop.Interp) :
    ReturnsInHanded {} Tryz.checked os 4 .any ((Rows.OpenSpec.upto Rows.contractPartsSpec).preRow enc Tryz.prog Tryz.f4 Rows.contractPartsUptoRow.domain false Rows.contractPartsUptoRow.laid) (((Rows.OpenSpec.upto Rows.contractPartsSpec).at F).post enc Tryz.prog Tryz.f4 false true false false) := by
  refine returnsInHanded_of_row (C := Tryz.checked) (s := Rows.OpenSpec.upto Rows.contractPartsSpec) own started (by kernel_rfl) Tryz.func4
    (witness_row_at (enc := enc) (C := Tryz.checked) false (World.laidAll Tryz.prog os Rows.contractPartsUptoRow.laid) #[.agg #[.slice none 0 0], .slice none 0 0, .slice none 0 0] (World.laidAll_os _ _ _) (by kernel_rfl) (by kernel_rfl) (by kernel_rfl)
      (OpenSpec.preRow_of_cond 8 (x := ([.agg [.nil], .nil, .nil], [], [])) (by kernel_rfl) (by kernel_rfl) (fun k hk => by cases hk; kernel_rfl) (by kernel_rfl)
        (by rw [MakeChecks.laidMetH_plain _ _ _ (by kernel_rfl)]; exact laidMet_laidAll _ (by kernel_rfl) (by kernel_rfl)))) ?_
  intro W base args ds gs before b f _ hk _ hl _ _
  exact X0 H enc W base args ds gs before b f (hk _ rfl) hl
theorem e9 {a b : Bool} (h : a = true) (g : b = true) : (a && b) = true := by rw [h, g]; rfl
theorem X2 (P : Program) (f : FuncId) (fn : Func) (s : ChangeSpec) (c : OpenClaim) (h0 : (c.wf (OpenSpec.ofChange s)) = true) (h1 : (laidOutB P) = true) (b : (mapsRowed P) = true) (g : (fn.params.all (P.readableRec ·)) = true) (j : (namedTie P c.named s.vars) = true) (l : ((c.stops == [])) = true) (m : ((P.stops == [])) = true) (p : ((c.knobs == [])) = true) (q : ((P.stopKnobs == [])) = true) (r : ((c.inPlace == P.inPlace f)) = true) (u : ((c.unfollowed == P.unfollowed f)) = true) (v : ((c.recurses == P.recurses f)) = true) (w : ((c.named == P.varsNamed f)) = true) (y : ((c.maps == (fn.params.toList ++ s.plain.varTypes P).any (P.mapsRec ·))) = true) (z : ((c.ifaces == (fn.params.toList ++ s.plain.varTypes P).any (P.ifacesRec ·))) = true) (B : ((c.mapsOut == P.mapsAmong fn.resultTypes.toList)) = true) (C : ((c.loops == (fn.params.toList ++ s.plain.varTypes P).any (P.loopsFrom ·))) = true) (E : ((c.wideKeys == (fn.params.toList ++ s.plain.varTypes P ++ fn.resultTypes.toList).any (P.wideKeysFrom ·))) = true) (F : (s.vars.all (P.varReadable ·)) = true) (G : (fn.resultTypes.all (fun t => P.readableRec t && decide (t < P.types.size))) = true) (H : ((c.ifacesOut == fn.resultTypes.toList.any (P.ifacesRec ·))) = true) (I : ((c.loopsOut == fn.resultTypes.toList.any (P.loopsFrom ·))) = true) (J : ((c.plainKeys == P.plainKeys)) = true) (K : (c.shortTexts.isNone) = true) (L : (P.stopsHeard) = true) (M : (P.mayEnter) = true) (N : ((c.lifted == P.liftsFinal)) = true) (O : ((P.make == some c.make)) = true) (Q : ((c.kinds == (if c.domain.isEmpty then [] else fn.params.toList.map fun t => match P.underlying t with | some (.int k) => some k | _ => none))) = true) (R : ((c.pinned == c.pinnedBy)) = true) (S : ((c.veiled == (fn.params.toList ++ s.plain.varTypes P ++ fn.resultTypes.toList).any (P.veiledRec ·))) = true) (U : (c.veiledFits P fn.params.toList (fn.params.toList ++ s.plain.varTypes P ++ fn.resultTypes.toList)) = true) : joinedFacts P f fn s c = true := by
  unfold joinedFacts
  exact (e9 (e9 (e9 (e9 (e9 (e9 (e9 (e9 (e9 (e9 (e9 (e9 (e9 (e9 (e9 (e9 (e9 (e9 (e9 (e9 (e9 (e9 (e9 (e9 (e9 (e9 (e9 (e9 (e9 (e9 (e9 h0 h1) b) g) j) l) m) p) q) r) u) v) w) y) z) B) C) E) F) G) H) I) J) K) L) M) N) O) Q) R) S) U)
theorem X3 : (Rows.contractPartsUptoRow.wf (OpenSpec.ofChange (Rows.OpenSpec.upto Rows.contractPartsSpec).bare)) = true := by kernel_rfl
theorem X4 : (laidOutB Tryz.prog) = true := by kernel_rfl
theorem X5 : (mapsRowed Tryz.prog) = true := by kernel_rfl
theorem X6 : (Tryz.f4.params.all (Tryz.prog.readableRec ·)) = true := by kernel_rfl
theorem X7 : (namedTie Tryz.prog Rows.contractPartsUptoRow.named (Rows.OpenSpec.upto Rows.contractPartsSpec).bare.vars) = true := by kernel_rfl
theorem X8 : ((Rows.contractPartsUptoRow.stops == [])) = true := by kernel_rfl
theorem X9 : ((Tryz.prog.stops == [])) = true := by kernel_rfl
theorem X_ : ((Rows.contractPartsUptoRow.knobs == [])) = true := by kernel_rfl
theorem Ya : ((Tryz.prog.stopKnobs == [])) = true := by kernel_rfl
theorem Yb : ((Rows.contractPartsUptoRow.inPlace == Tryz.prog.inPlace 4)) = true := by kernel_rfl
theorem Yc : ((Rows.contractPartsUptoRow.unfollowed == Tryz.prog.unfollowed 4)) = true := by kernel_rfl
theorem Yd : ((Rows.contractPartsUptoRow.recurses == Tryz.prog.recurses 4)) = true := by kernel_rfl
theorem Ye : ((Rows.contractPartsUptoRow.named == Tryz.prog.varsNamed 4)) = true := by kernel_rfl
theorem Yf : ((Rows.contractPartsUptoRow.maps == (Tryz.f4.params.toList ++ (Rows.OpenSpec.upto Rows.contractPartsSpec).bare.plain.varTypes Tryz.prog).any (Tryz.prog.mapsRec ·))) = true := by kernel_rfl
theorem Yg : ((Rows.contractPartsUptoRow.ifaces == (Tryz.f4.params.toList ++ (Rows.OpenSpec.upto Rows.contractPartsSpec).bare.plain.varTypes Tryz.prog).any (Tryz.prog.ifacesRec ·))) = true := by kernel_rfl
theorem Yh : ((Rows.contractPartsUptoRow.mapsOut == Tryz.prog.mapsAmong Tryz.f4.resultTypes.toList)) = true := by kernel_rfl
theorem Yi : ((Rows.contractPartsUptoRow.loops == (Tryz.f4.params.toList ++ (Rows.OpenSpec.upto Rows.contractPartsSpec).bare.plain.varTypes Tryz.prog).any (Tryz.prog.loopsFrom ·))) = true := by kernel_rfl
theorem Yj : ((Rows.contractPartsUptoRow.wideKeys == (Tryz.f4.params.toList ++ (Rows.OpenSpec.upto Rows.contractPartsSpec).bare.plain.varTypes Tryz.prog ++ Tryz.f4.resultTypes.toList).any (Tryz.prog.wideKeysFrom ·))) = true := by kernel_rfl
theorem Yk : ((Rows.OpenSpec.upto Rows.contractPartsSpec).bare.vars.all (Tryz.prog.varReadable ·)) = true := by kernel_rfl
theorem Yl : (Tryz.f4.resultTypes.all (fun t => Tryz.prog.readableRec t && decide (t < Tryz.prog.types.size))) = true := by kernel_rfl
theorem Ym : ((Rows.contractPartsUptoRow.ifacesOut == Tryz.f4.resultTypes.toList.any (Tryz.prog.ifacesRec ·))) = true := by kernel_rfl
theorem Yn : ((Rows.contractPartsUptoRow.loopsOut == Tryz.f4.resultTypes.toList.any (Tryz.prog.loopsFrom ·))) = true := by kernel_rfl
theorem Yo : ((Rows.contractPartsUptoRow.plainKeys == Tryz.prog.plainKeys)) = true := by kernel_rfl
theorem Yp : (Rows.contractPartsUptoRow.shortTexts.isNone) = true := by kernel_rfl
theorem Yq : (Tryz.prog.stopsHeard) = true := by kernel_rfl
theorem Yr : (Tryz.prog.mayEnter) = true := by kernel_rfl
theorem Yt : ((Rows.contractPartsUptoRow.lifted == Tryz.prog.liftsFinal)) = true := by kernel_rfl
theorem Yu : ((Tryz.prog.make == some Rows.contractPartsUptoRow.make)) = true := by kernel_rfl
theorem Yv : ((Rows.contractPartsUptoRow.kinds == (if Rows.contractPartsUptoRow.domain.isEmpty then [] else Tryz.f4.params.toList.map fun t => match Tryz.prog.underlying t with | some (.int k) => some k | _ => none))) = true := by kernel_rfl
theorem Yw : ((Rows.contractPartsUptoRow.pinned == Rows.contractPartsUptoRow.pinnedBy)) = true := by kernel_rfl
theorem Yx : ((Rows.contractPartsUptoRow.veiled == (Tryz.f4.params.toList ++ (Rows.OpenSpec.upto Rows.contractPartsSpec).bare.plain.varTypes Tryz.prog ++ Tryz.f4.resultTypes.toList).any (Tryz.prog.veiledRec ·))) = true := by kernel_rfl
theorem Yy : (Rows.contractPartsUptoRow.veiledFits Tryz.prog Tryz.f4.params.toList (Tryz.f4.params.toList ++ (Rows.OpenSpec.upto Rows.contractPartsSpec).bare.plain.varTypes Tryz.prog ++ Tryz.f4.resultTypes.toList)) = true := by kernel_rfl
theorem Yz : joinedFacts Tryz.prog 4 Tryz.f4 (Rows.OpenSpec.upto Rows.contractPartsSpec).bare Rows.contractPartsUptoRow = true := X2 _ _ _ _ _ X3 X4 X5 X6 X7 X8 X9 X_ Ya Yb Yc Yd Ye Yf Yg Yh Yi Yj Yk Yl Ym Yn Yo Yp Yq Yr Yt Yu Yv Yw Yx Yy
theorem YA : Rows.contractPartsUptoRow.wfByText (Rows.OpenSpec.upto Rows.contractPartsSpec) = true := by kernel_rfl
theorem YB : Tryz.prog.mainIs = some (((true, "93b4eb6edf5ff41d941e95c50ddd4cbe23b0199743875573d969a89d56fe4d6a") : Bool × String).1, ((true, "93b4eb6edf5ff41d941e95c50ddd4cbe23b0199743875573d969a89d56fe4d6a") : Bool × String).2.toList) := by kernel_rfl
theorem YC : false = Tryz.prog.looks [] := by kernel_rfl
theorem YD : false = Rows.contractPartsUptoRow.goesBy Tryz.prog := by kernel_rfl
theorem YE : Rows.contractPartsUptoRow.holds Tryz.pinned (Rows.OpenSpec.upto Rows.contractPartsSpec) :=
  OpenClaim.holds_of_cond 4 Tryz.f4 rfl rfl rfl rfl rfl rfl rfl ⟨rfl, rfl, rfl, rfl, rfl⟩ rfl rfl rfl rfl rfl (by kernel_rfl) Tryz.func4 Yz
    (of_decide_eq_true (by kernel_rfl)) (by unfold Func.isWrapper; first | (rw [if_pos (by decide +kernel)]; kernel_rfl) | (rw [if_neg (by decide +kernel)]; exact ⟨rfl, rfl⟩))
    (fun os started H enc _ F => by rw [OpenClaim.pre_eq_preRow]; exact X1 os started H enc F)
set_option maxRecDepth 100000 in
theorem parts_holds : Rows.ContractPartsUptoCardSaid :=
  Claim7.holds_tied_plain_at .later [] [.data, .data, .data] true (true, "93b4eb6edf5ff41d941e95c50ddd4cbe23b0199743875573d969a89d56fe4d6a") false YE (fun _ h => by cases h) YA (fun _ h => by cases h) contractPartsUpto_row_tie rfl ⟨rfl, rfl⟩ YB rfl
    (fun f fn b g => by
      obtain rfl : f = 4 := Option.some.inj ((show Tryz.prog.funcNamed "supergraph/supergraphlaw51.ContractParts" = some 4 by kernel_rfl).symm.trans b) |>.symm
      obtain rfl : fn = Tryz.f4 := (Option.some.inj (Tryz.func4.symm.trans g)).symm
      exact ⟨YC, fun j t ht => by
        rw [Tryz.params4] at ht
        have hm : t ∈ [24, 25, 25] := by simpa using Array.mem_of_getElem? ht
        have k : ([24, 25, 25].all fun u => !Tryz.prog.wantsStandIn u) = true := by kernel_rfl
        exact (show Tryz.prog.wantsStandIn t = false by simpa using List.all_eq_true.1 k t hm)⟩)
    YD
end Go.Proofs.YtdlobimnfmjonaaGreatDoor

