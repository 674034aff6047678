/- ContractWhole returns true for all schemas whose bulk is at most 1048576, and leaves them as they were. -/
import Derived.Test.YtgkmefkmmafocaaGreatDoorV10
import Derived.Deep.DeepHandedRow
import Derived.Lay
import Derived.MakeChecks
import Derived.SevenTiedAt
import Derived.Test.YtgkmefkmmafocaaGreatDoorCards
import Derived.Test.YtgkmefkmmafocaaGreatDoorTie
set_option maxRecDepth 100000
set_option maxHeartbeats 2000000
set_option linter.unusedVariables false
set_option linter.unusedSimpArgs false
namespace Go.Proofs.YtgkmefkmmafocaaGreatDoor
open Go Go.Ab Go.Ab.o8 Go.RowKit Go.ChangeShapes Go.WideShapes Go.ChangeAt
set_option maxRecDepth 100000 in
theorem Vf (H : Type) (enc : TypeId × Value → H) (W : World) (base : Nat) (args : Array Value) (ds gs : List (DataW H)) (before : List MemPlace)
    (b : ∀ (j : Nat) t v, Tryz.f3.params[j]? = some t → args[j]? = some v → Value.okWide Tryz.prog W .any base t v)
    (f : DataW.Whole enc Tryz.prog Tryz.f3.params.toList Rows.contractWholeSpec.vars false W args.toList ds gs before) (hk : Rows.uptoSmall H (ds ++ gs) = true) (hl : laidMetH Tryz.prog Rows.contractWholeUptoRow.laid W) :
    Calls Tryz.prog 3 args W fun e g => ∃ v, e = .returned v ∧ Rows.contractWholeSpec.post enc Tryz.prog Tryz.f3 false true false false W args v g := by
  have k := f
  obtain ⟨p, q, l, m, rfl, y, z⟩ := f
  have i : DataW.TrodAll enc Tryz.prog W 0 (fun _ => true) true Tryz.f3.params.toList args.toList ds p := l
  rw [Tryz.params3] at i b
  obtain ⟨v0, B, d0, C, E, F, G, rfl, rfl, t0, o⟩ := trodAll_cons i
  obtain ⟨rfl, rfl, rfl⟩ := trodAll_nil o
  obtain rfl : args = #[v0] := by cases args; simp_all
  obtain ⟨rfl, rfl⟩ := trodVars_none m
  have r := N4 hk
  simp only [Rows.uptoBulkAll, List.append_nil] at r
  obtain ⟨a0, s, s0, w0⟩ := Nh (Tryz.bI _ _ rfl) rfl (Nx N3) (b 0 24 v0 rfl rfl) t0 (by omega)
  obtain ⟨u, w, x⟩ := table (by rw [← MakeChecks.laidMetH_plain _ _ _ (by kernel_rfl)]; exact hl)
  refine (Nn (args := [v0]) (N6 a0 (by omega) w0 u w) x (.cons s .nil)).mono fun e g ⟨he, hg⟩ => ?_
  exact ⟨_, he, Ni rfl k hg laid (by decide +kernel) rfl Tryz.underlying4 rfl⟩
set_option maxRecDepth 100000 in
theorem Vg (os : Os) (started : os.Started) (H : Type) (enc : TypeId × Value → H) (F : Stop.Interp) :
    ReturnsInHanded {} Tryz.checked os 3 .any ((Rows.OpenSpec.upto Rows.contractWholeSpec).preRow enc Tryz.prog Tryz.f3 Rows.contractWholeUptoRow.domain false Rows.contractWholeUptoRow.laid) (((Rows.OpenSpec.upto Rows.contractWholeSpec).at F).post enc Tryz.prog Tryz.f3 false true false false) := by
  refine returnsInHanded_of_row (C := Tryz.checked) (s := Rows.OpenSpec.upto Rows.contractWholeSpec) own started (by kernel_rfl) Tryz.func3
    (witness_row_at (enc := enc) (C := Tryz.checked) false (World.laidAll Tryz.prog os Rows.contractWholeUptoRow.laid) #[.agg #[.slice none 0 0]] (World.laidAll_os _ _ _) (by kernel_rfl) (by kernel_rfl) (by kernel_rfl)
      (OpenSpec.preRow_of_cond 8 (x := ([.agg [.nil]], [], [])) (by kernel_rfl) (by kernel_rfl) (fun k hk => by cases hk; kernel_rfl) (by kernel_rfl)
        (by rw [MakeChecks.laidMetH_plain _ _ _ (by kernel_rfl)]; exact laidMet_laidAll _ (by kernel_rfl) (by kernel_rfl)))) ?_
  intro W base args ds gs before b f _ hk _ hl _ _
  exact Vf H enc W base args ds gs before b f (hk _ rfl) hl
theorem eC {a b : Bool} (h : a = true) (g : b = true) : (a && b) = true := by rw [h, g]; rfl
theorem Vh (P : Program) (f : FuncId) (fn : Func) (s : ChangeSpec) (c : OpenClaim) (h0 : (c.wf (OpenSpec.ofChange s)) = true) (h1 : (laidOutB P) = true) (b : (mapsRowed P) = true) (g : (fn.params.all (P.readableRec ·)) = true) (i : (namedTie P c.named s.vars) = true) (j : ((c.stops == [])) = true) (l : ((P.stops == [])) = true) (m : ((c.knobs == [])) = true) (o : ((P.stopKnobs == [])) = true) (p : ((c.inPlace == P.inPlace f)) = true) (q : ((c.unfollowed == P.unfollowed f)) = true) (r : ((c.recurses == P.recurses f)) = true) (u : ((c.named == P.varsNamed f)) = true) (v : ((c.maps == (fn.params.toList ++ s.plain.varTypes P).any (P.mapsRec ·))) = true) (w : ((c.ifaces == (fn.params.toList ++ s.plain.varTypes P).any (P.ifacesRec ·))) = true) (x : ((c.mapsOut == P.mapsAmong fn.resultTypes.toList)) = true) (y : ((c.loops == (fn.params.toList ++ s.plain.varTypes P).any (P.loopsFrom ·))) = true) (z : ((c.wideKeys == (fn.params.toList ++ s.plain.varTypes P ++ fn.resultTypes.toList).any (P.wideKeysFrom ·))) = true) (B : (s.vars.all (P.varReadable ·)) = true) (C : (fn.resultTypes.all (fun t => P.readableRec t && decide (t < P.types.size))) = true) (E : ((c.ifacesOut == fn.resultTypes.toList.any (P.ifacesRec ·))) = true) (F : ((c.loopsOut == fn.resultTypes.toList.any (P.loopsFrom ·))) = true) (G : ((c.plainKeys == P.plainKeys)) = true) (H : (c.shortTexts.isNone) = true) (I : (P.stopsHeard) = true) (J : (P.mayEnter) = true) (K : ((c.lifted == P.liftsFinal)) = true) (L : ((P.make == some c.make)) = true) (M : ((c.kinds == (if c.domain.isEmpty then [] else fn.params.toList.map fun t => match P.underlying t with | some (.int k) => some k | _ => none))) = true) (N : ((c.pinned == c.pinnedBy)) = true) (O : ((c.veiled == (fn.params.toList ++ s.plain.varTypes P ++ fn.resultTypes.toList).any (P.veiledRec ·))) = true) (Q : (c.veiledFits P fn.params.toList (fn.params.toList ++ s.plain.varTypes P ++ fn.resultTypes.toList)) = true) : joinedFacts P f fn s c = true := by
  unfold joinedFacts
  exact (eC (eC (eC (eC (eC (eC (eC (eC (eC (eC (eC (eC (eC (eC (eC (eC (eC (eC (eC (eC (eC (eC (eC (eC (eC (eC (eC (eC (eC (eC (eC h0 h1) b) g) i) j) l) m) o) p) q) r) u) v) w) x) y) z) B) C) E) F) G) H) I) J) K) L) M) N) O) Q)
theorem Vi : (Rows.contractWholeUptoRow.wf (OpenSpec.ofChange (Rows.OpenSpec.upto Rows.contractWholeSpec).bare)) = true := by kernel_rfl
theorem Vj : (laidOutB Tryz.prog) = true := by kernel_rfl
theorem Vk : (mapsRowed Tryz.prog) = true := by kernel_rfl
theorem Vl : (Tryz.f3.params.all (Tryz.prog.readableRec ·)) = true := by kernel_rfl
theorem Vm : (namedTie Tryz.prog Rows.contractWholeUptoRow.named (Rows.OpenSpec.upto Rows.contractWholeSpec).bare.vars) = true := by kernel_rfl
theorem Vn : ((Rows.contractWholeUptoRow.stops == [])) = true := by kernel_rfl
theorem Vo : ((Tryz.prog.stops == [])) = true := by kernel_rfl
theorem Vp : ((Rows.contractWholeUptoRow.knobs == [])) = true := by kernel_rfl
theorem Vq : ((Tryz.prog.stopKnobs == [])) = true := by kernel_rfl
theorem Vr : ((Rows.contractWholeUptoRow.inPlace == Tryz.prog.inPlace 3)) = true := by kernel_rfl
theorem Vs : ((Rows.contractWholeUptoRow.unfollowed == Tryz.prog.unfollowed 3)) = true := by kernel_rfl
theorem Vt : ((Rows.contractWholeUptoRow.recurses == Tryz.prog.recurses 3)) = true := by kernel_rfl
theorem Vu : ((Rows.contractWholeUptoRow.named == Tryz.prog.varsNamed 3)) = true := by kernel_rfl
theorem Vv : ((Rows.contractWholeUptoRow.maps == (Tryz.f3.params.toList ++ (Rows.OpenSpec.upto Rows.contractWholeSpec).bare.plain.varTypes Tryz.prog).any (Tryz.prog.mapsRec ·))) = true := by kernel_rfl
theorem Vw : ((Rows.contractWholeUptoRow.ifaces == (Tryz.f3.params.toList ++ (Rows.OpenSpec.upto Rows.contractWholeSpec).bare.plain.varTypes Tryz.prog).any (Tryz.prog.ifacesRec ·))) = true := by kernel_rfl
theorem Vx : ((Rows.contractWholeUptoRow.mapsOut == Tryz.prog.mapsAmong Tryz.f3.resultTypes.toList)) = true := by kernel_rfl
theorem Vy : ((Rows.contractWholeUptoRow.loops == (Tryz.f3.params.toList ++ (Rows.OpenSpec.upto Rows.contractWholeSpec).bare.plain.varTypes Tryz.prog).any (Tryz.prog.loopsFrom ·))) = true := by kernel_rfl
theorem Vz : ((Rows.contractWholeUptoRow.wideKeys == (Tryz.f3.params.toList ++ (Rows.OpenSpec.upto Rows.contractWholeSpec).bare.plain.varTypes Tryz.prog ++ Tryz.f3.resultTypes.toList).any (Tryz.prog.wideKeysFrom ·))) = true := by kernel_rfl
theorem VA : ((Rows.OpenSpec.upto Rows.contractWholeSpec).bare.vars.all (Tryz.prog.varReadable ·)) = true := by kernel_rfl
theorem VB : (Tryz.f3.resultTypes.all (fun t => Tryz.prog.readableRec t && decide (t < Tryz.prog.types.size))) = true := by kernel_rfl
theorem VC : ((Rows.contractWholeUptoRow.ifacesOut == Tryz.f3.resultTypes.toList.any (Tryz.prog.ifacesRec ·))) = true := by kernel_rfl
theorem VD : ((Rows.contractWholeUptoRow.loopsOut == Tryz.f3.resultTypes.toList.any (Tryz.prog.loopsFrom ·))) = true := by kernel_rfl
theorem VE : ((Rows.contractWholeUptoRow.plainKeys == Tryz.prog.plainKeys)) = true := by kernel_rfl
theorem VF : (Rows.contractWholeUptoRow.shortTexts.isNone) = true := by kernel_rfl
theorem VG : (Tryz.prog.stopsHeard) = true := by kernel_rfl
theorem VH : (Tryz.prog.mayEnter) = true := by kernel_rfl
theorem VI : ((Rows.contractWholeUptoRow.lifted == Tryz.prog.liftsFinal)) = true := by kernel_rfl
theorem VJ : ((Tryz.prog.make == some Rows.contractWholeUptoRow.make)) = true := by kernel_rfl
theorem VK : ((Rows.contractWholeUptoRow.kinds == (if Rows.contractWholeUptoRow.domain.isEmpty then [] else Tryz.f3.params.toList.map fun t => match Tryz.prog.underlying t with | some (.int k) => some k | _ => none))) = true := by kernel_rfl
theorem VL : ((Rows.contractWholeUptoRow.pinned == Rows.contractWholeUptoRow.pinnedBy)) = true := by kernel_rfl
theorem VM : ((Rows.contractWholeUptoRow.veiled == (Tryz.f3.params.toList ++ (Rows.OpenSpec.upto Rows.contractWholeSpec).bare.plain.varTypes Tryz.prog ++ Tryz.f3.resultTypes.toList).any (Tryz.prog.veiledRec ·))) = true := by kernel_rfl
theorem VN : (Rows.contractWholeUptoRow.veiledFits Tryz.prog Tryz.f3.params.toList (Tryz.f3.params.toList ++ (Rows.OpenSpec.upto Rows.contractWholeSpec).bare.plain.varTypes Tryz.prog ++ Tryz.f3.resultTypes.toList)) = true := by kernel_rfl
theorem VO : joinedFacts Tryz.prog 3 Tryz.f3 (Rows.OpenSpec.upto Rows.contractWholeSpec).bare Rows.contractWholeUptoRow = true := Vh _ _ _ _ _ Vi Vj Vk Vl Vm Vn Vo Vp Vq Vr Vs Vt Vu Vv Vw Vx Vy Vz VA VB VC VD VE VF VG VH VI VJ VK VL VM VN
theorem VP : Rows.contractWholeUptoRow.wfByText (Rows.OpenSpec.upto Rows.contractWholeSpec) = true := by kernel_rfl
theorem VQ : Tryz.prog.mainIs = some (((true, "d0739bd4ca16d098b85ff63e300c960a9378f93c1aa697d0e0335146d3a9b05f") : Bool × String).1, ((true, "d0739bd4ca16d098b85ff63e300c960a9378f93c1aa697d0e0335146d3a9b05f") : Bool × String).2.toList) := by kernel_rfl
theorem VR : false = Tryz.prog.looks [] := by kernel_rfl
theorem VS : false = Rows.contractWholeUptoRow.goesBy Tryz.prog := by kernel_rfl
theorem VT : Rows.contractWholeUptoRow.holds Tryz.pinned (Rows.OpenSpec.upto Rows.contractWholeSpec) :=
  OpenClaim.holds_of_cond 3 Tryz.f3 rfl rfl rfl rfl rfl rfl rfl ⟨rfl, rfl, rfl, rfl, rfl⟩ rfl rfl rfl rfl rfl (by kernel_rfl) Tryz.func3 VO
    (of_decide_eq_true (by kernel_rfl)) (by unfold Func.isWrapper; first | (rw [if_pos (by decide +kernel)]; kernel_rfl) | (rw [if_neg (by decide +kernel)]; exact ⟨rfl, rfl⟩))
    (fun os started H enc _ F => by rw [OpenClaim.pre_eq_preRow]; exact Vg os started H enc F)
set_option maxRecDepth 100000 in
theorem whole_holds : Rows.ContractWholeUptoCardSaid :=
  Claim7.holds_tied_plain_at .later [] [.data, .data, .data] true (true, "d0739bd4ca16d098b85ff63e300c960a9378f93c1aa697d0e0335146d3a9b05f") false VT (fun _ h => by cases h) VP (fun _ h => by cases h) contractWholeUpto_row_tie rfl ⟨rfl, rfl⟩ VQ rfl
    (fun f fn b g => by
      obtain rfl : f = 3 := Option.some.inj ((show Tryz.prog.funcNamed "supergraph/supergraphlaw51.ContractWhole" = some 3 by kernel_rfl).symm.trans b) |>.symm
      obtain rfl : fn = Tryz.f3 := (Option.some.inj (Tryz.func3.symm.trans g)).symm
      exact ⟨VR, fun j t ht => by
        rw [Tryz.params3] at ht
        have hm : t ∈ [24] := by simpa using Array.mem_of_getElem? ht
        have i : ([24].all fun u => !Tryz.prog.wantsStandIn u) = true := by kernel_rfl
        exact (show Tryz.prog.wantsStandIn t = false by simpa using List.all_eq_true.1 i t hm)⟩)
    VS
end Go.Proofs.YtgkmefkmmafocaaGreatDoor

