/- NormalRights returns true for all schemas and normalized operations whose bulk is at most 1048576 together, and leaves them as they were. -/
import Derived.Test.YtbghdiaepdaaeaaGreatDoorV10
import Derived.Deep.DeepHandedRow
import Derived.Lay
import Derived.Deep.DeepWitnessRowRef
import Derived.MakeChecks
import Derived.SevenTiedAt
import Derived.Test.YtbghdiaepdaaeaaGreatDoorCards
import Derived.Test.YtbghdiaepdaaeaaGreatDoorTie
set_option maxRecDepth 100000
set_option maxHeartbeats 2000000
set_option linter.unusedVariables false
set_option linter.unusedSimpArgs false
namespace Go.Proofs.YtbghdiaepdaaeaaGreatDoor
open Go Go.Ab Go.Ab.ow Go.RowKit Go.ChangeShapes Go.WideShapes Go.ChangeAt
set_option maxRecDepth 100000 in
theorem Xy (H : Type) (enc : TypeId × Value → H) (W : World) (base : Nat) (args : Array Value) (ds gs : List (DataW H)) (before : List MemPlace)
    (b : ∀ (j : Nat) t v, Tryz.f3.params[j]? = some t → args[j]? = some v → Value.okWide Tryz.prog W .any base t v)
    (f : DataW.Whole enc Tryz.prog Tryz.f3.params.toList Rows.normalRightsSpec.vars false W args.toList ds gs before) (hk : Rows.uptoSmall H (ds ++ gs) = true) (hl : laidMetH Tryz.prog Rows.normalRightsUptoRow.laid W) :
    Calls Tryz.prog 3 args W fun e W' => ∃ v, e = .returned v ∧ Rows.normalRightsSpec.post enc Tryz.prog Tryz.f3 false true false false W args v W' := by
  have i := f
  obtain ⟨p, q, k, l, rfl, C, E⟩ := f
  have g : DataW.TrodAll enc Tryz.prog W 0 (fun _ => true) true Tryz.f3.params.toList args.toList ds p := k
  rw [Tryz.params3] at g b
  obtain ⟨v0, F, d0, G, I, J, K, rfl, rfl, t0, m⟩ := trodAll_cons g
  obtain ⟨v1, L, d1, M, N, O, rfl, rfl, rfl, t1, o⟩ := trodAll_cons m
  obtain ⟨rfl, rfl, rfl⟩ := trodAll_nil o
  obtain rfl : args = #[v0, v1] := by cases args; simp_all
  obtain ⟨rfl, rfl⟩ := trodVars_none l
  have r := PW hk
  simp only [Rows.uptoBulkAll, List.append_nil] at r
  obtain ⟨a0, s, s0, w0⟩ := GC (Tryz.bn _ _ rfl) rfl (OW Hv) (b 0 24 v0 rfl rfl) t0 (by omega)
  obtain ⟨a1, w, P, x⟩ := GC (Tryz.bn _ _ rfl) rfl (OY Hv) (b 1 27 v1 rfl rfl) t1 (by omega)
  obtain ⟨u, y, z⟩ := table (by rw [← MakeChecks.laidMetH_plain _ _ _ (by kernel_rfl)]; exact hl)
  refine (OP (args := [v0, v1]) (PY a0 (by omega) w0 a1 (by omega) x u y) z (.cons s (.cons w .nil))).mono fun e W' ⟨he, B⟩ => ?_
  exact ⟨_, he, OL rfl i B laid (by decide +kernel) rfl Tryz.underlying4 rfl⟩
set_option maxRecDepth 100000 in
theorem Xz (os : Os) (started : os.Started) (H : Type) (enc : TypeId × Value → H) (F : Stop.Interp) :
    ReturnsInHanded {} Tryz.checked os 3 .any ((Rows.OpenSpec.upto Rows.normalRightsSpec).preRow enc Tryz.prog Tryz.f3 Rows.normalRightsUptoRow.domain false Rows.normalRightsUptoRow.laid) (((Rows.OpenSpec.upto Rows.normalRightsSpec).at F).post enc Tryz.prog Tryz.f3 false true false false) := by
  refine returnsInHanded_of_row (C := Tryz.checked) (s := Rows.OpenSpec.upto Rows.normalRightsSpec) own started (by kernel_rfl) Tryz.func3
    (witness_row_atRef (enc := enc) (C := Tryz.checked) false (World.laidAll Tryz.prog os Rows.normalRightsUptoRow.laid) #[.agg #[.slice none 0 0], .agg #[.int .i64 0, .slice none 0 0]] (World.laidAll_os _ _ _) (by kernel_rfl) (by kernel_rfl) (by kernel_rfl)
      (OpenSpec.preRow_of_cond 8 (x := ([.agg [.nil], .agg [.lit (.int .i64 0), .nil]], [], [])) (by kernel_rfl) (by kernel_rfl) (fun k hk => by cases hk; kernel_rfl) (by kernel_rfl)
        (by rw [MakeChecks.laidMetH_plain _ _ _ (by kernel_rfl)]; exact laidMet_laidAll _ (by kernel_rfl) (by kernel_rfl)))) ?_
  intro W base args ds gs before b f _ hk _ hl _ _
  exact Xy H enc W base args ds gs before b f (hk _ rfl) hl
theorem eM {a b : Bool} (h : a = true) (g : b = true) : (a && b) = true := by rw [h, g]; rfl
theorem XA (P : Program) (f : FuncId) (fn : Func) (s : ChangeSpec) (c : OpenClaim) (h0 : (c.wf (OpenSpec.ofChange s)) = true) (h1 : (laidOutB P) = true) (b : (mapsRowed P) = true) (g : (fn.params.all (P.readableRec ·)) = true) (i : (namedTie P c.named s.vars) = true) (j : ((c.stops == [])) = true) (l : ((P.stops == [])) = true) (m : ((c.knobs == [])) = true) (o : ((P.stopKnobs == [])) = true) (p : ((c.inPlace == P.inPlace f)) = true) (q : ((c.unfollowed == P.unfollowed f)) = true) (r : ((c.recurses == P.recurses f)) = true) (u : ((c.named == P.varsNamed f)) = true) (v : ((c.maps == (fn.params.toList ++ s.plain.varTypes P).any (P.mapsRec ·))) = true) (w : ((c.ifaces == (fn.params.toList ++ s.plain.varTypes P).any (P.ifacesRec ·))) = true) (x : ((c.mapsOut == P.mapsAmong fn.resultTypes.toList)) = true) (y : ((c.loops == (fn.params.toList ++ s.plain.varTypes P).any (P.loopsFrom ·))) = true) (z : ((c.wideKeys == (fn.params.toList ++ s.plain.varTypes P ++ fn.resultTypes.toList).any (P.wideKeysFrom ·))) = true) (B : (s.vars.all (P.varReadable ·)) = true) (C : (fn.resultTypes.all (fun t => P.readableRec t && decide (t < P.types.size))) = true) (E : ((c.ifacesOut == fn.resultTypes.toList.any (P.ifacesRec ·))) = true) (F : ((c.loopsOut == fn.resultTypes.toList.any (P.loopsFrom ·))) = true) (G : ((c.plainKeys == P.plainKeys)) = true) (H : (c.shortTexts.isNone) = true) (I : (P.stopsHeard) = true) (J : (P.mayEnter) = true) (K : ((c.lifted == P.liftsFinal)) = true) (L : ((P.make == some c.make)) = true) (M : ((c.kinds == (if c.domain.isEmpty then [] else fn.params.toList.map fun t => match P.underlying t with | some (.int k) => some k | _ => none))) = true) (N : ((c.pinned == c.pinnedBy)) = true) (O : ((c.veiled == (fn.params.toList ++ s.plain.varTypes P ++ fn.resultTypes.toList).any (P.veiledRec ·))) = true) (Q : (c.veiledFits P fn.params.toList (fn.params.toList ++ s.plain.varTypes P ++ fn.resultTypes.toList)) = true) : joinedFacts P f fn s c = true := by
  unfold joinedFacts
  exact (eM (eM (eM (eM (eM (eM (eM (eM (eM (eM (eM (eM (eM (eM (eM (eM (eM (eM (eM (eM (eM (eM (eM (eM (eM (eM (eM (eM (eM (eM (eM h0 h1) b) g) i) j) l) m) o) p) q) r) u) v) w) x) y) z) B) C) E) F) G) H) I) J) K) L) M) N) O) Q)
theorem XB : (Rows.normalRightsUptoRow.wf (OpenSpec.ofChange (Rows.OpenSpec.upto Rows.normalRightsSpec).bare)) = true := by kernel_rfl
theorem XC : (laidOutB Tryz.prog) = true := by kernel_rfl
theorem XD : (mapsRowed Tryz.prog) = true := by kernel_rfl
theorem XE : (Tryz.f3.params.all (Tryz.prog.readableRec ·)) = true := by kernel_rfl
theorem XF : (namedTie Tryz.prog Rows.normalRightsUptoRow.named (Rows.OpenSpec.upto Rows.normalRightsSpec).bare.vars) = true := by kernel_rfl
theorem XG : ((Rows.normalRightsUptoRow.stops == [])) = true := by kernel_rfl
theorem XH : ((Tryz.prog.stops == [])) = true := by kernel_rfl
theorem XI : ((Rows.normalRightsUptoRow.knobs == [])) = true := by kernel_rfl
theorem XJ : ((Tryz.prog.stopKnobs == [])) = true := by kernel_rfl
theorem XK : ((Rows.normalRightsUptoRow.inPlace == Tryz.prog.inPlace 3)) = true := by kernel_rfl
theorem XL : ((Rows.normalRightsUptoRow.unfollowed == Tryz.prog.unfollowed 3)) = true := by kernel_rfl
theorem XM : ((Rows.normalRightsUptoRow.recurses == Tryz.prog.recurses 3)) = true := by kernel_rfl
theorem XN : ((Rows.normalRightsUptoRow.named == Tryz.prog.varsNamed 3)) = true := by kernel_rfl
theorem XO : ((Rows.normalRightsUptoRow.maps == (Tryz.f3.params.toList ++ (Rows.OpenSpec.upto Rows.normalRightsSpec).bare.plain.varTypes Tryz.prog).any (Tryz.prog.mapsRec ·))) = true := by kernel_rfl
theorem XP : ((Rows.normalRightsUptoRow.ifaces == (Tryz.f3.params.toList ++ (Rows.OpenSpec.upto Rows.normalRightsSpec).bare.plain.varTypes Tryz.prog).any (Tryz.prog.ifacesRec ·))) = true := by kernel_rfl
theorem XQ : ((Rows.normalRightsUptoRow.mapsOut == Tryz.prog.mapsAmong Tryz.f3.resultTypes.toList)) = true := by kernel_rfl
theorem XR : ((Rows.normalRightsUptoRow.loops == (Tryz.f3.params.toList ++ (Rows.OpenSpec.upto Rows.normalRightsSpec).bare.plain.varTypes Tryz.prog).any (Tryz.prog.loopsFrom ·))) = true := by kernel_rfl
theorem XS : ((Rows.normalRightsUptoRow.wideKeys == (Tryz.f3.params.toList ++ (Rows.OpenSpec.upto Rows.normalRightsSpec).bare.plain.varTypes Tryz.prog ++ Tryz.f3.resultTypes.toList).any (Tryz.prog.wideKeysFrom ·))) = true := by kernel_rfl
theorem XT : ((Rows.OpenSpec.upto Rows.normalRightsSpec).bare.vars.all (Tryz.prog.varReadable ·)) = true := by kernel_rfl
theorem XU : (Tryz.f3.resultTypes.all (fun t => Tryz.prog.readableRec t && decide (t < Tryz.prog.types.size))) = true := by kernel_rfl
theorem XV : ((Rows.normalRightsUptoRow.ifacesOut == Tryz.f3.resultTypes.toList.any (Tryz.prog.ifacesRec ·))) = true := by kernel_rfl
theorem XW : ((Rows.normalRightsUptoRow.loopsOut == Tryz.f3.resultTypes.toList.any (Tryz.prog.loopsFrom ·))) = true := by kernel_rfl
theorem XX : ((Rows.normalRightsUptoRow.plainKeys == Tryz.prog.plainKeys)) = true := by kernel_rfl
theorem XY : (Rows.normalRightsUptoRow.shortTexts.isNone) = true := by kernel_rfl
theorem XZ : (Tryz.prog.stopsHeard) = true := by kernel_rfl
theorem X0 : (Tryz.prog.mayEnter) = true := by kernel_rfl
theorem X1 : ((Rows.normalRightsUptoRow.lifted == Tryz.prog.liftsFinal)) = true := by kernel_rfl
theorem X2 : ((Tryz.prog.make == some Rows.normalRightsUptoRow.make)) = true := by kernel_rfl
theorem X3 : ((Rows.normalRightsUptoRow.kinds == (if Rows.normalRightsUptoRow.domain.isEmpty then [] else Tryz.f3.params.toList.map fun t => match Tryz.prog.underlying t with | some (.int k) => some k | _ => none))) = true := by kernel_rfl
theorem X4 : ((Rows.normalRightsUptoRow.pinned == Rows.normalRightsUptoRow.pinnedBy)) = true := by kernel_rfl
theorem X5 : ((Rows.normalRightsUptoRow.veiled == (Tryz.f3.params.toList ++ (Rows.OpenSpec.upto Rows.normalRightsSpec).bare.plain.varTypes Tryz.prog ++ Tryz.f3.resultTypes.toList).any (Tryz.prog.veiledRec ·))) = true := by kernel_rfl
theorem X6 : (Rows.normalRightsUptoRow.veiledFits Tryz.prog Tryz.f3.params.toList (Tryz.f3.params.toList ++ (Rows.OpenSpec.upto Rows.normalRightsSpec).bare.plain.varTypes Tryz.prog ++ Tryz.f3.resultTypes.toList)) = true := by kernel_rfl
theorem X7 : joinedFacts Tryz.prog 3 Tryz.f3 (Rows.OpenSpec.upto Rows.normalRightsSpec).bare Rows.normalRightsUptoRow = true := XA _ _ _ _ _ XB XC XD XE XF XG XH XI XJ XK XL XM XN XO XP XQ XR XS XT XU XV XW XX XY XZ X0 X1 X2 X3 X4 X5 X6
theorem X8 : Rows.normalRightsUptoRow.wfByText (Rows.OpenSpec.upto Rows.normalRightsSpec) = true := by kernel_rfl
theorem X9 : Tryz.prog.mainIs = some (((true, "20edb38354d10bc41300c0a2e008780f218443f3b79d32c655ca0e42caaa13fa") : Bool × String).1, ((true, "20edb38354d10bc41300c0a2e008780f218443f3b79d32c655ca0e42caaa13fa") : Bool × String).2.toList) := by kernel_rfl
theorem X_ : false = Tryz.prog.looks [] := by kernel_rfl
theorem Ya : false = Rows.normalRightsUptoRow.goesBy Tryz.prog := by kernel_rfl
theorem Yb : Rows.normalRightsUptoRow.holds Tryz.pinned (Rows.OpenSpec.upto Rows.normalRightsSpec) :=
  OpenClaim.holds_of_cond 3 Tryz.f3 rfl rfl rfl rfl rfl rfl rfl ⟨rfl, rfl, rfl, rfl, rfl⟩ rfl rfl rfl rfl rfl (by kernel_rfl) Tryz.func3 X7
    (of_decide_eq_true (by kernel_rfl)) (by unfold Func.isWrapper; first | (rw [if_pos (by decide +kernel)]; kernel_rfl) | (rw [if_neg (by decide +kernel)]; exact ⟨rfl, rfl⟩))
    (fun os started H enc _ F => by rw [OpenClaim.pre_eq_preRow]; exact Xz os started H enc F)
set_option maxRecDepth 100000 in
theorem rights_holds : Rows.NormalRightsUptoCardSaid :=
  Claim7.holds_tied_plain_at .later [] [.data, .data, .data, .data, .pinned, .pinned] true (true, "20edb38354d10bc41300c0a2e008780f218443f3b79d32c655ca0e42caaa13fa") false Yb (fun _ h => by cases h) X8 (fun _ h => by cases h) normalRightsUpto_row_tie rfl ⟨rfl, rfl⟩ X9 rfl
    (fun f fn b g => by
      obtain rfl : f = 3 := Option.some.inj ((show Tryz.prog.funcNamed "supergraph/supergraphlaw19.NormalRights" = some 3 by kernel_rfl).symm.trans b) |>.symm
      obtain rfl : fn = Tryz.f3 := (Option.some.inj (Tryz.func3.symm.trans g)).symm
      exact ⟨X_, fun j t ht => by
        rw [Tryz.params3] at ht
        have hm : t ∈ [24, 27] := by simpa using Array.mem_of_getElem? ht
        have i : ([24, 27].all fun u => !Tryz.prog.wantsStandIn u) = true := by kernel_rfl
        exact (show Tryz.prog.wantsStandIn t = false by simpa using List.all_eq_true.1 i t hm)⟩)
    Ya
end Go.Proofs.YtbghdiaepdaaeaaGreatDoor

