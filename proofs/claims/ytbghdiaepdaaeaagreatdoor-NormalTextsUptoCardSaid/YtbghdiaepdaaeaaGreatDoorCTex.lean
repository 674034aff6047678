/- NormalTexts returns true for all schemas and normalized operations whose bulk is at most 1048576 together, and leaves them as they were. -/
import Derived.Test.YtbghdiaepdaaeaaGreatDoorV9
import Derived.Deep.DeepHandedRow
import Derived.Lay
import Derived.Deep.DeepWitnessRowRef
import Derived.MakeChecks
import Derived.SevenTiedAt
import Derived.Test.YtbghdiaepdaaeaaGreatDoorCards
import Derived.Test.YtbghdiaepdaaeaaGreatDoorTie
set_option maxRecDepth 100000
set_option maxHeartbeats 2000000
set_option linter.unusedVariables false
set_option linter.unusedSimpArgs false
namespace Go.Proofs.YtbghdiaepdaaeaaGreatDoor
open Go Go.Ab Go.Ab.nI Go.RowKit Go.ChangeShapes Go.WideShapes Go.ChangeAt
set_option maxRecDepth 100000 in
theorem We (H : Type) (enc : TypeId × Value → H) (W : World) (base : Nat) (args : Array Value) (ds gs : List (DataW H)) (before : List MemPlace)
    (b : ∀ (j : Nat) t v, Tryz.f4.params[j]? = some t → args[j]? = some v → Value.okWide Tryz.prog W .any base t v)
    (f : DataW.Whole enc Tryz.prog Tryz.f4.params.toList Rows.normalTextsSpec.vars false W args.toList ds gs before) (hk : Rows.uptoSmall H (ds ++ gs) = true) (hl : laidMetH Tryz.prog Rows.normalTextsUptoRow.laid W) :
    Calls Tryz.prog 4 args W fun e W' => ∃ v, e = .returned v ∧ Rows.normalTextsSpec.post enc Tryz.prog Tryz.f4 false true false false W args v W' := by
  have i := f
  obtain ⟨p, q, k, l, rfl, G, I⟩ := f
  have g : DataW.TrodAll enc Tryz.prog W 0 (fun _ => true) true Tryz.f4.params.toList args.toList ds p := k
  rw [Tryz.params4] at g b
  obtain ⟨v0, J, d0, K, L, M, N, rfl, rfl, t0, m⟩ := trodAll_cons g
  obtain ⟨v1, O, d1, P, Q, R, rfl, rfl, rfl, t1, o⟩ := trodAll_cons m
  obtain ⟨v2, S, d2, U, X, Y, rfl, rfl, rfl, t2, r⟩ := trodAll_cons o
  obtain ⟨rfl, rfl, rfl⟩ := trodAll_nil r
  obtain rfl : args = #[v0, v1, v2] := by cases args; simp_all
  obtain ⟨rfl, rfl⟩ := trodVars_none l
  have s := Wb hk
  simp only [Rows.uptoBulkAll, List.append_nil] at s
  obtain ⟨a0, w, s0, w0⟩ := zF (Tryz.bq _ _ rfl) rfl (OD Ek) (b 0 24 v0 rfl rfl) t0 (by omega)
  obtain ⟨a1, x, Z, y⟩ := zF (Tryz.bq _ _ rfl) rfl (Gk Ek) (b 1 27 v1 rfl rfl) t1 (by omega)
  obtain ⟨a2, z, aa, B⟩ := zF (Tryz.bq _ _ rfl) rfl (Gk Ek) (b 2 27 v2 rfl rfl) t2 (by omega)
  obtain ⟨u, C, E⟩ := table (by rw [← MakeChecks.laidMetH_plain _ _ _ (by kernel_rfl)]; exact hl)
  refine (Ou (args := [v0, v1, v2]) (Wd a0 (by omega) w0 a1 (by omega) y a2 (by omega) B u C) E (.cons w (.cons x (.cons z .nil)))).mono fun e W' ⟨he, F⟩ => ?_
  exact ⟨_, he, On rfl i F laid (by decide +kernel) rfl Tryz.underlying4 rfl⟩
set_option maxRecDepth 100000 in
theorem Wf (os : Os) (started : os.Started) (H : Type) (enc : TypeId × Value → H) (F : Stop.Interp) :
    ReturnsInHanded {} Tryz.checked os 4 .any ((Rows.OpenSpec.upto Rows.normalTextsSpec).preRow enc Tryz.prog Tryz.f4 Rows.normalTextsUptoRow.domain false Rows.normalTextsUptoRow.laid) (((Rows.OpenSpec.upto Rows.normalTextsSpec).at F).post enc Tryz.prog Tryz.f4 false true false false) := by
  refine returnsInHanded_of_row (C := Tryz.checked) (s := Rows.OpenSpec.upto Rows.normalTextsSpec) own started (by kernel_rfl) Tryz.func4
    (witness_row_atRef (enc := enc) (C := Tryz.checked) false (World.laidAll Tryz.prog os Rows.normalTextsUptoRow.laid) #[.agg #[.slice none 0 0], .agg #[.int .i64 0, .slice none 0 0], .agg #[.int .i64 0, .slice none 0 0]] (World.laidAll_os _ _ _) (by kernel_rfl) (by kernel_rfl) (by kernel_rfl)
      (OpenSpec.preRow_of_cond 8 (x := ([.agg [.nil], .agg [.lit (.int .i64 0), .nil], .agg [.lit (.int .i64 0), .nil]], [], [])) (by kernel_rfl) (by kernel_rfl) (fun k hk => by cases hk; kernel_rfl) (by kernel_rfl)
        (by rw [MakeChecks.laidMetH_plain _ _ _ (by kernel_rfl)]; exact laidMet_laidAll _ (by kernel_rfl) (by kernel_rfl)))) ?_
  intro W base args ds gs before b f _ hk _ hl _ _
  exact We H enc W base args ds gs before b f (hk _ rfl) hl
theorem eM {a b : Bool} (h : a = true) (g : b = true) : (a && b) = true := by rw [h, g]; rfl
theorem Wg (P : Program) (f : FuncId) (fn : Func) (s : ChangeSpec) (c : OpenClaim) (h0 : (c.wf (OpenSpec.ofChange s)) = true) (h1 : (laidOutB P) = true) (b : (mapsRowed P) = true) (g : (fn.params.all (P.readableRec ·)) = true) (i : (namedTie P c.named s.vars) = true) (j : ((c.stops == [])) = true) (l : ((P.stops == [])) = true) (m : ((c.knobs == [])) = true) (o : ((P.stopKnobs == [])) = true) (p : ((c.inPlace == P.inPlace f)) = true) (q : ((c.unfollowed == P.unfollowed f)) = true) (r : ((c.recurses == P.recurses f)) = true) (u : ((c.named == P.varsNamed f)) = true) (v : ((c.maps == (fn.params.toList ++ s.plain.varTypes P).any (P.mapsRec ·))) = true) (w : ((c.ifaces == (fn.params.toList ++ s.plain.varTypes P).any (P.ifacesRec ·))) = true) (x : ((c.mapsOut == P.mapsAmong fn.resultTypes.toList)) = true) (y : ((c.loops == (fn.params.toList ++ s.plain.varTypes P).any (P.loopsFrom ·))) = true) (z : ((c.wideKeys == (fn.params.toList ++ s.plain.varTypes P ++ fn.resultTypes.toList).any (P.wideKeysFrom ·))) = true) (B : (s.vars.all (P.varReadable ·)) = true) (C : (fn.resultTypes.all (fun t => P.readableRec t && decide (t < P.types.size))) = true) (E : ((c.ifacesOut == fn.resultTypes.toList.any (P.ifacesRec ·))) = true) (F : ((c.loopsOut == fn.resultTypes.toList.any (P.loopsFrom ·))) = true) (G : ((c.plainKeys == P.plainKeys)) = true) (H : (c.shortTexts.isNone) = true) (I : (P.stopsHeard) = true) (J : (P.mayEnter) = true) (K : ((c.lifted == P.liftsFinal)) = true) (L : ((P.make == some c.make)) = true) (M : ((c.kinds == (if c.domain.isEmpty then [] else fn.params.toList.map fun t => match P.underlying t with | some (.int k) => some k | _ => none))) = true) (N : ((c.pinned == c.pinnedBy)) = true) (O : ((c.veiled == (fn.params.toList ++ s.plain.varTypes P ++ fn.resultTypes.toList).any (P.veiledRec ·))) = true) (Q : (c.veiledFits P fn.params.toList (fn.params.toList ++ s.plain.varTypes P ++ fn.resultTypes.toList)) = true) : joinedFacts P f fn s c = true := by
  unfold joinedFacts
  exact (eM (eM (eM (eM (eM (eM (eM (eM (eM (eM (eM (eM (eM (eM (eM (eM (eM (eM (eM (eM (eM (eM (eM (eM (eM (eM (eM (eM (eM (eM (eM h0 h1) b) g) i) j) l) m) o) p) q) r) u) v) w) x) y) z) B) C) E) F) G) H) I) J) K) L) M) N) O) Q)
theorem Wh : (Rows.normalTextsUptoRow.wf (OpenSpec.ofChange (Rows.OpenSpec.upto Rows.normalTextsSpec).bare)) = true := by kernel_rfl
theorem Wi : (laidOutB Tryz.prog) = true := by kernel_rfl
theorem Wj : (mapsRowed Tryz.prog) = true := by kernel_rfl
theorem Wl : (Tryz.f4.params.all (Tryz.prog.readableRec ·)) = true := by kernel_rfl
theorem Wm : (namedTie Tryz.prog Rows.normalTextsUptoRow.named (Rows.OpenSpec.upto Rows.normalTextsSpec).bare.vars) = true := by kernel_rfl
theorem Wn : ((Rows.normalTextsUptoRow.stops == [])) = true := by kernel_rfl
theorem Wo : ((Tryz.prog.stops == [])) = true := by kernel_rfl
theorem Wp : ((Rows.normalTextsUptoRow.knobs == [])) = true := by kernel_rfl
theorem Wq : ((Tryz.prog.stopKnobs == [])) = true := by kernel_rfl
theorem Wr : ((Rows.normalTextsUptoRow.inPlace == Tryz.prog.inPlace 4)) = true := by kernel_rfl
theorem Ws : ((Rows.normalTextsUptoRow.unfollowed == Tryz.prog.unfollowed 4)) = true := by kernel_rfl
theorem Wt : ((Rows.normalTextsUptoRow.recurses == Tryz.prog.recurses 4)) = true := by kernel_rfl
theorem Wu : ((Rows.normalTextsUptoRow.named == Tryz.prog.varsNamed 4)) = true := by kernel_rfl
theorem Ww : ((Rows.normalTextsUptoRow.maps == (Tryz.f4.params.toList ++ (Rows.OpenSpec.upto Rows.normalTextsSpec).bare.plain.varTypes Tryz.prog).any (Tryz.prog.mapsRec ·))) = true := by kernel_rfl
theorem Wx : ((Rows.normalTextsUptoRow.ifaces == (Tryz.f4.params.toList ++ (Rows.OpenSpec.upto Rows.normalTextsSpec).bare.plain.varTypes Tryz.prog).any (Tryz.prog.ifacesRec ·))) = true := by kernel_rfl
theorem Wy : ((Rows.normalTextsUptoRow.mapsOut == Tryz.prog.mapsAmong Tryz.f4.resultTypes.toList)) = true := by kernel_rfl
theorem Wz : ((Rows.normalTextsUptoRow.loops == (Tryz.f4.params.toList ++ (Rows.OpenSpec.upto Rows.normalTextsSpec).bare.plain.varTypes Tryz.prog).any (Tryz.prog.loopsFrom ·))) = true := by kernel_rfl
theorem WA : ((Rows.normalTextsUptoRow.wideKeys == (Tryz.f4.params.toList ++ (Rows.OpenSpec.upto Rows.normalTextsSpec).bare.plain.varTypes Tryz.prog ++ Tryz.f4.resultTypes.toList).any (Tryz.prog.wideKeysFrom ·))) = true := by kernel_rfl
theorem WB : ((Rows.OpenSpec.upto Rows.normalTextsSpec).bare.vars.all (Tryz.prog.varReadable ·)) = true := by kernel_rfl
theorem WC : (Tryz.f4.resultTypes.all (fun t => Tryz.prog.readableRec t && decide (t < Tryz.prog.types.size))) = true := by kernel_rfl
theorem WD : ((Rows.normalTextsUptoRow.ifacesOut == Tryz.f4.resultTypes.toList.any (Tryz.prog.ifacesRec ·))) = true := by kernel_rfl
theorem WE : ((Rows.normalTextsUptoRow.loopsOut == Tryz.f4.resultTypes.toList.any (Tryz.prog.loopsFrom ·))) = true := by kernel_rfl
theorem WG : ((Rows.normalTextsUptoRow.plainKeys == Tryz.prog.plainKeys)) = true := by kernel_rfl
theorem WH : (Rows.normalTextsUptoRow.shortTexts.isNone) = true := by kernel_rfl
theorem WI : (Tryz.prog.stopsHeard) = true := by kernel_rfl
theorem WJ : (Tryz.prog.mayEnter) = true := by kernel_rfl
theorem WK : ((Rows.normalTextsUptoRow.lifted == Tryz.prog.liftsFinal)) = true := by kernel_rfl
theorem WL : ((Tryz.prog.make == some Rows.normalTextsUptoRow.make)) = true := by kernel_rfl
theorem WM : ((Rows.normalTextsUptoRow.kinds == (if Rows.normalTextsUptoRow.domain.isEmpty then [] else Tryz.f4.params.toList.map fun t => match Tryz.prog.underlying t with | some (.int k) => some k | _ => none))) = true := by kernel_rfl
theorem WN : ((Rows.normalTextsUptoRow.pinned == Rows.normalTextsUptoRow.pinnedBy)) = true := by kernel_rfl
theorem WO : ((Rows.normalTextsUptoRow.veiled == (Tryz.f4.params.toList ++ (Rows.OpenSpec.upto Rows.normalTextsSpec).bare.plain.varTypes Tryz.prog ++ Tryz.f4.resultTypes.toList).any (Tryz.prog.veiledRec ·))) = true := by kernel_rfl
theorem WQ : (Rows.normalTextsUptoRow.veiledFits Tryz.prog Tryz.f4.params.toList (Tryz.f4.params.toList ++ (Rows.OpenSpec.upto Rows.normalTextsSpec).bare.plain.varTypes Tryz.prog ++ Tryz.f4.resultTypes.toList)) = true := by kernel_rfl
theorem WR : joinedFacts Tryz.prog 4 Tryz.f4 (Rows.OpenSpec.upto Rows.normalTextsSpec).bare Rows.normalTextsUptoRow = true := Wg _ _ _ _ _ Wh Wi Wj Wl Wm Wn Wo Wp Wq Wr Ws Wt Wu Ww Wx Wy Wz WA WB WC WD WE WG WH WI WJ WK WL WM WN WO WQ
theorem WS : Rows.normalTextsUptoRow.wfByText (Rows.OpenSpec.upto Rows.normalTextsSpec) = true := by kernel_rfl
theorem WT : Tryz.prog.mainIs = some (((true, "20edb38354d10bc41300c0a2e008780f218443f3b79d32c655ca0e42caaa13fa") : Bool × String).1, ((true, "20edb38354d10bc41300c0a2e008780f218443f3b79d32c655ca0e42caaa13fa") : Bool × String).2.toList) := by kernel_rfl
theorem WU : false = Tryz.prog.looks [] := by kernel_rfl
theorem WV : false = Rows.normalTextsUptoRow.goesBy Tryz.prog := by kernel_rfl
theorem WW : Rows.normalTextsUptoRow.holds Tryz.pinned (Rows.OpenSpec.upto Rows.normalTextsSpec) :=
  OpenClaim.holds_of_cond 4 Tryz.f4 rfl rfl rfl rfl rfl rfl rfl ⟨rfl, rfl, rfl, rfl, rfl⟩ rfl rfl rfl rfl rfl (by kernel_rfl) Tryz.func4 WR
    (of_decide_eq_true (by kernel_rfl)) (by unfold Func.isWrapper; first | (rw [if_pos (by decide +kernel)]; kernel_rfl) | (rw [if_neg (by decide +kernel)]; exact ⟨rfl, rfl⟩))
    (fun os started H enc _ F => by rw [OpenClaim.pre_eq_preRow]; exact Wf os started H enc F)
set_option maxRecDepth 100000 in
theorem texts_holds : Rows.NormalTextsUptoCardSaid :=
  Claim7.holds_tied_plain_at .later [] [.data, .data, .data, .data, .pinned, .pinned] true (true, "20edb38354d10bc41300c0a2e008780f218443f3b79d32c655ca0e42caaa13fa") false WW (fun _ h => by cases h) WS (fun _ h => by cases h) normalTextsUpto_row_tie rfl ⟨rfl, rfl⟩ WT rfl
    (fun f fn b g => by
      obtain rfl : f = 4 := Option.some.inj ((show Tryz.prog.funcNamed "supergraph/supergraphlaw19.NormalTexts" = some 4 by kernel_rfl).symm.trans b) |>.symm
      obtain rfl : fn = Tryz.f4 := (Option.some.inj (Tryz.func4.symm.trans g)).symm
      exact ⟨WU, fun j t ht => by
        rw [Tryz.params4] at ht
        have hm : t ∈ [24, 27, 27] := by simpa using Array.mem_of_getElem? ht
        have i : ([24, 27, 27].all fun u => !Tryz.prog.wantsStandIn u) = true := by kernel_rfl
        exact (show Tryz.prog.wantsStandIn t = false by simpa using List.all_eq_true.1 i t hm)⟩)
    WV
end Go.Proofs.YtbghdiaepdaaeaaGreatDoor

