import Derived.Test.YtimiconoebjfbaaDoorV3
set_option maxRecDepth 100000
set_option maxHeartbeats 2000000
set_option linter.unusedVariables false
set_option linter.unusedSimpArgs false
namespace Go.Proofs
open Go Go.Ab
open AOps Cert AWp
def vars_checker_sels_j9 (s13_4 : Nat) (k_next_3 : Nat → Vars_checker → Option Vars_checker) (y10_c0 : Vars_checker) : Option Vars_checker := k_next_3 (s13_4 + 1) y10_c0
def vars_checker_sels_j22 (a3 : Bs) (s13_4 : Nat) (x12 : TSel) (x20 : Vars_checker) (k_next_3 : Nat → Vars_checker → Option Vars_checker) (k_rec_25 : Vars_checker → (Sl TSel) → Bs → Bs → Option Vars_checker) (s10_23 : Bs) : Option Vars_checker := (k_rec_25 x20 x12.FSels s10_23 a3).bind fun x24 => vars_checker_sels_j9 s13_4 k_next_3 x24
def vars_checker_sels_l3 (a1 : (Sl TSel)) (a2 : Bs) (a3 : Bs) (k_rec_25 : Vars_checker → (Sl TSel) → Bs → Bs → Option Vars_checker) (k_rec_51 : Vars_checker → TSel → Bs → Bs → Option Vars_checker) : Nat → Nat → Vars_checker → Option Vars_checker
 | 0, _, _ => none
 | n3 + 1, s13_4, y5_c0 => bif (decide (((s13_4 : Nat) : Int) < ((a1.l.length : Nat) : Int))) then ((a1.l[s13_4]?).bind fun x12 => bif (decide (x12.FKind = (2 : Int))) then ((Z50 y5_c0 x12.FDirs a3).bind fun x16 => vars_checker_sels_j9 s13_4 ((vars_checker_sels_l3 a1 a2 a3 k_rec_25 k_rec_51 n3)) x16) else (bif (decide (x12.FKind = (3 : Int))) then ((Z50 y5_c0 x12.FDirs a3).bind fun x20 => bif (!(x12.FOn == ([] : Bs))) then (vars_checker_sels_j22 a3 s13_4 x12 x20 ((vars_checker_sels_l3 a1 a2 a3 k_rec_25 k_rec_51 n3)) k_rec_25 x12.FOn) else (vars_checker_sels_j22 a3 s13_4 x12 x20 ((vars_checker_sels_l3 a1 a2 a3 k_rec_25 k_rec_51 n3)) k_rec_25 a2)) else ((k_rec_51 y5_c0 x12 a2 a3).bind fun x27 => vars_checker_sels_j9 s13_4 ((vars_checker_sels_l3 a1 a2 a3 k_rec_25 k_rec_51 n3)) x27))) else (some y5_c0)
def Z51_j11 (a1 : TSel) (x7 : Bs) (y10_l0 : TField) (k_rec_25 : Vars_checker → (Sl TSel) → Bs → Bs → Option Vars_checker) (y12_c0 : Vars_checker) : Option Vars_checker := (Z50 y12_c0 a1.FDirs x7).bind fun x14 => (k_rec_25 x14 a1.FSels y10_l0.FType.FName x7).bind fun x15 => some x15
def Z51_l18 (a1 : TSel) (x7 : Bs) (y10_l0 : TField) (k_rec_25 : Vars_checker → (Sl TSel) → Bs → Bs → Option Vars_checker) : Nat → Nat → Vars_checker → Option Vars_checker
 | 0, _, _ => none
 | n18 + 1, s54_19, y20_c0 => bif (decide (((s54_19 : Nat) : Int) < ((a1.FArgs.l.length : Nat) : Int))) then ((a1.FArgs.l[s54_19]?).bind fun x26 => (Z19 y10_l0.FArgs x26.FName).bind fun x28 => (Z52 y20_c0 x26.FValue x28.1.FType x28.2 x7).bind fun x29 => (Z51_l18 a1 x7 y10_l0 k_rec_25 n18) (s54_19 + 1) x29) else (Z51_j11 a1 x7 y10_l0 k_rec_25 y20_c0)
def Z51_j9 (a0 : Vars_checker) (a1 : TSel) (x7 : Bs) (k_rec_25 : Vars_checker → (Sl TSel) → Bs → Bs → Option Vars_checker) (y10_l0 : TField) : Option Vars_checker := Z51_l18 a1 x7 y10_l0 k_rec_25 (a1.FArgs.l.length + 1) 0 a0
def Z51_j3 (a0 : Vars_checker) (a1 : TSel) (a2 : Bs) (a3 : Bs) (k_rec_25 : Vars_checker → (Sl TSel) → Bs → Bs → Option Vars_checker) (s8_4 : Bs) : Option Vars_checker := (catC ([47] : Bs) s8_4).bind fun x6 => (catC a3 x6).bind fun x7 => (Z18 a0.Fd a2).bind fun x31 => guardO (x31.2) (Z16 a0.Fd a2) false fun x33 => bif (x31.2 && x33) then ((Z17 x31.1 a1.FName).bind fun x35 => Z51_j9 a0 a1 x7 k_rec_25 x35.1) else (Z51_j9 a0 a1 x7 k_rec_25 TField.zero)
mutual
def vars_checker_sels_n : Nat → Vars_checker → (Sl TSel) → Bs → Bs → Option Vars_checker
 | 0, _, _, _, _ => none
 | n + 1, a0, a1, a2, a3 => vars_checker_sels_l3 a1 a2 a3 (vars_checker_sels_n n) (Z51_n n) (a1.l.length + 1) 0 a0
def Z51_n : Nat → Vars_checker → TSel → Bs → Bs → Option Vars_checker
 | 0, _, _, _, _ => none
 | n + 1, a0, a1, a2, a3 => bif ((a1.FAlias == ([] : Bs))) then (Z51_j3 a0 a1 a2 a3 (vars_checker_sels_n n) a1.FName) else (Z51_j3 a0 a1 a2 a3 (vars_checker_sels_n n) a1.FAlias)
end
theorem vars_checker_sels_step (n : Nat) (ih_25 : ∀ {a0 : Vars_checker} {a1 : (Sl TSel)} {a2 : Bs} {a3 : Bs} {w1 : Option Nat} {c0 : Nat} {c0_2 : Nat} {r : Vars_checker}, vars_checker_sels_n n a0 a1 a2 a3 = some r → ∀ (H : Heap) (hc0 : H c0 = some (.cells (Vars_checker.cg (some c0_2) a0))) (ht0_2 : H c0_2 = some (.tok 2 a0.Fout.l.length)), ACalls Tryd.prog 25 [.d (.ptr c0 0), .d (Sl.d 7 TSel.c w1 a1), .d (.str a2), .d (.str a3)] H fun v h' => v = .tup [] ∧ h' = ((H.set c0_2 (some (.tok 2 r.Fout.l.length))).set c0 (some (.cells (Vars_checker.cg (some c0_2) r))))) (ih_51 : ∀ {a0 : Vars_checker} {a1 : TSel} {a2 : Bs} {a3 : Bs}  {c0 : Nat} {c0_2 : Nat} {r : Vars_checker}, Z51_n n a0 a1 a2 a3 = some r → ∀ (H : Heap) (hc0 : H c0 = some (.cells (Vars_checker.cg (some c0_2) a0))) (ht0_2 : H c0_2 = some (.tok 2 a0.Fout.l.length)), ACalls Tryd.prog 51 [.d (.ptr c0 0), .agg (TSel.c a1), .d (.str a2), .d (.str a3)] H fun v h' => v = .tup [] ∧ h' = ((H.set c0_2 (some (.tok 2 r.Fout.l.length))).set c0 (some (.cells (Vars_checker.cg (some c0_2) r))))) : ∀ {a0 : Vars_checker} {a1 : (Sl TSel)} {a2 : Bs} {a3 : Bs} {w1 : Option Nat} {c0 : Nat} {c0_2 : Nat} {r : Vars_checker}, vars_checker_sels_n (n + 1) a0 a1 a2 a3 = some r → ∀ (H : Heap) (hc0 : H c0 = some (.cells (Vars_checker.cg (some c0_2) a0))) (ht0_2 : H c0_2 = some (.tok 2 a0.Fout.l.length)), ACalls Tryd.prog 25 [.d (.ptr c0 0), .d (Sl.d 7 TSel.c w1 a1), .d (.str a2), .d (.str a3)] H fun v h' => v = .tup [] ∧ h' = ((H.set c0_2 (some (.tok 2 r.Fout.l.length))).set c0 (some (.cells (Vars_checker.cg (some c0_2) r)))) := by
 intro a0 a1 a2 a3 w1 c0 c0_2 r hE H hc0 ht0_2
 rw [vars_checker_sels_n] at hE
 refine ACalls.of_wp (fn := Tryd.f25) (c := _) Tryd.tab_ok (fun _ _ => Tryd.call25 _ _) Tryd.func25 rfl (n := 51) rfl (rs := []) rfl rfl ?_
 have ne_c0_c0_2 : c0 ≠ c0_2 := fun e_ => by subst e_; simp_all
 refine AWp.heqA (h' := ((H.set c0_2 (some (.tok 2 a0.Fout.l.length))).set c0 (some (.cells (Vars_checker.cg (some c0_2) a0))))) (by funext n_; simp only [Heap.set]; (repeat' split) <;> simp_all) ?_
 refine seqK fun K1 hK1 => ?_
 refine region ?_
 refine s0 moveA rfl ?_
 refine sLen (f := TSel.c) (s := a1) (TK rfl) rfl rfl rfl rfl fun hL2 => ?_
 refine s0 moveA rfl ?_
 refine nil ?_
 refine hK1 _ ?_
 clear hK1 K1
 refine block ?_
 refine loopH (KeepsT.A (k := 0) (KeepsT.A (k := 2) (KeepsT.A (k := 3) (KeepsT.A (k := 11) (KeepsT.A (k := 12) KeepsT.nil))))) (fun (z : Nat × Nat × Vars_checker) => [(13, .a (.d (.int .i64 ((z.2.1 : Nat) : Int))))]) (fun z => ((H.set c0_2 (some (.tok 2 z.2.2.Fout.l.length))).set c0 (some (.cells (Vars_checker.cg (some c0_2) z.2.2))))) (fun z => z.1) (fun z => vars_checker_sels_l3 a1 a2 a3 (vars_checker_sels_n n) (Z51_n n) z.1 z.2.1 z.2.2 = some r) ((a1.l.length + 1), 0, a0) hE Weak.toA ?_
 rintro ⟨n3, s13_4, y5_c0⟩ hE K3 hK3
 try dsimp only at hE
 cases n3 with
 | zero => cases hE
 | succ n3 =>
   rw [vars_checker_sels_l3] at hE
   refine seqK fun K6 hK6 => ?_
   refine region ?_
   refine s0 (binI rfl rfl rfl) rfl ?_
   refine nil ?_
   refine hK6 _ ?_
   clear hK6 K6
   refine seqK fun K7 hK7 => ?_
   refine condE hE rfl (fun hc8 hE => ?_) (fun hc8 hE => ?_)
   ·try dsimp only at hc8
    have hf8 := of_decide_eq_true hc8
    refine AWp.skip ?_
    refine hK7 _ ?_
    clear hK7 K7
    refine seqJH (KeepsT.A (k := 0) (KeepsT.A (k := 2) (KeepsT.A (k := 3) (KeepsT.A (k := 11) (KeepsT.A (k := 12) (KeepsT.A (k := 13) KeepsT.nil)))))) (fun (z : Vars_checker) => []) (fun z => ((H.set c0_2 (some (.tok 2 z.Fout.l.length))).set c0 (some (.cells (Vars_checker.cg (some c0_2) z))))) (fun z => vars_checker_sels_j9 s13_4 ((vars_checker_sels_l3 a1 a2 a3 (vars_checker_sels_n n) (Z51_n n) n3)) z = some r) ?_ ?_
    ·intro K9 hK9
     refine block ?_
     refine seqK fun K11 hK11 => ?_
     refine region ?_
     obtain ⟨x12, gx12, hE⟩ := bindO_some hE
     refine s0 (idxMn (f := TSel.c) (n := s13_4) (TK rfl) rfl (TK rfl) rfl rfl rfl gx12) rfl ?_
     refine s0 (loadV (TK rfl) rfl rfl rfl) rfl ?_
     refine sL (allocLA (TK rfl) rfl) rfl ?_
     refine sLn (storeLFA (TK rfl) rfl rfl rfl rfl rfl) ?_
     refine nil ?_
     refine hK11 _ ?_
     clear hK11 K11
     refine freezeA 9 _ rfl (Keeps.c (k := 0) (by conv => lhs; whnf) (by rfl) (Keeps.c (k := 2) (by conv => lhs; whnf) (by rfl) (Keeps.c (k := 3) (by conv => lhs; whnf) (by rfl) (Keeps.c (k := 11) (by conv => lhs; whnf) (by rfl) (Keeps.c (k := 12) (by conv => lhs; whnf) (by rfl) (Keeps.c (k := 13) (by conv => lhs; whnf) (by rfl) Keeps.nil)))))) ?_
     refine seqK fun K13 hK13 => ?_
     refine region ?_
     refine s0 (fieldVA (TK rfl) rfl rfl (TK rfl) rfl rfl) rfl ?_
     refine s0 (loadV (TK rfl) rfl rfl rfl) rfl ?_
     refine nil ?_
     refine hK13 _ ?_
     clear hK13 K13
     refine block ?_
     refine seqK fun K14 hK14 => ?_
     refine region ?_
     refine s0 (binI rfl rfl rfl) rfl ?_
     refine s0 assignA rfl ?_
     refine nil ?_
     refine hK14 _ ?_
     clear hK14 K14
     refine condE hE rfl (fun hc15 hE => ?_) (fun hc15 hE => ?_)
     ·refine region ?_
      refine s0 moveA rfl ?_
      refine s0 (fieldVA (TK rfl) rfl rfl (TK rfl) rfl rfl) rfl ?_
      refine s0 (loadV (TK rfl) rfl rfl rfl) rfl ?_
      refine s0 moveA rfl ?_
      obtain ⟨x16, gx16, hE⟩ := bindO_some hE
      refine sH (callH rfl rfl (Z50_walk gx16 _ hpG hpG)) rfl ?_
      refine AOps.heq (h' := ((H.set c0_2 (some (.tok 2 x16.Fout.l.length))).set c0 (some (.cells (Vars_checker.cg (some c0_2) x16))))) (by first | rfl | (rw [Heap.set_set]; rfl) | (funext n_; simp only [Heap.set]; (repeat' split) <;> first | rfl | (exfalso; simp_all; done) | (simp_all; done))) ?_
      refine nil ?_
      exact hK9 _ x16 Weak.toA hE
     refine seqK fun K17 hK17 => ?_
     refine region ?_
     refine s0 (binI rfl rfl rfl) rfl ?_
     refine s0 assignA rfl ?_
     refine nil ?_
     refine hK17 _ ?_
     clear hK17 K17
     refine condE hE rfl (fun hc18 hE => ?_) (fun hc18 hE => ?_)
     ·refine seqK fun K19 hK19 => ?_
      refine region ?_
      refine s0 moveA rfl ?_
      refine s0 (fieldVA (TK rfl) rfl rfl (TK rfl) rfl rfl) rfl ?_
      refine s0 (loadV (TK rfl) rfl rfl rfl) rfl ?_
      refine s0 moveA rfl ?_
      obtain ⟨x20, gx20, hE⟩ := bindO_some hE
      refine sH (callH rfl rfl (Z50_walk gx20 _ hpG hpG)) rfl ?_
      refine AOps.heq (h' := ((H.set c0_2 (some (.tok 2 x20.Fout.l.length))).set c0 (some (.cells (Vars_checker.cg (some c0_2) x20))))) (by first | rfl | (rw [Heap.set_set]; rfl) | (funext n_; simp only [Heap.set]; (repeat' split) <;> first | rfl | (exfalso; simp_all; done) | (simp_all; done))) ?_
      refine nil ?_
      refine hK19 _ ?_
      clear hK19 K19
      refine seqK fun K21 hK21 => ?_
      refine region ?_
      refine s0 moveA rfl ?_
      refine s0 assignA rfl ?_
      refine nil ?_
      refine hK21 _ ?_
      clear hK21 K21
      refine seqJH (KeepsT.A (k := 0) (KeepsT.A (k := 2) (KeepsT.A (k := 3) (KeepsT.A (k := 9) (KeepsT.A (k := 11) (KeepsT.A (k := 12) (KeepsT.A (k := 13) KeepsT.nil))))))) (fun (z : Bs) => [(10, .a (.d (.str z)))]) (fun z => ((H.set c0_2 (some (.tok 2 x20.Fout.l.length))).set c0 (some (.cells (Vars_checker.cg (some c0_2) x20))))) (fun z => vars_checker_sels_j22 a3 s13_4 x12 x20 ((vars_checker_sels_l3 a1 a2 a3 (vars_checker_sels_n n) (Z51_n n) n3)) (vars_checker_sels_n n) z = some r) ?_ ?_
      ·intro K22 hK22
       refine seqK fun K25 hK25 => ?_
       refine region ?_
       refine s0 (fieldVA (TK rfl) rfl rfl (TK rfl) rfl rfl) rfl ?_
       refine s0 (loadV (TK rfl) rfl rfl rfl) rfl ?_
       refine s0 (binS rfl rfl rfl) rfl ?_
       refine nil ?_
       refine hK25 _ ?_
       clear hK25 K25
       refine condE hE rfl (fun hc26 hE => ?_) (fun hc26 hE => ?_)
       ·refine region ?_
        refine s0 (fieldVA (TK rfl) rfl rfl (TK rfl) rfl rfl) rfl ?_
        refine s0 (loadV (TK rfl) rfl rfl rfl) rfl ?_
        refine s0 assignA rfl ?_
        refine nil ?_
        exact hK22 _ x12.FOn Weak.toA hE
       refine AWp.skip ?_
       exact hK22 _ a2 Weak.toA hE
      rintro s10_23 hE
      try dsimp only at hE
      unfold vars_checker_sels_j22 at hE
      refine region ?_
      refine s0 moveA rfl ?_
      refine s0 (fieldVA (TK rfl) rfl rfl (TK rfl) rfl rfl) rfl ?_
      refine s0 (loadV (TK rfl) rfl rfl (congrArg (fun x => some (A.d x)) (TSel.FSelsD_eq _))) rfl ?_
      refine s0 moveA rfl ?_
      refine s0 moveA rfl ?_
      obtain ⟨x24, gx24, hE⟩ := bindO_some hE
      refine sH (callH rfl rfl (ih_25 gx24 _ hpG hpG)) rfl ?_
      refine AOps.heq (h' := ((H.set c0_2 (some (.tok 2 x24.Fout.l.length))).set c0 (some (.cells (Vars_checker.cg (some c0_2) x24))))) (by first | rfl | (rw [Heap.set_set]; rfl) | (funext n_; simp only [Heap.set]; (repeat' split) <;> first | rfl | (exfalso; simp_all; done) | (simp_all; done))) ?_
      refine nil ?_
      exact hK9 _ x24 Weak.toA hE
     refine region ?_
     refine s0 moveA rfl ?_
     refine s0 (loadV (TK rfl) rfl rfl rfl) rfl ?_
     refine s0 moveA rfl ?_
     refine s0 moveA rfl ?_
     obtain ⟨x27, gx27, hE⟩ := bindO_some hE
     refine sH (callH rfl rfl (ih_51 gx27 _ hpG hpG)) rfl ?_
     refine AOps.heq (h' := ((H.set c0_2 (some (.tok 2 x27.Fout.l.length))).set c0 (some (.cells (Vars_checker.cg (some c0_2) x27))))) (by first | rfl | (rw [Heap.set_set]; rfl) | (funext n_; simp only [Heap.set]; (repeat' split) <;> first | rfl | (exfalso; simp_all; done) | (simp_all; done))) ?_
     refine nil ?_
     exact hK9 _ x27 Weak.toA hE
    rintro y10_c0 hE
    try dsimp only at hE
    unfold vars_checker_sels_j9 at hE
    refine region ?_
    refine s0 (addIA rfl rfl) rfl ?_
    refine s0 moveA rfl ?_
    refine nil ?_
    exact hK3 _ (n3, (s13_4 + 1), y10_c0) Weak.toA hE (Nat.lt_succ_self _)
   refine AWp.exit ?_
   repeat (first | refine xBlock_normal ?_ | refine xThen_exit ?_ | refine xBlock_exit ?_)
   obtain rfl := Option.some.inj hE
   refine retQ.normalF ((H.set c0_2 (some (.tok 2 y5_c0.Fout.l.length))).set c0 (some (.cells (Vars_checker.cg (some c0_2) y5_c0)))) (xs := []) rfl ⟨rfl, rfl⟩ ?_
   exact (fun _ _ h => h)
theorem Z51_step (n : Nat) (ih_25 : ∀ {a0 : Vars_checker} {a1 : (Sl TSel)} {a2 : Bs} {a3 : Bs} {w1 : Option Nat} {c0 : Nat} {c0_2 : Nat} {r : Vars_checker}, vars_checker_sels_n n a0 a1 a2 a3 = some r → ∀ (H : Heap) (hc0 : H c0 = some (.cells (Vars_checker.cg (some c0_2) a0))) (ht0_2 : H c0_2 = some (.tok 2 a0.Fout.l.length)), ACalls Tryd.prog 25 [.d (.ptr c0 0), .d (Sl.d 7 TSel.c w1 a1), .d (.str a2), .d (.str a3)] H fun v h' => v = .tup [] ∧ h' = ((H.set c0_2 (some (.tok 2 r.Fout.l.length))).set c0 (some (.cells (Vars_checker.cg (some c0_2) r))))) (ih_51 : ∀ {a0 : Vars_checker} {a1 : TSel} {a2 : Bs} {a3 : Bs}  {c0 : Nat} {c0_2 : Nat} {r : Vars_checker}, Z51_n n a0 a1 a2 a3 = some r → ∀ (H : Heap) (hc0 : H c0 = some (.cells (Vars_checker.cg (some c0_2) a0))) (ht0_2 : H c0_2 = some (.tok 2 a0.Fout.l.length)), ACalls Tryd.prog 51 [.d (.ptr c0 0), .agg (TSel.c a1), .d (.str a2), .d (.str a3)] H fun v h' => v = .tup [] ∧ h' = ((H.set c0_2 (some (.tok 2 r.Fout.l.length))).set c0 (some (.cells (Vars_checker.cg (some c0_2) r))))) : ∀ {a0 : Vars_checker} {a1 : TSel} {a2 : Bs} {a3 : Bs}  {c0 : Nat} {c0_2 : Nat} {r : Vars_checker}, Z51_n (n + 1) a0 a1 a2 a3 = some r → ∀ (H : Heap) (hc0 : H c0 = some (.cells (Vars_checker.cg (some c0_2) a0))) (ht0_2 : H c0_2 = some (.tok 2 a0.Fout.l.length)), ACalls Tryd.prog 51 [.d (.ptr c0 0), .agg (TSel.c a1), .d (.str a2), .d (.str a3)] H fun v h' => v = .tup [] ∧ h' = ((H.set c0_2 (some (.tok 2 r.Fout.l.length))).set c0 (some (.cells (Vars_checker.cg (some c0_2) r)))) := by
 intro a0 a1 a2 a3  c0 c0_2 r hE H hc0 ht0_2
 rw [Z51_n] at hE
 refine ACalls.of_wp (fn := Tryd.f51) (c := _) Tryd.tab_ok (fun _ _ => Tryd.call51 _ _) Tryd.func51 rfl (n := 88) rfl (rs := []) rfl rfl ?_
 have ne_c0_c0_2 : c0 ≠ c0_2 := fun e_ => by subst e_; simp_all
 refine AWp.heqA (h' := ((H.set c0_2 (some (.tok 2 a0.Fout.l.length))).set c0 (some (.cells (Vars_checker.cg (some c0_2) a0))))) (by funext n_; simp only [Heap.set]; (repeat' split) <;> simp_all) ?_
 refine seqK fun K1 hK1 => ?_
 refine region ?_
 refine s0 (boxV rfl) rfl ?_
 refine nil ?_
 refine hK1 _ ?_
 clear hK1 K1
 refine seqK fun K2 hK2 => ?_
 refine region ?_
 refine s0 (fieldVA (TK rfl) rfl rfl (TK rfl) rfl rfl) rfl ?_
 refine s0 (loadV (TK rfl) rfl rfl rfl) rfl ?_
 refine s0 assignA rfl ?_
 refine nil ?_
 refine hK2 _ ?_
 clear hK2 K2
 refine seqJH (KeepsT.A (k := 0) (KeepsT.A (k := 2) (KeepsT.A (k := 3) (KeepsT.A (k := 5) KeepsT.nil)))) (fun (z : Bs) => [(8, .a (.d (.str z)))]) (fun z => ((H.set c0_2 (some (.tok 2 a0.Fout.l.length))).set c0 (some (.cells (Vars_checker.cg (some c0_2) a0))))) (fun z => Z51_j3 a0 a1 a2 a3 (vars_checker_sels_n n) z = some r) ?_ ?_
 ·intro K3 hK3
  refine seqK fun K36 hK36 => ?_
  refine region ?_
  refine s0 moveA rfl ?_
  refine s0 (binS rfl rfl rfl) rfl ?_
  refine nil ?_
  refine hK36 _ ?_
  clear hK36 K36
  refine condE hE rfl (fun hc37 hE => ?_) (fun hc37 hE => ?_)
  ·refine region ?_
   refine s0 (fieldVA (TK rfl) rfl rfl (TK rfl) rfl rfl) rfl ?_
   refine s0 (loadV (TK rfl) rfl rfl rfl) rfl ?_
   refine s0 assignA rfl ?_
   refine nil ?_
   exact hK3 _ a1.FName Weak.toA hE
  refine AWp.skip ?_
  exact hK3 _ a1.FAlias Weak.toA hE
 rintro s8_4 hE
 try dsimp only at hE
 unfold Z51_j3 at hE
 refine seqK fun K5 hK5 => ?_
 refine region ?_
 refine s0 moveA rfl ?_
 refine s0 moveA rfl ?_
 obtain ⟨x6, gx6, hE⟩ := bindO_some hE
 refine s0 (catM rfl rfl gx6) rfl ?_
 obtain ⟨x7, gx7, hE⟩ := bindO_some hE
 refine s0 (catM rfl rfl gx7) rfl ?_
 refine s0 assignA rfl ?_
 refine nil ?_
 refine hK5 _ ?_
 clear hK5 K5
 refine seqK fun K8 hK8 => ?_
 refine region ?_
 refine sL (allocLA (TK rfl) rfl) rfl ?_
 refine nil ?_
 refine hK8 _ ?_
 clear hK8 K8
 refine seqJ (KeepsT.A (k := 0) (KeepsT.A (k := 3) (KeepsT.A (k := 5) (KeepsT.A (k := 9) KeepsT.nil)))) (fun (z : TField) => []) (fun z => [TField.c z]) (fun z => ((H.set c0_2 (some (.tok 2 a0.Fout.l.length))).set c0 (some (.cells (Vars_checker.cg (some c0_2) a0))))) (fun z => Z51_j9 a0 a1 x7 (vars_checker_sels_n n) z = some r) ?_ ?_
 ·intro K9 hK9
  refine seqK fun K30 hK30 => ?_
  refine region ?_
  refine s0 moveA rfl ?_
  refine s0 (nilP rfl) rfl ?_
  refine s0 (fieldP (TK rfl) rfl rfl (TK rfl) rfl rfl) rfl ?_
  refine s0 (loadP (TK rfl) rfl rfl hpG rfl) rfl ?_
  refine s0 moveA rfl ?_
  obtain ⟨x31, gx31, hE⟩ := bindO_some hE
  refine s0 (callP rfl rfl (fun H => Z18_walk gx31 H)) rfl ?_
  refine s0 moveA rfl ?_
  refine s0 (extract rfl rfl) rfl ?_
  refine s0 (extract rfl rfl) rfl ?_
  refine sL (allocLA (TK rfl) rfl) rfl ?_
  refine sLn (storeLFA (TK rfl) rfl rfl rfl rfl rfl) ?_
  refine s0 assignA rfl ?_
  refine nil ?_
  refine hK30 _ ?_
  clear hK30 K30
  refine freezeA 10 _ rfl (Keeps.c (k := 0) (by conv => lhs; whnf) (by rfl) (Keeps.c (k := 2) (by conv => lhs; whnf) (by rfl) (Keeps.c (k := 3) (by conv => lhs; whnf) (by rfl) (Keeps.c (k := 5) (by conv => lhs; whnf) (by rfl) (Keeps.c (k := 9) (by conv => lhs; whnf) (by rfl) (Keeps.c (k := 11) (by conv => lhs; whnf) (by rfl) Keeps.nil)))))) ?_
  refine seqK fun K32 hK32 => ?_
  refine region ?_
  refine s0 moveA rfl ?_
  refine s0 moveA rfl ?_
  refine gC rfl rfl (fun hC => moveA) rfl ?_
  refine gC rfl rfl (fun hC => ungdA (k := 37) rfl (nilP rfl)) rfl ?_
  refine gC rfl rfl (fun hC => ungdA (k := 38) rfl (fieldP (TK rfl) rfl rfl (TK rfl) rfl rfl)) rfl ?_
  refine gC rfl rfl (fun hC => ungdA (k := 39) rfl (loadP (TK rfl) rfl rfl hpG rfl)) rfl ?_
  refine gC rfl rfl (fun hC => moveA) rfl ?_
  obtain ⟨x33, gx33, hE⟩ := guardO_some hE
  refine gC rfl rfl (fun hC => ungdA (k := 40) rfl (ungdA (k := 41) rfl (callP rfl rfl (fun H => Z16_walk (gx33 hC) H)))) rfl ?_
  refine s0 (pickAndA rfl rfl rfl) rfl ?_
  refine nil ?_
  refine hK32 _ ?_
  clear hK32 K32
  refine condE hE rfl (fun hc34 hE => ?_) (fun hc34 hE => ?_)
  ·refine region ?_
   refine s0 (loadV (TK rfl) rfl rfl rfl) rfl ?_
   refine s0 (fieldVA (TK rfl) rfl rfl (TK rfl) rfl rfl) rfl ?_
   refine s0 (loadV (TK rfl) rfl rfl rfl) rfl ?_
   obtain ⟨x35, gx35, hE⟩ := bindO_some hE
   refine s0 (callP rfl rfl (fun H => Z17_walk gx35 H)) rfl ?_
   refine s0 moveA rfl ?_
   refine s0 (extract rfl rfl) rfl ?_
   refine s0 (extract rfl rfl) rfl ?_
   refine sLn (storeLFA (TK rfl) rfl rfl rfl rfl rfl) ?_
   refine nil ?_
   exact hK9 _ x35.1 Weak.toA hE
  refine AWp.skip ?_
  exact hK9 _ TField.zero Weak.toA hE
 rintro y10_l0 hE
 try dsimp only at hE
 unfold Z51_j9 at hE
 refine seqJH (KeepsT.A (k := 0) (KeepsT.A (k := 3) (KeepsT.A (k := 5) (KeepsT.A (k := 9) KeepsT.nil)))) (fun (z : Vars_checker) => []) (fun z => ((H.set c0_2 (some (.tok 2 z.Fout.l.length))).set c0 (some (.cells (Vars_checker.cg (some c0_2) z))))) (fun z => Z51_j11 a1 x7 y10_l0 (vars_checker_sels_n n) z = some r) ?_ ?_
 ·intro K11 hK11
  refine seqK fun K16 hK16 => ?_
  refine region ?_
  refine s0 (fieldVA (TK rfl) rfl rfl (TK rfl) rfl rfl) rfl ?_
  refine s0 (loadV (TK rfl) rfl rfl rfl) rfl ?_
  refine sLen (f := TArg.c) (s := a1.FArgs) (TK rfl) rfl rfl rfl rfl fun hL17 => ?_
  refine s0 moveA rfl ?_
  refine nil ?_
  refine hK16 _ ?_
  clear hK16 K16
  refine block ?_
  refine loopH (KeepsT.A (k := 0) (KeepsT.A (k := 3) (KeepsT.A (k := 5) (KeepsT.A (k := 9) (KeepsT.A (k := 52) (KeepsT.A (k := 53) KeepsT.nil)))))) (fun (z : Nat × Nat × Vars_checker) => [(54, .a (.d (.int .i64 ((z.2.1 : Nat) : Int))))]) (fun z => ((H.set c0_2 (some (.tok 2 z.2.2.Fout.l.length))).set c0 (some (.cells (Vars_checker.cg (some c0_2) z.2.2))))) (fun z => z.1) (fun z => Z51_l18 a1 x7 y10_l0 (vars_checker_sels_n n) z.1 z.2.1 z.2.2 = some r) ((a1.FArgs.l.length + 1), 0, a0) hE Weak.toA ?_
  rintro ⟨n18, s54_19, y20_c0⟩ hE K18 hK18
  try dsimp only at hE
  cases n18 with
  | zero => cases hE
  | succ n18 =>
    rw [Z51_l18] at hE
    refine seqK fun K21 hK21 => ?_
    refine region ?_
    refine s0 (binI rfl rfl rfl) rfl ?_
    refine nil ?_
    refine hK21 _ ?_
    clear hK21 K21
    refine seqK fun K22 hK22 => ?_
    refine condE hE rfl (fun hc23 hE => ?_) (fun hc23 hE => ?_)
    ·try dsimp only at hc23
     have hf23 := of_decide_eq_true hc23
     refine AWp.skip ?_
     refine hK22 _ ?_
     clear hK22 K22
     refine seqK fun K24 hK24 => ?_
     refine block ?_
     refine seqK fun K25 hK25 => ?_
     refine region ?_
     obtain ⟨x26, gx26, hE⟩ := bindO_some hE
     refine s0 (idxMn (f := TArg.c) (n := s54_19) (TK rfl) rfl (TK rfl) rfl rfl rfl gx26) rfl ?_
     refine s0 (loadV (TK rfl) rfl rfl rfl) rfl ?_
     refine sL (allocLA (TK rfl) rfl) rfl ?_
     refine sLn (storeLFA (TK rfl) rfl rfl rfl rfl rfl) ?_
     refine nil ?_
     refine hK25 _ ?_
     clear hK25 K25
     refine freezeA 13 _ rfl (Keeps.c (k := 0) (by conv => lhs; whnf) (by rfl) (Keeps.c (k := 3) (by conv => lhs; whnf) (by rfl) (Keeps.c (k := 5) (by conv => lhs; whnf) (by rfl) (Keeps.c (k := 9) (by conv => lhs; whnf) (by rfl) (Keeps.c (k := 52) (by conv => lhs; whnf) (by rfl) (Keeps.c (k := 53) (by conv => lhs; whnf) (by rfl) (Keeps.c (k := 54) (by conv => lhs; whnf) (by rfl) Keeps.nil))))))) ?_
     refine seqK fun K27 hK27 => ?_
     refine region ?_
     refine s0 (fieldL (TK rfl) rfl rfl (TK rfl) rfl rfl) rfl ?_
     refine s0 (loadL (TK rfl) rfl rfl rfl rfl) rfl ?_
     refine s0 (fieldVA (TK rfl) rfl rfl (TK rfl) rfl rfl) rfl ?_
     refine s0 (loadV (TK rfl) rfl rfl rfl) rfl ?_
     obtain ⟨x28, gx28, hE⟩ := bindO_some hE
     refine s0 (callP rfl rfl (fun H => Z19_walk gx28 H)) rfl ?_
     refine s0 moveA rfl ?_
     refine s0 (extract rfl rfl) rfl ?_
     refine s0 (extract rfl rfl) rfl ?_
     refine sL (allocLA (TK rfl) rfl) rfl ?_
     refine sLn (storeLFA (TK rfl) rfl rfl rfl rfl rfl) ?_
     refine s0 assignA rfl ?_
     refine nil ?_
     refine hK27 _ ?_
     clear hK27 K27
     refine freezeA 14 _ rfl (Keeps.c (k := 0) (by conv => lhs; whnf) (by rfl) (Keeps.c (k := 3) (by conv => lhs; whnf) (by rfl) (Keeps.c (k := 5) (by conv => lhs; whnf) (by rfl) (Keeps.c (k := 9) (by conv => lhs; whnf) (by rfl) (Keeps.c (k := 13) (by conv => lhs; whnf) (by rfl) (Keeps.c (k := 15) (by conv => lhs; whnf) (by rfl) (Keeps.c (k := 52) (by conv => lhs; whnf) (by rfl) (Keeps.c (k := 53) (by conv => lhs; whnf) (by rfl) (Keeps.c (k := 54) (by conv => lhs; whnf) (by rfl) Keeps.nil))))))))) ?_
     refine region ?_
     refine s0 moveA rfl ?_
     refine s0 (fieldVA (TK rfl) rfl rfl (TK rfl) rfl rfl) rfl ?_
     refine s0 (loadV (TK rfl) rfl rfl rfl) rfl ?_
     refine s0 (fieldVA (TK rfl) rfl rfl (TK rfl) rfl rfl) rfl ?_
     refine s0 (loadV (TK rfl) rfl rfl rfl) rfl ?_
     refine s0 moveA rfl ?_
     refine s0 moveA rfl ?_
     obtain ⟨x29, gx29, hE⟩ := bindO_some hE
     refine sH (callH rfl rfl (Z52_walk gx29 _ hpG hpG)) rfl ?_
     refine AOps.heq (h' := ((H.set c0_2 (some (.tok 2 x29.Fout.l.length))).set c0 (some (.cells (Vars_checker.cg (some c0_2) x29))))) (by first | rfl | (rw [Heap.set_set]; rfl) | (funext n_; simp only [Heap.set]; (repeat' split) <;> first | rfl | (exfalso; simp_all; done) | (simp_all; done))) ?_
     refine nil ?_
     refine hK24 _ ?_
     clear hK24 K24
     refine region ?_
     refine s0 (addIA rfl rfl) rfl ?_
     refine s0 moveA rfl ?_
     refine nil ?_
     exact hK18 _ (n18, (s54_19 + 1), x29) Weak.toA hE (Nat.lt_succ_self _)
    refine AWp.exit ?_
    exact hK11 _ y20_c0 Weak.toA hE
 rintro y12_c0 hE
 try dsimp only at hE
 unfold Z51_j11 at hE
 refine seqK fun K13 hK13 => ?_
 refine region ?_
 refine s0 moveA rfl ?_
 refine s0 (fieldVA (TK rfl) rfl rfl (TK rfl) rfl rfl) rfl ?_
 refine s0 (loadV (TK rfl) rfl rfl rfl) rfl ?_
 refine s0 moveA rfl ?_
 obtain ⟨x14, gx14, hE⟩ := bindO_some hE
 refine sH (callH rfl rfl (Z50_walk gx14 _ hpG hpG)) rfl ?_
 refine AOps.heq (h' := ((H.set c0_2 (some (.tok 2 x14.Fout.l.length))).set c0 (some (.cells (Vars_checker.cg (some c0_2) x14))))) (by first | rfl | (rw [Heap.set_set]; rfl) | (funext n_; simp only [Heap.set]; (repeat' split) <;> first | rfl | (exfalso; simp_all; done) | (simp_all; done))) ?_
 refine nil ?_
 refine hK13 _ ?_
 clear hK13 K13
 refine region ?_
 refine s0 moveA rfl ?_
 refine s0 (fieldVA (TK rfl) rfl rfl (TK rfl) rfl rfl) rfl ?_
 refine s0 (loadV (TK rfl) rfl rfl (congrArg (fun x => some (A.d x)) (TSel.FSelsD_eq _))) rfl ?_
 refine s0 (fieldL (TK rfl) rfl rfl (TK rfl) rfl rfl) rfl ?_
 refine s0 (fieldL (TK rfl) rfl rfl (TK rfl) rfl rfl) rfl ?_
 refine s0 (loadL (TK rfl) rfl rfl rfl rfl) rfl ?_
 refine s0 moveA rfl ?_
 obtain ⟨x15, gx15, hE⟩ := bindO_some hE
 refine sH (callH rfl rfl (ih_25 gx15 _ hpG hpG)) rfl ?_
 refine AOps.heq (h' := ((H.set c0_2 (some (.tok 2 x15.Fout.l.length))).set c0 (some (.cells (Vars_checker.cg (some c0_2) x15))))) (by first | rfl | (rw [Heap.set_set]; rfl) | (funext n_; simp only [Heap.set]; (repeat' split) <;> first | rfl | (exfalso; simp_all; done) | (simp_all; done))) ?_
 refine nil ?_
 repeat (first | refine xBlock_normal ?_ | refine xThen_exit ?_ | refine xBlock_exit ?_)
 obtain rfl := Option.some.inj hE
 refine retQ.normalF ((H.set c0_2 (some (.tok 2 x15.Fout.l.length))).set c0 (some (.cells (Vars_checker.cg (some c0_2) x15)))) (xs := []) rfl ⟨rfl, rfl⟩ ?_
 exact (fun _ _ h => h)
theorem vars_checker_sels_all : ∀ (n : Nat), (∀ {a0 : Vars_checker} {a1 : (Sl TSel)} {a2 : Bs} {a3 : Bs} {w1 : Option Nat} {c0 : Nat} {c0_2 : Nat} {r : Vars_checker}, vars_checker_sels_n n a0 a1 a2 a3 = some r → ∀ (H : Heap) (hc0 : H c0 = some (.cells (Vars_checker.cg (some c0_2) a0))) (ht0_2 : H c0_2 = some (.tok 2 a0.Fout.l.length)), ACalls Tryd.prog 25 [.d (.ptr c0 0), .d (Sl.d 7 TSel.c w1 a1), .d (.str a2), .d (.str a3)] H fun v h' => v = .tup [] ∧ h' = ((H.set c0_2 (some (.tok 2 r.Fout.l.length))).set c0 (some (.cells (Vars_checker.cg (some c0_2) r))))) ∧ (∀ {a0 : Vars_checker} {a1 : TSel} {a2 : Bs} {a3 : Bs}  {c0 : Nat} {c0_2 : Nat} {r : Vars_checker}, Z51_n n a0 a1 a2 a3 = some r → ∀ (H : Heap) (hc0 : H c0 = some (.cells (Vars_checker.cg (some c0_2) a0))) (ht0_2 : H c0_2 = some (.tok 2 a0.Fout.l.length)), ACalls Tryd.prog 51 [.d (.ptr c0 0), .agg (TSel.c a1), .d (.str a2), .d (.str a3)] H fun v h' => v = .tup [] ∧ h' = ((H.set c0_2 (some (.tok 2 r.Fout.l.length))).set c0 (some (.cells (Vars_checker.cg (some c0_2) r)))))
 | 0 => ⟨fun hE => by first | cases hE | (rw [vars_checker_sels_n] at hE; cases hE), fun hE => by first | cases hE | (rw [Z51_n] at hE; cases hE)⟩
 | n + 1 => ⟨vars_checker_sels_step n (vars_checker_sels_all n).1 (vars_checker_sels_all n).2, Z51_step n (vars_checker_sels_all n).1 (vars_checker_sels_all n).2⟩
def vars_checker_sels (a0 : Vars_checker) (a1 : (Sl TSel)) (a2 : Bs) (a3 : Bs) : Option Vars_checker := vars_checker_sels_n F0 a0 a1 a2 a3
theorem vars_checker_sels_walk {a0 : Vars_checker} {a1 : (Sl TSel)} {a2 : Bs} {a3 : Bs} {w1 : Option Nat} {c0 : Nat} {c0_2 : Nat} {r : Vars_checker} (hE : vars_checker_sels a0 a1 a2 a3 = some r) (H : Heap) (hc0 : H c0 = some (.cells (Vars_checker.cg (some c0_2) a0))) (ht0_2 : H c0_2 = some (.tok 2 a0.Fout.l.length)) : ACalls Tryd.prog 25 [.d (.ptr c0 0), .d (Sl.d 7 TSel.c w1 a1), .d (.str a2), .d (.str a3)] H fun v h' => v = .tup [] ∧ h' = ((H.set c0_2 (some (.tok 2 r.Fout.l.length))).set c0 (some (.cells (Vars_checker.cg (some c0_2) r)))) := (vars_checker_sels_all F0).1 hE H hc0 ht0_2
def Z22 (a0 : Int) : Option Bs := bif (decide (a0 = (1 : Int))) then (some ([81, 117, 101, 114, 121] : Bs)) else (bif (decide (a0 = (2 : Int))) then (some ([77, 117, 116, 97, 116, 105, 111, 110] : Bs)) else (bif (decide (a0 = (3 : Int))) then (some ([83, 117, 98, 115, 99, 114, 105, 112, 116, 105, 111, 110] : Bs)) else (some ([] : Bs))))
theorem Z22_walk {a0 : Int}   {r : Bs} (hE : Z22 a0 = some r) (H : Heap)  : ACalls Tryd.prog 26 [.d (.int .i64 a0)] H fun v h' => v = .a (.d (.str r)) ∧ h' = H := by
 unfold Z22 at hE
 refine ACalls.of_wp (fn := Tryd.f26) (c := _) Tryd.tab_ok (fun _ _ => Tryd.call26 _ _) Tryd.func26 rfl (n := 10) rfl (rs := [.tmp 2]) rfl rfl ?_
 refine seqK fun K1 hK1 => ?_
 refine region ?_
 refine s0 assignA rfl ?_
 refine nil ?_
 refine hK1 _ ?_
 clear hK1 K1
 refine seqK fun K2 hK2 => ?_
 refine seqK fun K3 hK3 => ?_
 refine region ?_
 refine s0 moveA rfl ?_
 refine nil ?_
 refine hK3 _ ?_
 clear hK3 K3
 refine block ?_
 refine seqK fun K4 hK4 => ?_
 refine region ?_
 refine s0 (binI rfl rfl rfl) rfl ?_
 refine s0 assignA rfl ?_
 refine nil ?_
 refine hK4 _ ?_
 clear hK4 K4
 refine condE hE rfl (fun hc5 hE => ?_) (fun hc5 hE => ?_)
 ·refine seqK fun K6 hK6 => ?_
  refine region ?_
  refine s0 assignA rfl ?_
  refine nil ?_
  refine hK6 _ ?_
  clear hK6 K6
  refine AWp.ret ?_
  repeat (first | refine xBlock_ret ?_ | refine xThen_ret ?_)
  obtain rfl := Option.some.inj hE
  refine retQ.retF H rfl ⟨rfl, rfl⟩ ?_
  exact (fun _ _ h => h)
 refine seqK fun K7 hK7 => ?_
 refine region ?_
 refine s0 (binI rfl rfl rfl) rfl ?_
 refine s0 assignA rfl ?_
 refine nil ?_
 refine hK7 _ ?_
 clear hK7 K7
 refine condE hE rfl (fun hc8 hE => ?_) (fun hc8 hE => ?_)
 ·refine seqK fun K9 hK9 => ?_
  refine region ?_
  refine s0 assignA rfl ?_
  refine nil ?_
  refine hK9 _ ?_
  clear hK9 K9
  refine AWp.ret ?_
  repeat (first | refine xBlock_ret ?_ | refine xThen_ret ?_)
  obtain rfl := Option.some.inj hE
  refine retQ.retF H rfl ⟨rfl, rfl⟩ ?_
  exact (fun _ _ h => h)
 refine seqK fun K10 hK10 => ?_
 refine region ?_
 refine s0 (binI rfl rfl rfl) rfl ?_
 refine s0 assignA rfl ?_
 refine nil ?_
 refine hK10 _ ?_
 clear hK10 K10
 refine condE hE rfl (fun hc11 hE => ?_) (fun hc11 hE => ?_)
 ·refine seqK fun K12 hK12 => ?_
  refine region ?_
  refine s0 assignA rfl ?_
  refine nil ?_
  refine hK12 _ ?_
  clear hK12 K12
  refine AWp.ret ?_
  repeat (first | refine xBlock_ret ?_ | refine xThen_ret ?_)
  obtain rfl := Option.some.inj hE
  refine retQ.retF H rfl ⟨rfl, rfl⟩ ?_
  exact (fun _ _ h => h)
 refine AWp.skip ?_
 refine hK2 _ ?_
 clear hK2 K2
 refine seqK fun K13 hK13 => ?_
 refine region ?_
 refine s0 assignA rfl ?_
 refine nil ?_
 refine hK13 _ ?_
 clear hK13 K13
 refine AWp.ret ?_
 repeat (first | refine xBlock_ret ?_ | refine xThen_ret ?_)
 obtain rfl := Option.some.inj hE
 refine retQ.retF H rfl ⟨rfl, rfl⟩ ?_
 exact (fun _ _ h => h)
def Z4_j3  (s2_4 : (Sl Bs)) (s8_5 : Bool) : Option ((Sl Bs) × Bool) := some (s2_4, s8_5)
def Z4_j16 (s17_12 : Nat) (k_next_9 : (Sl Bs) → Bool → Nat → Option ((Sl Bs) × Bool)) (s2_17 : (Sl Bs)) (s8_18 : Bool) : Option ((Sl Bs) × Bool) := k_next_9 s2_17 s8_18 (s17_12 + 1)
def Z4_j22 (a0 : TQuery) (s17_12 : Nat) (k_next_9 : (Sl Bs) → Bool → Nat → Option ((Sl Bs) × Bool)) (k_rec_52 : TQuery → (Sl TSel) → (Sl Bs) → Option ((Sl Bs) × Bool)) (s2_23 : (Sl Bs)) (s8_24 : Bool) (s11_25 : (Sl TSel)) : Option ((Sl Bs) × Bool) := (k_rec_52 a0 s11_25 s2_23).bind fun x28 => Z4_j16 s17_12 k_next_9 x28.1 (s8_24 && x28.2)
def Z4_l9 (a0 : TQuery) (a1 : (Sl TSel)) (k_rec_52 : TQuery → (Sl TSel) → (Sl Bs) → Option ((Sl Bs) × Bool)) : Nat → (Sl Bs) → Bool → Nat → Option ((Sl Bs) × Bool)
 | 0, _, _, _ => none
 | n9 + 1, s2_10, s8_11, s17_12 => bif (decide (((s17_12 : Nat) : Int) < ((a1.l.length : Nat) : Int))) then ((a1.l[s17_12]?).bind fun x20 => bif (decide (x20.FKind = (2 : Int))) then ((Z1 a0 x20.FName).bind fun x32 => guardO (!(!x32.2)) (Z27 s2_10 x20.FName) false fun x36 => bif ((!x32.2) || x36) then (Z4_j16 s17_12 ((Z4_l9 a0 a1 k_rec_52 n9)) s2_10 (s8_11 && x32.2)) else ((appC 16 s2_10 (⟨false, [x20.FName]⟩ : Sl Bs)).bind fun x39 => Z4_j22 a0 s17_12 ((Z4_l9 a0 a1 k_rec_52 n9)) k_rec_52 x39 (s8_11 && x32.2) x32.1.FSels)) else (Z4_j22 a0 s17_12 ((Z4_l9 a0 a1 k_rec_52 n9)) k_rec_52 s2_10 s8_11 x20.FSels)) else (Z4_j3   s2_10 s8_11)
def Z4_n : Nat → TQuery → (Sl TSel) → (Sl Bs) → Option ((Sl Bs) × Bool)
 | 0, _, _, _ => none
 | n + 1, a0, a1, a2 => Z4_l9 a0 a1 (Z4_n n) (a1.l.length + 1) a2 true 0
theorem Z4_step (n : Nat) (ih_52 : ∀ {a0 : TQuery} {a1 : (Sl TSel)} {a2 : (Sl Bs)} {w1 : Option Nat} {g2 : Nat} {r : ((Sl Bs) × Bool)}, Z4_n n a0 a1 a2 = some r → ∀ (H : Heap) (hg2 : H g2 = some (.tok 1 a2.l.length)), ACalls Tryd.prog 52 [.agg (TQuery.c a0), .d (Sl.d 7 TSel.c w1 a1), .d (Sl.d 1 strE (some g2) a2)] H fun v h' => v = .tup [.d (Sl.d 1 strE (some g2) r.1), .d (.bool r.2)] ∧ h' = (H.set g2 (some (.tok 1 r.1.l.length)))) : ∀ {a0 : TQuery} {a1 : (Sl TSel)} {a2 : (Sl Bs)} {w1 : Option Nat} {g2 : Nat} {r : ((Sl Bs) × Bool)}, Z4_n (n + 1) a0 a1 a2 = some r → ∀ (H : Heap) (hg2 : H g2 = some (.tok 1 a2.l.length)), ACalls Tryd.prog 52 [.agg (TQuery.c a0), .d (Sl.d 7 TSel.c w1 a1), .d (Sl.d 1 strE (some g2) a2)] H fun v h' => v = .tup [.d (Sl.d 1 strE (some g2) r.1), .d (.bool r.2)] ∧ h' = (H.set g2 (some (.tok 1 r.1.l.length))) := by
 intro a0 a1 a2 w1 g2 r hE H hg2
 rw [Z4_n] at hE
 refine ACalls.of_wp (fn := Tryd.f52) (c := _) Tryd.tab_ok (fun _ _ => Tryd.call52 _ _) Tryd.func52 rfl (n := 66) rfl (rs := [.tmp 6, .tmp 7]) rfl rfl ?_
 refine AWp.heqA (h' := (H.set g2 (some (.tok 1 a2.l.length)))) (by funext n_; simp only [Heap.set]; (repeat' split) <;> simp_all) ?_
 refine seqK fun K1 hK1 => ?_
 refine region ?_
 refine s0 (boxV rfl) rfl ?_
 refine s0 assignA rfl ?_
 refine s0 assignA rfl ?_
 refine nil ?_
 refine hK1 _ ?_
 clear hK1 K1
 refine seqK fun K2 hK2 => ?_
 refine region ?_
 refine s0 assignA rfl ?_
 refine nil ?_
 refine hK2 _ ?_
 clear hK2 K2
 refine seqJH KeepsT.nil (fun (z : (Sl Bs) × Bool) => [(2, .a (.d (Sl.d 1 strE (some g2) z.1))), (8, .a (.d (.bool z.2)))]) (fun z => (H.set g2 (some (.tok 1 z.1.l.length)))) (fun z => Z4_j3 z.1 z.2 = some r) ?_ ?_
 ·intro K3 hK3
  refine seqK fun K7 hK7 => ?_
  refine region ?_
  refine s0 moveA rfl ?_
  refine sLen (f := TSel.c) (s := a1) (TK rfl) rfl rfl rfl rfl fun hL8 => ?_
  refine s0 moveA rfl ?_
  refine nil ?_
  refine hK7 _ ?_
  clear hK7 K7
  refine block ?_
  refine loopH (KeepsT.A (k := 3) (KeepsT.A (k := 15) (KeepsT.A (k := 16) KeepsT.nil))) (fun (z : Nat × (Sl Bs) × Bool × Nat) => [(2, .a (.d (Sl.d 1 strE (some g2) z.2.1))), (8, .a (.d (.bool z.2.2.1))), (17, .a (.d (.int .i64 ((z.2.2.2 : Nat) : Int))))]) (fun z => (H.set g2 (some (.tok 1 z.2.1.l.length)))) (fun z => z.1) (fun z => Z4_l9 a0 a1 (Z4_n n) z.1 z.2.1 z.2.2.1 z.2.2.2 = some r) ((a1.l.length + 1), a2, true, 0) hE Weak.toA ?_
  rintro ⟨n9, s2_10, s8_11, s17_12⟩ hE K9 hK9
  try dsimp only at hE
  cases n9 with
  | zero => cases hE
  | succ n9 =>
    rw [Z4_l9] at hE
    refine seqK fun K13 hK13 => ?_
    refine region ?_
    refine s0 (binI rfl rfl rfl) rfl ?_
    refine nil ?_
    refine hK13 _ ?_
    clear hK13 K13
    refine seqK fun K14 hK14 => ?_
    refine condE hE rfl (fun hc15 hE => ?_) (fun hc15 hE => ?_)
    ·try dsimp only at hc15
     have hf15 := of_decide_eq_true hc15
     refine AWp.skip ?_
     refine hK14 _ ?_
     clear hK14 K14
     refine seqJH (KeepsT.A (k := 3) (KeepsT.A (k := 15) (KeepsT.A (k := 16) (KeepsT.A (k := 17) KeepsT.nil)))) (fun (z : (Sl Bs) × Bool) => [(2, .a (.d (Sl.d 1 strE (some g2) z.1))), (8, .a (.d (.bool z.2)))]) (fun z => (H.set g2 (some (.tok 1 z.1.l.length)))) (fun z => Z4_j16 s17_12 ((Z4_l9 a0 a1 (Z4_n n) n9)) z.1 z.2 = some r) ?_ ?_
     ·intro K16 hK16
      refine block ?_
      refine seqK fun K19 hK19 => ?_
      refine region ?_
      obtain ⟨x20, gx20, hE⟩ := bindO_some hE
      refine s0 (idxMn (f := TSel.c) (n := s17_12) (TK rfl) rfl (TK rfl) rfl rfl rfl gx20) rfl ?_
      refine s0 (loadV (TK rfl) rfl rfl rfl) rfl ?_
      refine sL (allocLA (TK rfl) rfl) rfl ?_
      refine sLn (storeLFA (TK rfl) rfl rfl rfl rfl rfl) ?_
      refine nil ?_
      refine hK19 _ ?_
      clear hK19 K19
      refine freezeA 10 _ rfl (Keeps.c (k := 2) (by conv => lhs; whnf) (by rfl) (Keeps.c (k := 3) (by conv => lhs; whnf) (by rfl) (Keeps.c (k := 8) (by conv => lhs; whnf) (by rfl) (Keeps.c (k := 15) (by conv => lhs; whnf) (by rfl) (Keeps.c (k := 16) (by conv => lhs; whnf) (by rfl) (Keeps.c (k := 17) (by conv => lhs; whnf) (by rfl) Keeps.nil)))))) ?_
      refine seqK fun K21 hK21 => ?_
      refine region ?_
      refine s0 (fieldVA (TK rfl) rfl rfl (TK rfl) rfl rfl) rfl ?_
      refine s0 (loadV (TK rfl) rfl rfl (congrArg (fun x => some (A.d x)) (TSel.FSelsD_eq _))) rfl ?_
      refine s0 assignA rfl ?_
      refine nil ?_
      refine hK21 _ ?_
      clear hK21 K21
      refine seqJH (KeepsT.A (k := 3) (KeepsT.A (k := 15) (KeepsT.A (k := 16) (KeepsT.A (k := 17) KeepsT.nil)))) (fun (z : (Sl Bs) × Bool × (Sl TSel)) => [(2, .a (.d (Sl.d 1 strE (some g2) z.1))), (8, .a (.d (.bool z.2.1))), (11, .a (.d (Sl.d 7 TSel.c none z.2.2)))]) (fun z => (H.set g2 (some (.tok 1 z.1.l.length)))) (fun z => Z4_j22 a0 s17_12 ((Z4_l9 a0 a1 (Z4_n n) n9)) (Z4_n n) z.1 z.2.1 z.2.2 = some r) ?_ ?_
      ·intro K22 hK22
       refine seqK fun K29 hK29 => ?_
       refine region ?_
       refine s0 (fieldVA (TK rfl) rfl rfl (TK rfl) rfl rfl) rfl ?_
       refine s0 (loadV (TK rfl) rfl rfl rfl) rfl ?_
       refine s0 (binI rfl rfl rfl) rfl ?_
       refine nil ?_
       refine hK29 _ ?_
       clear hK29 K29
       refine condE hE rfl (fun hc30 hE => ?_) (fun hc30 hE => ?_)
       ·refine seqK fun K31 hK31 => ?_
        refine region ?_
        refine s0 (loadV (TK rfl) rfl rfl rfl) rfl ?_
        refine s0 (fieldVA (TK rfl) rfl rfl (TK rfl) rfl rfl) rfl ?_
        refine s0 (loadV (TK rfl) rfl rfl rfl) rfl ?_
        obtain ⟨x32, gx32, hE⟩ := bindO_some hE
        refine s0 (callP rfl rfl (fun H => Z1_walk gx32 H)) rfl ?_
        refine s0 moveA rfl ?_
        refine s0 (extract rfl rfl) rfl ?_
        refine s0 (extract rfl rfl) rfl ?_
        refine sL (allocLA (TK rfl) rfl) rfl ?_
        refine sLn (storeLFA (TK rfl) rfl rfl rfl rfl rfl) ?_
        refine s0 assignA rfl ?_
        refine nil ?_
        refine hK31 _ ?_
        clear hK31 K31
        refine freezeA 12 _ rfl (Keeps.c (k := 2) (by conv => lhs; whnf) (by rfl) (Keeps.c (k := 3) (by conv => lhs; whnf) (by rfl) (Keeps.c (k := 8) (by conv => lhs; whnf) (by rfl) (Keeps.c (k := 10) (by conv => lhs; whnf) (by rfl) (Keeps.c (k := 13) (by conv => lhs; whnf) (by rfl) (Keeps.c (k := 15) (by conv => lhs; whnf) (by rfl) (Keeps.c (k := 16) (by conv => lhs; whnf) (by rfl) (Keeps.c (k := 17) (by conv => lhs; whnf) (by rfl) Keeps.nil)))))))) ?_
        refine seqK fun K33 hK33 => ?_
        refine region ?_
        refine s0 moveA rfl ?_
        refine s0 moveA rfl ?_
        refine gC rfl rfl (fun hC => moveA) rfl ?_
        refine s0 (pickAndA rfl rfl rfl) rfl ?_
        refine s0 assignA rfl ?_
        refine nil ?_
        refine hK33 _ ?_
        clear hK33 K33
        refine seqK fun K34 hK34 => ?_
        refine seqK fun K35 hK35 => ?_
        refine region ?_
        refine s0 moveA rfl ?_
        refine s0 (notB rfl) rfl ?_
        refine s0 moveA rfl ?_
        refine gC rfl rfl (fun hC => moveA) rfl ?_
        refine gC rfl rfl (fun hC => fieldVA (TK rfl) rfl rfl (TK rfl) rfl rfl) rfl ?_
        refine gC rfl rfl (fun hC => ungdA (k := 41) rfl (loadV (TK rfl) rfl rfl rfl)) rfl ?_
        obtain ⟨x36, gx36, hE⟩ := guardO_some hE
        refine gC rfl rfl (fun hC => ungdA (k := 40) rfl (ungdA (k := 42) rfl (callP rfl rfl (fun H => Z27_walk (gx36 hC) H)))) rfl ?_
        refine s0 (pickOrA rfl rfl rfl) rfl ?_
        refine nil ?_
        refine hK35 _ ?_
        clear hK35 K35
        refine condE hE rfl (fun hc37 hE => ?_) (fun hc37 hE => ?_)
        ·refine AWp.exit ?_
         exact hK16 _ (s2_10, (s8_11 && x32.2)) Weak.toA hE
        refine AWp.skip ?_
        refine hK34 _ ?_
        clear hK34 K34
        refine seqK fun K38 hK38 => ?_
        refine region ?_
        refine s0 moveA rfl ?_
        refine s0 (fieldVA (TK rfl) rfl rfl (TK rfl) rfl rfl) rfl ?_
        refine s0 (loadV (TK rfl) rfl rfl rfl) rfl ?_
        refine s0 (buildSlice (TK rfl) rfl (TK rfl) rfl rfl rfl rfl rfl rfl) rfl ?_
        obtain ⟨x39, gx39, hE⟩ := bindO_some hE
        refine sH (appM (f := strE) (TK rfl) rfl (TK rfl) (TK rfl) ⟨_, rfl⟩ rfl rfl (by decide) rfl rfl rfl rfl hpG rfl gx39) rfl ?_
        refine AOps.heq (h' := (H.set g2 (some (.tok 1 x39.l.length)))) (by first | rfl | (rw [Heap.set_set]; rfl) | (funext n_; simp only [Heap.set]; (repeat' split) <;> first | rfl | (exfalso; simp_all; done) | (simp_all; done))) ?_
        refine s0 assignA rfl ?_
        refine nil ?_
        refine hK38 _ ?_
        clear hK38 K38
        refine region ?_
        refine s0 (fieldVA (TK rfl) rfl rfl (TK rfl) rfl rfl) rfl ?_
        refine s0 (loadV (TK rfl) rfl rfl rfl) rfl ?_
        refine s0 assignA rfl ?_
        refine nil ?_
        exact hK22 _ (x39, (s8_11 && x32.2), x32.1.FSels) Weak.toA hE
       refine AWp.skip ?_
       exact hK22 _ (s2_10, s8_11, x20.FSels) Weak.toA hE
      rintro ⟨s2_23, s8_24, s11_25⟩ hE
      try dsimp only at hE
      unfold Z4_j22 at hE
      refine seqK fun K26 hK26 => ?_
      refine region ?_
      refine s0 assignA rfl ?_
      refine nil ?_
      refine hK26 _ ?_
      clear hK26 K26
      refine seqK fun K27 hK27 => ?_
      refine region ?_
      refine s0 (loadV (TK rfl) rfl rfl rfl) rfl ?_
      refine s0 moveA rfl ?_
      refine s0 moveA rfl ?_
      obtain ⟨x28, gx28, hE⟩ := bindO_some hE
      refine sH (callH rfl rfl (ih_52 gx28 _ hpG)) rfl ?_
      refine AOps.heq (h' := (H.set g2 (some (.tok 1 x28.1.l.length)))) (by first | rfl | (rw [Heap.set_set]; rfl) | (funext n_; simp only [Heap.set]; (repeat' split) <;> first | rfl | (exfalso; simp_all; done) | (simp_all; done))) ?_
      refine s0 moveA rfl ?_
      refine s0 (extract rfl rfl) rfl ?_
      refine s0 (extract rfl rfl) rfl ?_
      refine s0 assignA rfl ?_
      refine s0 assignA rfl ?_
      refine nil ?_
      refine hK27 _ ?_
      clear hK27 K27
      refine region ?_
      refine s0 moveA rfl ?_
      refine s0 moveA rfl ?_
      refine gC rfl rfl (fun hC => moveA) rfl ?_
      refine s0 (pickAndA rfl rfl rfl) rfl ?_
      refine s0 assignA rfl ?_
      refine nil ?_
      exact hK16 _ (x28.1, (s8_24 && x28.2)) Weak.toA hE
     rintro ⟨s2_17, s8_18⟩ hE
     try dsimp only at hE
     unfold Z4_j16 at hE
     refine region ?_
     refine s0 (addIA rfl rfl) rfl ?_
     refine s0 moveA rfl ?_
     refine nil ?_
     exact hK9 _ (n9, s2_17, s8_18, (s17_12 + 1)) Weak.toA hE (Nat.lt_succ_self _)
    refine AWp.exit ?_
    exact hK3 _ (s2_10, s8_11) Weak.toA hE
 rintro ⟨s2_4, s8_5⟩ hE
 try dsimp only at hE
 unfold Z4_j3 at hE
 refine seqK fun K6 hK6 => ?_
 refine region ?_
 refine s0 moveA rfl ?_
 refine s0 moveA rfl ?_
 refine s0 assignA rfl ?_
 refine s0 assignA rfl ?_
 refine nil ?_
 refine hK6 _ ?_
 clear hK6 K6
 refine AWp.ret ?_
 repeat (first | refine xBlock_ret ?_ | refine xThen_ret ?_)
 obtain rfl := Option.some.inj hE
 refine retQ.retF (H.set g2 (some (.tok 1 s2_4.l.length))) rfl ⟨rfl, rfl⟩ ?_
 exact (fun _ _ h => h)
theorem Z4_all : ∀ (n : Nat), (∀ {a0 : TQuery} {a1 : (Sl TSel)} {a2 : (Sl Bs)} {w1 : Option Nat} {g2 : Nat} {r : ((Sl Bs) × Bool)}, Z4_n n a0 a1 a2 = some r → ∀ (H : Heap) (hg2 : H g2 = some (.tok 1 a2.l.length)), ACalls Tryd.prog 52 [.agg (TQuery.c a0), .d (Sl.d 7 TSel.c w1 a1), .d (Sl.d 1 strE (some g2) a2)] H fun v h' => v = .tup [.d (Sl.d 1 strE (some g2) r.1), .d (.bool r.2)] ∧ h' = (H.set g2 (some (.tok 1 r.1.l.length))))
 | 0 => fun hE => by first | cases hE | (rw [Z4_n] at hE; cases hE)
 | n + 1 => Z4_step n (Z4_all n)
def Z4 (a0 : TQuery) (a1 : (Sl TSel)) (a2 : (Sl Bs)) : Option ((Sl Bs) × Bool) := Z4_n F0 a0 a1 a2
theorem Z4_walk {a0 : TQuery} {a1 : (Sl TSel)} {a2 : (Sl Bs)} {w1 : Option Nat} {g2 : Nat} {r : ((Sl Bs) × Bool)} (hE : Z4 a0 a1 a2 = some r) (H : Heap) (hg2 : H g2 = some (.tok 1 a2.l.length)) : ACalls Tryd.prog 52 [.agg (TQuery.c a0), .d (Sl.d 7 TSel.c w1 a1), .d (Sl.d 1 strE (some g2) a2)] H fun v h' => v = .tup [.d (Sl.d 1 strE (some g2) r.1), .d (.bool r.2)] ∧ h' = (H.set g2 (some (.tok 1 r.1.l.length))) := (Z4_all F0) hE H hg2
def Z3 (a0 : TQuery) (a1 : TFrag) : Option Bool := (Z4 a0 a1.FSels (Sl.nil : Sl Bs)).bind fun x4 => (Z27 x4.1 a1.FName).bind fun x6 => some x6
theorem Z3_walk {a0 : TQuery} {a1 : TFrag}   {r : Bool} (hE : Z3 a0 a1 = some r) (H : Heap)  : ACalls Tryd.prog 53 [.agg (TQuery.c a0), .agg (TFrag.c a1)] H fun v h' => v = .a (.d (.bool r)) ∧ h' = H := by
 unfold Z3 at hE
 refine ACalls.of_wp (fn := Tryd.f53) (c := _) Tryd.tab_ok (fun _ _ => Tryd.call53 _ _) Tryd.func53 rfl (n := 18) rfl (rs := [.tmp 4]) rfl rfl ?_
 refine seqK fun K1 hK1 => ?_
 refine region ?_
 refine s0 (boxV rfl) rfl ?_
 refine s0 (boxV rfl) rfl ?_
 refine s0 assignA rfl ?_
 refine nil ?_
 refine hK1 _ ?_
 clear hK1 K1
 refine seqK fun K2 hK2 => ?_
 refine AWp.tok 1 fun tk2_3 htk2_3 => ?_
 refine region ?_
 refine s0 (loadV (TK rfl) rfl rfl rfl) rfl ?_
 refine s0 (fieldVA (TK rfl) rfl rfl (TK rfl) rfl rfl) rfl ?_
 refine s0 (loadV (TK rfl) rfl rfl rfl) rfl ?_
 obtain ⟨x4, gx4, hE⟩ := bindO_some hE
 refine sH (callH rfl rfl (ACalls.asArgs (.cons (.refl _) (.cons (.refl _) (.cons (AsArg.nil (k' := 1) (t := tk2_3) hpG) .nil))) (Z4_walk gx4 _ hpG))) rfl ?_
 refine AOps.heq (h' := (H.set tk2_3 (some (.tok 1 x4.1.l.length)))) (by first | rfl | (rw [Heap.set_set]; rfl) | (funext n_; simp only [Heap.set]; (repeat' split) <;> first | rfl | (exfalso; simp_all; done) | (simp_all; done))) ?_
 refine s0 moveA rfl ?_
 refine s0 (extract rfl rfl) rfl ?_
 refine s0 (extract rfl rfl) rfl ?_
 refine s0 assignA rfl ?_
 refine s0 assignA rfl ?_
 refine nil ?_
 refine hK2 _ ?_
 clear hK2 K2
 refine AWp.dropTok 5 rfl ?_
 refine seqK fun K5 hK5 => ?_
 refine region ?_
 refine s0 moveA rfl ?_
 refine s0 (fieldVA (TK rfl) rfl rfl (TK rfl) rfl rfl) rfl ?_
 refine s0 (loadV (TK rfl) rfl rfl rfl) rfl ?_
 obtain ⟨x6, gx6, hE⟩ := bindO_some hE
 refine s0 (callP rfl rfl (fun H => Z27_walk gx6 H)) rfl ?_
 refine s0 assignA rfl ?_
 refine nil ?_
 refine hK5 _ ?_
 clear hK5 K5
 refine AWp.ret ?_
 repeat (first | refine xBlock_ret ?_ | refine xThen_ret ?_)
 obtain rfl := Option.some.inj hE
 refine retQ.retF H rfl ⟨rfl, rfl⟩ ?_
 first | exact Heap.sub_set htk2_3 | (simp only [Heap.set_set]; exact Heap.sub_set htk2_3)
def Z2_j5 (x4 : ((Sl Bs) × Bool))  (s7_6 : Bool) : Option ((Sl Bs) × Bool) := some (x4.1, s7_6)
def Z2_l10 (a0 : TQuery) (x4 : ((Sl Bs) × Bool))  : Nat → Bool → Nat → Option ((Sl Bs) × Bool)
 | 0, _, _ => none
 | n10 + 1, s7_11, s20_12 => bif (decide (((s20_12 : Nat) : Int) < ((x4.1.l.length : Nat) : Int))) then ((x4.1.l[s20_12]?).bind fun x18 => (Z1 a0 x18).bind fun x20 => guardO (s7_11) (Z3 a0 x20.1) false fun x21 => (Z2_l10 a0 x4 n10) (s7_11 && (!x21)) (s20_12 + 1)) else (Z2_j5 x4  s7_11)
def Z2 (a0 : TQuery) (a1 : (Sl TSel)) : Option ((Sl Bs) × Bool) := (Z4 a0 a1 (Sl.nil : Sl Bs)).bind fun x4 => Z2_l10 a0 x4 (x4.1.l.length + 1) x4.2 0
theorem Z2_walk {a0 : TQuery} {a1 : (Sl TSel)} {w1 : Option Nat}  {r : ((Sl Bs) × Bool)} (hE : Z2 a0 a1 = some r) (H : Heap)  : ACalls Tryd.prog 27 [.agg (TQuery.c a0), .d (Sl.d 7 TSel.c w1 a1)] H fun v h' => v = .tup [.d (Sl.d 1 strE none r.1), .d (.bool r.2)] ∧ h' = H := by
 unfold Z2 at hE
 refine ACalls.of_wp (fn := Tryd.f27) (c := _) Tryd.tab_ok (fun _ _ => Tryd.call27 _ _) Tryd.func27 rfl (n := 40) rfl (rs := [.tmp 4, .tmp 5]) rfl rfl ?_
 refine seqK fun K1 hK1 => ?_
 refine region ?_
 refine s0 (boxV rfl) rfl ?_
 refine s0 (assignNil (k' := 1) rfl) rfl ?_
 refine s0 assignA rfl ?_
 refine nil ?_
 refine hK1 _ ?_
 clear hK1 K1
 refine seqK fun K2 hK2 => ?_
 refine AWp.tok 1 fun tk2_3 htk2_3 => ?_
 refine region ?_
 refine s0 (loadV (TK rfl) rfl rfl rfl) rfl ?_
 refine s0 moveA rfl ?_
 obtain ⟨x4, gx4, hE⟩ := bindO_some hE
 refine sH (callH rfl rfl (ACalls.asArgs (.cons (.refl _) (.cons (.refl _) (.cons (AsArg.nil (k' := 1) (t := tk2_3) hpG) .nil))) (Z4_walk gx4 _ hpG))) rfl ?_
 refine AOps.heq (h' := (H.set tk2_3 (some (.tok 1 x4.1.l.length)))) (by first | rfl | (rw [Heap.set_set]; rfl) | (funext n_; simp only [Heap.set]; (repeat' split) <;> first | rfl | (exfalso; simp_all; done) | (simp_all; done))) ?_
 refine s0 moveA rfl ?_
 refine s0 (extract rfl rfl) rfl ?_
 refine s0 (extract rfl rfl) rfl ?_
 refine s0 assignA rfl ?_
 refine s0 assignA rfl ?_
 refine nil ?_
 refine hK2 _ ?_
 clear hK2 K2
 refine AWp.dropTok 6 rfl ?_
 refine seqJH (KeepsT.A (k := 6) KeepsT.nil) (fun (z : Bool) => [(7, .a (.d (.bool z)))]) (fun z => (H.set tk2_3 (some (.tok 1 x4.1.l.length)))) (fun z => Z2_j5 x4 z = some r) ?_ ?_
 ·intro K5 hK5
  refine seqK fun K8 hK8 => ?_
  refine region ?_
  refine s0 moveA rfl ?_
  refine sLen (f := strE) (s := x4.1) (TK rfl) rfl rfl rfl rfl fun hL9 => ?_
  refine s0 moveA rfl ?_
  refine nil ?_
  refine hK8 _ ?_
  clear hK8 K8
  refine block ?_
  refine loopH (KeepsT.A (k := 2) (KeepsT.A (k := 6) (KeepsT.A (k := 18) (KeepsT.A (k := 19) KeepsT.nil)))) (fun (z : Nat × Bool × Nat) => [(7, .a (.d (.bool z.2.1))), (20, .a (.d (.int .i64 ((z.2.2 : Nat) : Int))))]) (fun z => (H.set tk2_3 (some (.tok 1 x4.1.l.length)))) (fun z => z.1) (fun z => Z2_l10 a0 x4 z.1 z.2.1 z.2.2 = some r) ((x4.1.l.length + 1), x4.2, 0) hE Weak.toA ?_
  rintro ⟨n10, s7_11, s20_12⟩ hE K10 hK10
  try dsimp only at hE
  cases n10 with
  | zero => cases hE
  | succ n10 =>
    rw [Z2_l10] at hE
    refine seqK fun K13 hK13 => ?_
    refine region ?_
    refine s0 (binI rfl rfl rfl) rfl ?_
    refine nil ?_
    refine hK13 _ ?_
    clear hK13 K13
    refine seqK fun K14 hK14 => ?_
    refine condE hE rfl (fun hc15 hE => ?_) (fun hc15 hE => ?_)
    ·try dsimp only at hc15
     have hf15 := of_decide_eq_true hc15
     refine AWp.skip ?_
     refine hK14 _ ?_
     clear hK14 K14
     refine seqK fun K16 hK16 => ?_
     refine block ?_
     refine seqK fun K17 hK17 => ?_
     refine region ?_
     obtain ⟨x18, gx18, hE⟩ := bindO_some hE
     refine s0 (idxMn (f := strE) (n := s20_12) (TK rfl) rfl (TK rfl) rfl rfl rfl gx18) rfl ?_
     refine s0 (loadV (TK rfl) rfl rfl rfl) rfl ?_
     refine s0 assignA rfl ?_
     refine nil ?_
     refine hK17 _ ?_
     clear hK17 K17
     refine seqK fun K19 hK19 => ?_
     refine region ?_
     refine s0 (loadV (TK rfl) rfl rfl rfl) rfl ?_
     refine s0 moveA rfl ?_
     obtain ⟨x20, gx20, hE⟩ := bindO_some hE
     refine s0 (callP rfl rfl (fun H => Z1_walk gx20 H)) rfl ?_
     refine s0 moveA rfl ?_
     refine s0 (extract rfl rfl) rfl ?_
     refine s0 (extract rfl rfl) rfl ?_
     refine sL (allocLA (TK rfl) rfl) rfl ?_
     refine sLn (storeLFA (TK rfl) rfl rfl rfl rfl rfl) ?_
     refine s0 assignA rfl ?_
     refine nil ?_
     refine hK19 _ ?_
     clear hK19 K19
     refine freezeA 10 _ rfl (Keeps.c (k := 2) (by conv => lhs; whnf) (by rfl) (Keeps.c (k := 6) (by conv => lhs; whnf) (by rfl) (Keeps.c (k := 7) (by conv => lhs; whnf) (by rfl) (Keeps.c (k := 18) (by conv => lhs; whnf) (by rfl) (Keeps.c (k := 19) (by conv => lhs; whnf) (by rfl) (Keeps.c (k := 20) (by conv => lhs; whnf) (by rfl) Keeps.nil)))))) ?_
     refine region ?_
     refine s0 moveA rfl ?_
     refine s0 moveA rfl ?_
     refine gC rfl rfl (fun hC => loadV (TK rfl) rfl rfl rfl) rfl ?_
     refine gC rfl rfl (fun hC => loadV (TK rfl) rfl rfl rfl) rfl ?_
     obtain ⟨x21, gx21, hE⟩ := guardO_some hE
     refine gC rfl rfl (fun hC => ungdA (k := 32) rfl (ungdA (k := 33) rfl (callP rfl rfl (fun H => Z3_walk (gx21 hC) H)))) rfl ?_
     refine gC rfl rfl (fun hC => ungdA (k := 34) rfl (notB rfl)) rfl ?_
     refine s0 (pickAndA rfl rfl rfl) rfl ?_
     refine s0 assignA rfl ?_
     refine nil ?_
     refine hK16 _ ?_
     clear hK16 K16
     refine region ?_
     refine s0 (addIA rfl rfl) rfl ?_
     refine s0 moveA rfl ?_
     refine nil ?_
     exact hK10 _ (n10, (s7_11 && (!x21)), (s20_12 + 1)) Weak.toA hE (Nat.lt_succ_self _)
    refine AWp.exit ?_
    exact hK5 _ s7_11 Weak.toA hE
 rintro s7_6 hE
 try dsimp only at hE
 unfold Z2_j5 at hE
 refine seqK fun K7 hK7 => ?_
 refine region ?_
 refine s0 moveA rfl ?_
 refine s0 moveA rfl ?_
 refine s0 assignA rfl ?_
 refine s0 assignA rfl ?_
 refine nil ?_
 refine hK7 _ ?_
 clear hK7 K7
 refine AWp.ret ?_
 repeat (first | refine xBlock_ret ?_ | refine xThen_ret ?_)
 obtain rfl := Option.some.inj hE
 refine retQ.retF H rfl ⟨rfl, rfl⟩ ?_
 first | exact Heap.sub_set htk2_3 | (simp only [Heap.set_set]; exact Heap.sub_set htk2_3)
end Go.Proofs

namespace Go.Proofs
open Go Go.Ab
open AOps Cert AWp
def Z44_j5  (y6_id16_3 : Vars_checker) : Option (Sl TFault) := some y6_id16_3.Fout
def Z44_j16 (s20_11 : Nat) (k_next_10 : Nat → Vars_checker → Option (Sl TFault)) (y17_id16_3 : Vars_checker) : Option (Sl TFault) := k_next_10 (s20_11 + 1) y17_id16_3
def Z44_l31 (a1 : TQuery) (s20_11 : Nat) (x28 : ((Sl Bs) × Bool)) (k_next_10 : Nat → Vars_checker → Option (Sl TFault)) : Nat → Nat → Vars_checker → Option (Sl TFault)
 | 0, _, _ => none
 | n31 + 1, s54_32, y33_id16_3 => bif (decide (((s54_32 : Nat) : Int) < ((x28.1.l.length : Nat) : Int))) then ((x28.1.l[s54_32]?).bind fun x39 => (Z1 a1 x39).bind fun x41 => (vars_checker_sels y33_id16_3 x41.1.FSels x41.1.FOn x41.1.FName).bind fun x42 => (Z44_l31 a1 s20_11 x28 k_next_10 n31) (s54_32 + 1) x42) else (Z44_j16 s20_11 k_next_10 y33_id16_3)
def Z44_l10 (a1 : TQuery)  : Nat → Nat → Vars_checker → Option (Sl TFault)
 | 0, _, _ => none
 | n10 + 1, s20_11, y12_id16_3 => bif (decide (((s20_11 : Nat) : Int) < ((a1.FOps.l.length : Nat) : Int))) then ((a1.FOps.l[s20_11]?).bind fun x19 => (Z46 a1 ((s20_11 : Nat) : Int)).bind fun x22 => (Z48 (Vars_checker.mk y12_id16_3.Fd x19.FVars y12_id16_3.Fout) x19 x22).bind fun x23 => (Z22 x19.FKind).bind fun x25 => (vars_checker_sels x23 x19.FSels x25 x19.FName).bind fun x26 => (Z2 a1 x19.FSels).bind fun x28 => Z44_l31 a1 s20_11 x28 ((Z44_l10 a1 n10)) (x28.1.l.length + 1) 0 x26) else (Z44_j5   y12_id16_3)
def Z44 (a0 : TDoc) (a1 : TQuery) : Option (Sl TFault) := Z44_l10 a1 (a1.FOps.l.length + 1) 0 (Vars_checker.mk a0 (Sl.nil : Sl TVar) (Sl.nil : Sl TFault))
theorem Z44_walk {a0 : TDoc} {a1 : TQuery}   {r : (Sl TFault)} (hE : Z44 a0 a1 = some r) (H : Heap)  : ACalls Tryd.prog 15 [.agg (TDoc.c a0), .agg (TQuery.c a1)] H fun v h' => v = .a (.d (Sl.d 2 TFault.c none r)) ∧ h' = H := by
 unfold Z44 at hE
 refine ACalls.of_wp (fn := Tryd.f15) (c := _) Tryd.tab_ok (fun _ _ => Tryd.call15 _ _) Tryd.func15 rfl (n := 78) rfl (rs := [.tmp 4]) rfl rfl ?_
 refine seqK fun K1 hK1 => ?_
 refine region ?_
 refine s0 (boxV rfl) rfl ?_
 refine s0 (boxV rfl) rfl ?_
 refine s0 (assignNil (k' := 2) rfl) rfl ?_
 refine nil ?_
 refine hK1 _ ?_
 clear hK1 K1
 refine seqK fun K2 hK2 => ?_
 refine region ?_
 refine s0 (loadV (TK rfl) rfl rfl rfl) rfl ?_
 refine s0 (build Tryd.tab_ok rfl rfl rfl rfl rfl rfl) rfl ?_
 refine AOps.tok 2 fun tk16_4 htk16_4 => ?_
 refine sE (StepE.boxO rfl) rfl (fun _ _ _ ⟨id16_3, hid16_3, e1, e2, e3⟩ => ?_); subst e1 e2 e3
 obtain ⟨ne_id16_3_tk16_4, hid16_3⟩ := Heap.set_fresh hid16_3
 refine AOps.recell id16_3 _ hpG (fun j w cs hh hx => tok_cell 2 2 2 hh (t := tk16_4) hpG hx rfl) ?_
 refine AOps.heq (h' := ((H.set tk16_4 (some (.tok 2 0))).set id16_3 (some (.cells (Vars_checker.cg (some tk16_4) (Vars_checker.mk a0 (Sl.nil : Sl TVar) (Sl.nil : Sl TFault))))))) (by first | rfl | (rw [Heap.set_set]; rfl) | (funext n_; simp only [Heap.set]; (repeat' split) <;> first | rfl | (exfalso; simp_all; done) | (simp_all; done))) ?_
 refine s0 assignA rfl ?_
 refine nil ?_
 refine hK2 _ ?_
 clear hK2 K2
 refine seqJH (KeepsT.A (k := 5) KeepsT.nil) (fun (z : Vars_checker) => []) (fun z => ((H.set tk16_4 (some (.tok 2 z.Fout.l.length))).set id16_3 (some (.cells (Vars_checker.cg (some tk16_4) z))))) (fun z => Z44_j5 z = some r) ?_ ?_
 ·intro K5 hK5
  refine seqK fun K8 hK8 => ?_
  refine region ?_
  refine s0 (fieldVA (TK rfl) rfl rfl (TK rfl) rfl rfl) rfl ?_
  refine s0 (loadV (TK rfl) rfl rfl rfl) rfl ?_
  refine sLen (f := TOp.c) (s := a1.FOps) (TK rfl) rfl rfl rfl rfl fun hL9 => ?_
  refine s0 moveA rfl ?_
  refine nil ?_
  refine hK8 _ ?_
  clear hK8 K8
  refine block ?_
  refine loopH (KeepsT.A (k := 3) (KeepsT.A (k := 5) (KeepsT.A (k := 18) (KeepsT.A (k := 19) KeepsT.nil)))) (fun (z : Nat × Nat × Vars_checker) => [(20, .a (.d (.int .i64 ((z.2.1 : Nat) : Int))))]) (fun z => ((H.set tk16_4 (some (.tok 2 z.2.2.Fout.l.length))).set id16_3 (some (.cells (Vars_checker.cg (some tk16_4) z.2.2))))) (fun z => z.1) (fun z => Z44_l10 a1 z.1 z.2.1 z.2.2 = some r) ((a1.FOps.l.length + 1), 0, (Vars_checker.mk a0 (Sl.nil : Sl TVar) (Sl.nil : Sl TFault))) hE Weak.toA ?_
  rintro ⟨n10, s20_11, y12_id16_3⟩ hE K10 hK10
  try dsimp only at hE
  cases n10 with
  | zero => cases hE
  | succ n10 =>
    rw [Z44_l10] at hE
    refine seqK fun K13 hK13 => ?_
    refine region ?_
    refine s0 (binI rfl rfl rfl) rfl ?_
    refine nil ?_
    refine hK13 _ ?_
    clear hK13 K13
    refine seqK fun K14 hK14 => ?_
    refine condE hE rfl (fun hc15 hE => ?_) (fun hc15 hE => ?_)
    ·try dsimp only at hc15
     have hf15 := of_decide_eq_true hc15
     refine AWp.skip ?_
     refine hK14 _ ?_
     clear hK14 K14
     refine seqJH (KeepsT.A (k := 3) (KeepsT.A (k := 5) (KeepsT.A (k := 18) (KeepsT.A (k := 19) (KeepsT.A (k := 20) KeepsT.nil))))) (fun (z : Vars_checker) => []) (fun z => ((H.set tk16_4 (some (.tok 2 z.Fout.l.length))).set id16_3 (some (.cells (Vars_checker.cg (some tk16_4) z))))) (fun z => Z44_j16 s20_11 ((Z44_l10 a1 n10)) z = some r) ?_ ?_
     ·intro K16 hK16
      refine block ?_
      refine seqK fun K18 hK18 => ?_
      refine region ?_
      refine s0 moveA rfl ?_
      obtain ⟨x19, gx19, hE⟩ := bindO_some hE
      refine s0 (idxMn (f := TOp.c) (n := s20_11) (TK rfl) rfl (TK rfl) rfl rfl rfl gx19) rfl ?_
      refine s0 (loadV (TK rfl) rfl rfl rfl) rfl ?_
      refine sL (allocLA (TK rfl) rfl) rfl ?_
      refine s0 assignA rfl ?_
      refine sLn (storeLFA (TK rfl) rfl rfl rfl rfl rfl) ?_
      refine nil ?_
      refine hK18 _ ?_
      clear hK18 K18
      refine freezeA 7 _ rfl (Keeps.c (k := 3) (by conv => lhs; whnf) (by rfl) (Keeps.c (k := 5) (by conv => lhs; whnf) (by rfl) (Keeps.c (k := 6) (by conv => lhs; whnf) (by rfl) (Keeps.c (k := 18) (by conv => lhs; whnf) (by rfl) (Keeps.c (k := 19) (by conv => lhs; whnf) (by rfl) (Keeps.c (k := 20) (by conv => lhs; whnf) (by rfl) Keeps.nil)))))) ?_
      refine seqK fun K20 hK20 => ?_
      refine region ?_
      refine s0 moveA rfl ?_
      refine s0 (fieldVA (TK rfl) rfl rfl (TK rfl) rfl rfl) rfl ?_
      refine s0 (loadV (TK rfl) rfl rfl rfl) rfl ?_
      refine s0 (nilP rfl) rfl ?_
      refine s0 (fieldP (TK rfl) rfl rfl (TK rfl) rfl rfl) rfl ?_
      refine sHn (storeP1 (TK rfl) rfl rfl hpG rfl (by repeat (first | exact SetAt.zero | apply SetAt.succ))) rfl rfl ?_
      refine AOps.heq (h' := ((H.set tk16_4 (some (.tok 2 y12_id16_3.Fout.l.length))).set id16_3 (some (.cells (Vars_checker.cg (some tk16_4) (Vars_checker.mk y12_id16_3.Fd x19.FVars y12_id16_3.Fout)))))) (by first | rfl | (rw [Heap.set_set]; rfl) | (funext n_; simp only [Heap.set]; (repeat' split) <;> first | rfl | (exfalso; simp_all; done) | (simp_all; done))) ?_
      refine nil ?_
      refine hK20 _ ?_
      clear hK20 K20
      refine seqK fun K21 hK21 => ?_
      refine AWp.draw rfl ?_
      refine DOps.s0 moveA rfl ?_
      refine DOps.s0 (loadV (TK rfl) rfl rfl rfl) rfl ?_
      refine DOps.s0 (loadV (TK rfl) rfl rfl rfl) rfl ?_
      refine DOps.s0 moveA rfl ?_
      obtain ⟨x22, gx22, hE⟩ := bindO_some hE
      refine DOps.s0 (callP rfl rfl (fun H => Z46_walk gx22 H)) rfl ?_
      obtain ⟨x23, gx23, hE⟩ := bindO_some hE
      refine DOps.sH (callH rfl rfl (Z48_walk gx23 _ hpG hpG)) rfl ?_
      refine DOps.heq (h' := ((H.set tk16_4 (some (.tok 2 x23.Fout.l.length))).set id16_3 (some (.cells (Vars_checker.cg (some tk16_4) x23))))) (by first | rfl | (rw [Heap.set_set]; rfl) | (funext n_; simp only [Heap.set]; (repeat' split) <;> first | rfl | (exfalso; simp_all; done) | (simp_all; done))) ?_
      refine DOps.nil (by decide +kernel) ?_
      refine hK21 _ ?_
      clear hK21 K21
      refine seqK fun K24 hK24 => ?_
      refine AWp.draw rfl ?_
      refine DOps.s0 moveA rfl ?_
      refine DOps.s0 (fieldVA (TK rfl) rfl rfl (TK rfl) rfl rfl) rfl ?_
      refine DOps.s0 (loadV (TK rfl) rfl rfl rfl) rfl ?_
      refine DOps.s0 (fieldVA (TK rfl) rfl rfl (TK rfl) rfl rfl) rfl ?_
      refine DOps.s0 (loadV (TK rfl) rfl rfl rfl) rfl ?_
      obtain ⟨x25, gx25, hE⟩ := bindO_some hE
      refine DOps.s0 (callP rfl rfl (fun H => Z22_walk gx25 H)) rfl ?_
      refine DOps.s0 (fieldVA (TK rfl) rfl rfl (TK rfl) rfl rfl) rfl ?_
      refine DOps.s0 (loadV (TK rfl) rfl rfl rfl) rfl ?_
      obtain ⟨x26, gx26, hE⟩ := bindO_some hE
      refine DOps.sH (callH rfl rfl (vars_checker_sels_walk gx26 _ hpG hpG)) rfl ?_
      refine DOps.heq (h' := ((H.set tk16_4 (some (.tok 2 x26.Fout.l.length))).set id16_3 (some (.cells (Vars_checker.cg (some tk16_4) x26))))) (by first | rfl | (rw [Heap.set_set]; rfl) | (funext n_; simp only [Heap.set]; (repeat' split) <;> first | rfl | (exfalso; simp_all; done) | (simp_all; done))) ?_
      refine DOps.nil (by decide +kernel) ?_
      refine hK24 _ ?_
      clear hK24 K24
      refine seqK fun K27 hK27 => ?_
      refine region ?_
      refine s0 (loadV (TK rfl) rfl rfl rfl) rfl ?_
      refine s0 (fieldVA (TK rfl) rfl rfl (TK rfl) rfl rfl) rfl ?_
      refine s0 (loadV (TK rfl) rfl rfl rfl) rfl ?_
      obtain ⟨x28, gx28, hE⟩ := bindO_some hE
      refine s0 (callP rfl rfl (fun H => Z2_walk gx28 H)) rfl ?_
      refine s0 moveA rfl ?_
      refine s0 (extract rfl rfl) rfl ?_
      refine s0 (extract rfl rfl) rfl ?_
      refine s0 assignA rfl ?_
      refine s0 assignA rfl ?_
      refine nil ?_
      refine hK27 _ ?_
      clear hK27 K27
      refine seqK fun K29 hK29 => ?_
      refine region ?_
      refine s0 moveA rfl ?_
      refine sLen (f := strE) (s := x28.1) (TK rfl) rfl rfl rfl rfl fun hL30 => ?_
      refine s0 moveA rfl ?_
      refine nil ?_
      refine hK29 _ ?_
      clear hK29 K29
      refine block ?_
      refine loopH (KeepsT.A (k := 3) (KeepsT.A (k := 5) (KeepsT.A (k := 18) (KeepsT.A (k := 19) (KeepsT.A (k := 20) (KeepsT.A (k := 52) (KeepsT.A (k := 53) KeepsT.nil))))))) (fun (z : Nat × Nat × Vars_checker) => [(54, .a (.d (.int .i64 ((z.2.1 : Nat) : Int))))]) (fun z => ((H.set tk16_4 (some (.tok 2 z.2.2.Fout.l.length))).set id16_3 (some (.cells (Vars_checker.cg (some tk16_4) z.2.2))))) (fun z => z.1) (fun z => Z44_l31 a1 s20_11 x28 ((Z44_l10 a1 n10)) z.1 z.2.1 z.2.2 = some r) ((x28.1.l.length + 1), 0, x26) hE Weak.toA ?_
      rintro ⟨n31, s54_32, y33_id16_3⟩ hE K31 hK31
      try dsimp only at hE
      cases n31 with
      | zero => cases hE
      | succ n31 =>
        rw [Z44_l31] at hE
        refine seqK fun K34 hK34 => ?_
        refine region ?_
        refine s0 (binI rfl rfl rfl) rfl ?_
        refine nil ?_
        refine hK34 _ ?_
        clear hK34 K34
        refine seqK fun K35 hK35 => ?_
        refine condE hE rfl (fun hc36 hE => ?_) (fun hc36 hE => ?_)
        ·try dsimp only at hc36
         have hf36 := of_decide_eq_true hc36
         refine AWp.skip ?_
         refine hK35 _ ?_
         clear hK35 K35
         refine seqK fun K37 hK37 => ?_
         refine block ?_
         refine seqK fun K38 hK38 => ?_
         refine region ?_
         obtain ⟨x39, gx39, hE⟩ := bindO_some hE
         refine s0 (idxMn (f := strE) (n := s54_32) (TK rfl) rfl (TK rfl) rfl rfl rfl gx39) rfl ?_
         refine s0 (loadV (TK rfl) rfl rfl rfl) rfl ?_
         refine s0 assignA rfl ?_
         refine nil ?_
         refine hK38 _ ?_
         clear hK38 K38
         refine seqK fun K40 hK40 => ?_
         refine region ?_
         refine s0 (loadV (TK rfl) rfl rfl rfl) rfl ?_
         refine s0 moveA rfl ?_
         obtain ⟨x41, gx41, hE⟩ := bindO_some hE
         refine s0 (callP rfl rfl (fun H => Z1_walk gx41 H)) rfl ?_
         refine s0 moveA rfl ?_
         refine s0 (extract rfl rfl) rfl ?_
         refine s0 (extract rfl rfl) rfl ?_
         refine sL (allocLA (TK rfl) rfl) rfl ?_
         refine sLn (storeLFA (TK rfl) rfl rfl rfl rfl rfl) ?_
         refine s0 assignA rfl ?_
         refine nil ?_
         refine hK40 _ ?_
         clear hK40 K40
         refine freezeA 12 _ rfl (Keeps.c (k := 3) (by conv => lhs; whnf) (by rfl) (Keeps.c (k := 5) (by conv => lhs; whnf) (by rfl) (Keeps.c (k := 18) (by conv => lhs; whnf) (by rfl) (Keeps.c (k := 19) (by conv => lhs; whnf) (by rfl) (Keeps.c (k := 20) (by conv => lhs; whnf) (by rfl) (Keeps.c (k := 52) (by conv => lhs; whnf) (by rfl) (Keeps.c (k := 53) (by conv => lhs; whnf) (by rfl) (Keeps.c (k := 54) (by conv => lhs; whnf) (by rfl) Keeps.nil)))))))) ?_
         refine region ?_
         refine s0 moveA rfl ?_
         refine s0 (fieldVA (TK rfl) rfl rfl (TK rfl) rfl rfl) rfl ?_
         refine s0 (loadV (TK rfl) rfl rfl rfl) rfl ?_
         refine s0 (fieldVA (TK rfl) rfl rfl (TK rfl) rfl rfl) rfl ?_
         refine s0 (loadV (TK rfl) rfl rfl rfl) rfl ?_
         refine s0 (fieldVA (TK rfl) rfl rfl (TK rfl) rfl rfl) rfl ?_
         refine s0 (loadV (TK rfl) rfl rfl rfl) rfl ?_
         obtain ⟨x42, gx42, hE⟩ := bindO_some hE
         refine sH (callH rfl rfl (vars_checker_sels_walk gx42 _ hpG hpG)) rfl ?_
         refine AOps.heq (h' := ((H.set tk16_4 (some (.tok 2 x42.Fout.l.length))).set id16_3 (some (.cells (Vars_checker.cg (some tk16_4) x42))))) (by first | rfl | (rw [Heap.set_set]; rfl) | (funext n_; simp only [Heap.set]; (repeat' split) <;> first | rfl | (exfalso; simp_all; done) | (simp_all; done))) ?_
         refine nil ?_
         refine hK37 _ ?_
         clear hK37 K37
         refine region ?_
         refine s0 (addIA rfl rfl) rfl ?_
         refine s0 moveA rfl ?_
         refine nil ?_
         exact hK31 _ (n31, (s54_32 + 1), x42) Weak.toA hE (Nat.lt_succ_self _)
        refine AWp.exit ?_
        exact hK16 _ y33_id16_3 Weak.toA hE
     rintro y17_id16_3 hE
     try dsimp only at hE
     unfold Z44_j16 at hE
     refine region ?_
     refine s0 (addIA rfl rfl) rfl ?_
     refine s0 moveA rfl ?_
     refine nil ?_
     exact hK10 _ (n10, (s20_11 + 1), y17_id16_3) Weak.toA hE (Nat.lt_succ_self _)
    refine AWp.exit ?_
    exact hK5 _ y12_id16_3 Weak.toA hE
 rintro y6_id16_3 hE
 try dsimp only at hE
 unfold Z44_j5 at hE
 refine seqK fun K7 hK7 => ?_
 refine region ?_
 refine s0 moveA rfl ?_
 refine s0 (nilP rfl) rfl ?_
 refine s0 (fieldP (TK rfl) rfl rfl (TK rfl) rfl rfl) rfl ?_
 refine s0 (loadP (TK rfl) rfl rfl hpG rfl) rfl ?_
 refine s0 assignA rfl ?_
 refine nil ?_
 refine hK7 _ ?_
 clear hK7 K7
 refine AWp.dropTok 4 rfl ?_
 refine AWp.ret ?_
 repeat (first | refine xBlock_ret ?_ | refine xThen_ret ?_)
 obtain rfl := Option.some.inj hE
 refine retQ.retF H rfl ⟨rfl, rfl⟩ ?_
 intro id_ o_ he_
 have e_tk16_4 : id_ ≠ tk16_4 := fun e_ => by subst e_; simp_all [Heap.set]
 have e_id16_3 : id_ ≠ id16_3 := fun e_ => by subst e_; simp_all [Heap.set]
 rw [← he_]
 simp only [Heap.set] at he_ ⊢
 (repeat' split) <;> simp_all
def Z6  : Option Bool := (Z46 (TQuery.mk (⟨false, [(TOp.mk (1 : Int) ([113] : Bs) (⟨false, [(TVar.mk ([109] : Bs) (TRef.mk ([73, 110, 116] : Bs) (Sl.nil : Sl Int)) false TValue.zero)]⟩ : Sl TVar) (⟨false, [(TSel.mk (1 : Int) ([] : Bs) ([120] : Bs) ([] : Bs) (⟨false, [(TArg.mk ([110] : Bs) (TValue.mk (7 : Int) (0 : Int) ([122] : Bs) true ([]) (Sl.nil : Sl Bs)))]⟩ : Sl TArg) (Sl.nil : Sl TDir) true ([]))]⟩ : Sl TSel))]⟩ : Sl TOp) (Sl.nil : Sl TFrag)) (0 : Int)).bind fun x6 => guardO ((decide (((x6.l.length : Nat) : Int) = (1 : Int)))) (x6.l[0]?) ([] : Bs) fun x8 => guardO (((decide (((x6.l.length : Nat) : Int) = (1 : Int))) && ((x8 == ([122] : Bs))))) (((TQuery.mk (⟨false, [(TOp.mk (1 : Int) ([113] : Bs) (⟨false, [(TVar.mk ([109] : Bs) (TRef.mk ([73, 110, 116] : Bs) (Sl.nil : Sl Int)) false TValue.zero)]⟩ : Sl TVar) (⟨false, [(TSel.mk (1 : Int) ([] : Bs) ([120] : Bs) ([] : Bs) (⟨false, [(TArg.mk ([110] : Bs) (TValue.mk (7 : Int) (0 : Int) ([122] : Bs) true ([]) (Sl.nil : Sl Bs)))]⟩ : Sl TArg) (Sl.nil : Sl TDir) true ([]))]⟩ : Sl TSel))]⟩ : Sl TOp) (Sl.nil : Sl TFrag)).FOps).l[0]?) TOp.zero fun x9 => guardO (((decide (((x6.l.length : Nat) : Int) = (1 : Int))) && ((x8 == ([122] : Bs))))) (x9.FVars.l[0]?) TVar.zero fun x10 => guardO (((decide (((x6.l.length : Nat) : Int) = (1 : Int))) && ((x8 == ([122] : Bs))))) (Z45 (TDoc.mk (⟨false, [(TDef.mk (1 : Int) ([81, 117, 101, 114, 121] : Bs) (Sl.nil : Sl Bs) (Sl.nil : Sl TDir) (⟨false, [(TField.mk ([120] : Bs) (⟨false, [(TInput.mk ([110] : Bs) (TRef.mk ([73, 110, 116] : Bs) (Sl.nil : Sl Int)) false TValue.zero (Sl.nil : Sl TDir))]⟩ : Sl TInput) (TRef.mk ([73, 110, 116] : Bs) (Sl.nil : Sl Int)) (Sl.nil : Sl TDir))]⟩ : Sl TField) (Sl.nil : Sl TMember) (Sl.nil : Sl TInput))]⟩ : Sl TDef)) x10 (TRef.mk ([73, 110, 116] : Bs) (Sl.nil : Sl Int)) false) false fun x11 => guardO ((((decide (((x6.l.length : Nat) : Int) = (1 : Int))) && ((x8 == ([122] : Bs)))) && x11)) (Z44 (TDoc.mk (⟨false, [(TDef.mk (1 : Int) ([81, 117, 101, 114, 121] : Bs) (Sl.nil : Sl Bs) (Sl.nil : Sl TDir) (⟨false, [(TField.mk ([120] : Bs) (⟨false, [(TInput.mk ([110] : Bs) (TRef.mk ([73, 110, 116] : Bs) (Sl.nil : Sl Int)) false TValue.zero (Sl.nil : Sl TDir))]⟩ : Sl TInput) (TRef.mk ([73, 110, 116] : Bs) (Sl.nil : Sl Int)) (Sl.nil : Sl TDir))]⟩ : Sl TField) (Sl.nil : Sl TMember) (Sl.nil : Sl TInput))]⟩ : Sl TDef)) (TQuery.mk (⟨false, [(TOp.mk (1 : Int) ([113] : Bs) (⟨false, [(TVar.mk ([109] : Bs) (TRef.mk ([73, 110, 116] : Bs) (Sl.nil : Sl Int)) false TValue.zero)]⟩ : Sl TVar) (⟨false, [(TSel.mk (1 : Int) ([] : Bs) ([120] : Bs) ([] : Bs) (⟨false, [(TArg.mk ([110] : Bs) (TValue.mk (7 : Int) (0 : Int) ([122] : Bs) true ([]) (Sl.nil : Sl Bs)))]⟩ : Sl TArg) (Sl.nil : Sl TDir) true ([]))]⟩ : Sl TSel))]⟩ : Sl TOp) (Sl.nil : Sl TFrag))) (Sl.nil : Sl TFault) fun x12 => guardO ((((decide (((x6.l.length : Nat) : Int) = (1 : Int))) && ((x8 == ([122] : Bs)))) && x11)) (Z7 x12 (⟨false, [(TFault.mk (26 : Int) ([113] : Bs)), (TFault.mk (27 : Int) ([113, 47, 120] : Bs))]⟩ : Sl TFault)) false fun x13 => some ((((decide (((x6.l.length : Nat) : Int) = (1 : Int))) && ((x8 == ([122] : Bs)))) && x11) && x13)
theorem Z6_walk    {r : Bool} (hE : Z6  = some r) (H : Heap)  : ACalls Tryd.prog 6 [] H fun v h' => v = .a (.d (.bool r)) ∧ h' = H := by
 unfold Z6 at hE
 refine ACalls.of_wp (fn := Tryd.f6) (c := _) Tryd.tab_ok (fun _ _ => Tryd.call6 _ _) Tryd.func6 rfl (n := 58) rfl (rs := [.tmp 0]) rfl rfl ?_
 refine seqK fun K1 hK1 => ?_
 refine region ?_
 refine s0 assignA rfl ?_
 refine nil ?_
 refine hK1 _ ?_
 clear hK1 K1
 refine seqK fun K2 hK2 => ?_
 refine region ?_
 refine s0 (build Tryd.tab_ok rfl rfl rfl rfl rfl rfl) rfl ?_
 refine s0 (build Tryd.tab_ok rfl rfl rfl rfl rfl rfl) rfl ?_
 refine s0 (buildSlice (TK rfl) rfl (TK rfl) rfl rfl rfl rfl rfl rfl) rfl ?_
 refine s0 (build Tryd.tab_ok rfl rfl rfl rfl rfl rfl) rfl ?_
 refine sL (allocLA (TK rfl) rfl) rfl ?_
 refine sLn (storeLFA (TK rfl) rfl rfl rfl rfl rfl) ?_
 refine nil ?_
 refine hK2 _ ?_
 clear hK2 K2
 refine freezeA 1 _ rfl Keeps.nil ?_
 refine seqK fun K3 hK3 => ?_
 refine region ?_
 refine s0 (build Tryd.tab_ok rfl rfl rfl rfl rfl rfl) rfl ?_
 refine s0 (build Tryd.tab_ok rfl rfl rfl rfl rfl rfl) rfl ?_
 refine s0 (build Tryd.tab_ok rfl rfl rfl rfl rfl rfl) rfl ?_
 refine s0 (buildSlice (TK rfl) rfl (TK rfl) rfl rfl rfl rfl rfl rfl) rfl ?_
 refine s0 (build Tryd.tab_ok rfl rfl rfl rfl rfl rfl) rfl ?_
 refine s0 (buildSlice (TK rfl) rfl (TK rfl) rfl rfl rfl rfl rfl rfl) rfl ?_
 refine s0 (build Tryd.tab_ok rfl rfl rfl rfl rfl rfl) rfl ?_
 refine s0 (buildSlice (TK rfl) rfl (TK rfl) rfl rfl rfl rfl rfl rfl) rfl ?_
 refine s0 (build Tryd.tab_ok rfl rfl rfl rfl rfl rfl) rfl ?_
 refine sL (allocLA (TK rfl) rfl) rfl ?_
 refine sLn (storeLFA (TK rfl) rfl rfl rfl rfl rfl) ?_
 refine nil ?_
 refine hK3 _ ?_
 clear hK3 K3
 refine freezeA 2 _ rfl (Keeps.c (k := 1) (by conv => lhs; whnf) (by rfl) Keeps.nil) ?_
 refine seqK fun K4 hK4 => ?_
 refine region ?_
 refine s0 (build Tryd.tab_ok rfl rfl rfl rfl rfl rfl) rfl ?_
 refine s0 (build Tryd.tab_ok rfl rfl rfl rfl rfl rfl) rfl ?_
 refine s0 (buildSlice (TK rfl) rfl (TK rfl) rfl rfl rfl rfl rfl rfl) rfl ?_
 refine s0 (loadV (TK rfl) rfl rfl rfl) rfl ?_
 refine s0 (buildSlice (TK rfl) rfl (TK rfl) rfl rfl rfl rfl rfl rfl) rfl ?_
 refine s0 (build Tryd.tab_ok rfl rfl rfl rfl rfl rfl) rfl ?_
 refine s0 (buildSlice (TK rfl) rfl (TK rfl) rfl rfl rfl rfl rfl rfl) rfl ?_
 refine s0 (build Tryd.tab_ok rfl rfl rfl rfl rfl rfl) rfl ?_
 refine sL (allocLA (TK rfl) rfl) rfl ?_
 refine sLn (storeLFA (TK rfl) rfl rfl rfl rfl rfl) ?_
 refine nil ?_
 refine hK4 _ ?_
 clear hK4 K4
 refine freezeA 3 _ rfl (Keeps.c (k := 2) (by conv => lhs; whnf) (by rfl) Keeps.nil) ?_
 refine seqK fun K5 hK5 => ?_
 refine region ?_
 refine s0 (loadV (TK rfl) rfl rfl rfl) rfl ?_
 obtain ⟨x6, gx6, hE⟩ := bindO_some hE
 refine s0 (callP rfl rfl (fun H => Z46_walk gx6 H)) rfl ?_
 refine s0 assignA rfl ?_
 refine nil ?_
 refine hK5 _ ?_
 clear hK5 K5
 refine seqK fun K7 hK7 => ?_
 refine AWp.draw rfl ?_
 refine DOps.s0 moveA rfl ?_
 refine DOps.s0 (lenM' (f := strE) (s := x6) (TK rfl) rfl rfl rfl) rfl ?_
 refine DOps.s0 (binI rfl rfl rfl) rfl ?_
 refine DOps.s0 moveA rfl ?_
 refine DOps.gC rfl rfl (fun hC => moveA) rfl ?_
 obtain ⟨x8, gx8, hE⟩ := guardO_some hE
 refine DOps.gC rfl rfl (fun hC => ungdA (k := 32) rfl (idxMn (f := strE) (n := 0) (TK rfl) rfl (TK rfl) rfl rfl rfl (gx8 hC))) rfl ?_
 refine DOps.gC rfl rfl (fun hC => ungdA (k := 33) rfl (loadV (TK rfl) rfl rfl rfl)) rfl ?_
 refine DOps.gC rfl rfl (fun hC => ungdA (k := 34) rfl (binS rfl rfl rfl)) rfl ?_
 refine DOps.s0 (pickAndA rfl rfl rfl) rfl ?_
 refine DOps.s0 moveA rfl ?_
 refine DOps.gC rfl rfl (fun hC => loadV (TK rfl) rfl rfl rfl) rfl ?_
 refine DOps.gC rfl rfl (fun hC => fieldVA (TK rfl) rfl rfl (TK rfl) rfl rfl) rfl ?_
 refine DOps.gC rfl rfl (fun hC => ungdA (k := 39) rfl (loadV (TK rfl) rfl rfl rfl)) rfl ?_
 obtain ⟨x9, gx9, hE⟩ := guardO_some hE
 refine DOps.gC rfl rfl (fun hC => ungdA (k := 40) rfl (idxMn (f := TOp.c) (n := 0) (TK rfl) rfl (TK rfl) rfl rfl rfl (gx9 hC))) rfl ?_
 refine DOps.gC rfl rfl (fun hC => ungdA (k := 41) rfl (fieldVA (TK rfl) rfl rfl (TK rfl) rfl rfl)) rfl ?_
 refine DOps.gC rfl rfl (fun hC => ungdA (k := 42) rfl (loadV (TK rfl) rfl rfl rfl)) rfl ?_
 obtain ⟨x10, gx10, hE⟩ := guardO_some hE
 refine DOps.gC rfl rfl (fun hC => ungdA (k := 43) rfl (idxMn (f := TVar.c) (n := 0) (TK rfl) rfl (TK rfl) rfl rfl rfl (gx10 hC))) rfl ?_
 refine DOps.gC rfl rfl (fun hC => ungdA (k := 44) rfl (loadV (TK rfl) rfl rfl rfl)) rfl ?_
 refine DOps.gC rfl rfl (fun hC => build Tryd.tab_ok rfl rfl rfl rfl rfl rfl) rfl ?_
 obtain ⟨x11, gx11, hE⟩ := guardO_some hE
 refine DOps.gC rfl rfl (fun hC => ungdA (k := 38) rfl (ungdA (k := 45) rfl (ungdA (k := 46) rfl (callP rfl rfl (fun H => Z45_walk (gx11 hC) H))))) rfl ?_
 refine DOps.s0 (pickAndA rfl rfl rfl) rfl ?_
 refine DOps.s0 moveA rfl ?_
 refine DOps.gC rfl rfl (fun hC => loadV (TK rfl) rfl rfl rfl) rfl ?_
 refine DOps.gC rfl rfl (fun hC => loadV (TK rfl) rfl rfl rfl) rfl ?_
 obtain ⟨x12, gx12, hE⟩ := guardO_some hE
 refine DOps.gC rfl rfl (fun hC => ungdA (k := 50) rfl (ungdA (k := 51) rfl (callP rfl rfl (fun H => Z44_walk (gx12 hC) H)))) rfl ?_
 refine DOps.gC rfl rfl (fun hC => build Tryd.tab_ok rfl rfl rfl rfl rfl rfl) rfl ?_
 refine DOps.gC rfl rfl (fun hC => build Tryd.tab_ok rfl rfl rfl rfl rfl rfl) rfl ?_
 refine DOps.gC rfl rfl (fun hC => ungdA (k := 53) rfl (ungdA (k := 54) rfl (buildSlice (TK rfl) rfl (TK rfl) rfl rfl rfl rfl rfl rfl))) rfl ?_
 obtain ⟨x13, gx13, hE⟩ := guardO_some hE
 refine DOps.gC rfl rfl (fun hC => ungdA (k := 52) rfl (ungdA (k := 55) rfl (callP rfl rfl (fun H => Z7_walk (gx13 hC) H)))) rfl ?_
 refine DOps.s0 (pickAndA rfl rfl rfl) rfl ?_
 refine DOps.s0 assignA rfl ?_
 refine DOps.nil (by decide +kernel) ?_
 refine hK7 _ ?_
 clear hK7 K7
 refine AWp.ret ?_
 repeat (first | refine xBlock_ret ?_ | refine xThen_ret ?_)
 obtain rfl := Option.some.inj hE
 refine retQ.retF H rfl ⟨rfl, rfl⟩ ?_
 exact (fun _ _ h => h)
def Z13_j2   : Option Bool := some false
def Z13_l5 (a0 : (Sl Bs)) (a1 : Bs)  : Nat → Nat → Option Bool
 | 0, _ => none
 | n5 + 1, s5_6 => bif (decide (((s5_6 : Nat) : Int) < ((a0.l.length : Nat) : Int))) then ((a0.l[s5_6]?).bind fun x13 => bif ((x13 == a1)) then (some true) else ((Z13_l5 a0 a1 n5) (s5_6 + 1))) else (Z13_j2   )
def Z13 (a0 : (Sl Bs)) (a1 : Bs) : Option Bool := Z13_l5 a0 a1 (a0.l.length + 1) 0
theorem Z13_walk {a0 : (Sl Bs)} {a1 : Bs} {w0 : Option Nat}  {r : Bool} (hE : Z13 a0 a1 = some r) (H : Heap)  : ACalls Tryd.prog 33 [.d (Sl.d 1 strE w0 a0), .d (.str a1)] H fun v h' => v = .a (.d (.bool r)) ∧ h' = H := by
 unfold Z13 at hE
 refine ACalls.of_wp (fn := Tryd.f33) (c := _) Tryd.tab_ok (fun _ _ => Tryd.call33 _ _) Tryd.func33 rfl (n := 18) rfl (rs := [.tmp 4]) rfl rfl ?_
 refine seqK fun K1 hK1 => ?_
 refine region ?_
 refine s0 assignA rfl ?_
 refine nil ?_
 refine hK1 _ ?_
 clear hK1 K1
 refine seqJH KeepsT.nil (fun (z : Unit) => []) (fun z => H) (fun z => Z13_j2  = some r) ?_ ?_
 ·intro K2 hK2
  refine seqK fun K4 hK4 => ?_
  refine region ?_
  refine s0 assignA rfl ?_
  refine nil ?_
  refine hK4 _ ?_
  clear hK4 K4
  refine block ?_
  refine loopH (KeepsT.A (k := 0) (KeepsT.A (k := 1) KeepsT.nil)) (fun (z : Nat × Nat) => [(5, .a (.d (.int .i64 ((z.2 : Nat) : Int))))]) (fun z => H) (fun z => z.1) (fun z => Z13_l5 a0 a1 z.1 z.2 = some r) ((a0.l.length + 1), 0) hE Weak.toA ?_
  rintro ⟨n5, s5_6⟩ hE K5 hK5
  try dsimp only at hE
  cases n5 with
  | zero => cases hE
  | succ n5 =>
    rw [Z13_l5] at hE
    refine seqK fun K7 hK7 => ?_
    refine seqK fun K8 hK8 => ?_
    refine region ?_
    refine s0 moveA rfl ?_
    refine s0 moveA rfl ?_
    refine sLen (f := strE) (s := a0) (TK rfl) rfl rfl rfl rfl fun hL9 => ?_
    refine s0 (binI rfl rfl rfl) rfl ?_
    refine nil ?_
    refine hK8 _ ?_
    clear hK8 K8
    refine condE hE rfl (fun hc10 hE => ?_) (fun hc10 hE => ?_)
    ·try dsimp only at hc10
     have hf10 := of_decide_eq_true hc10
     refine AWp.skip ?_
     refine hK7 _ ?_
     clear hK7 K7
     refine seqK fun K11 hK11 => ?_
     refine block ?_
     refine seqK fun K12 hK12 => ?_
     refine region ?_
     refine s0 moveA rfl ?_
     refine s0 moveA rfl ?_
     obtain ⟨x13, gx13, hE⟩ := bindO_some hE
     refine s0 (idxMn (f := strE) (n := s5_6) (TK rfl) rfl (TK rfl) rfl rfl rfl gx13) rfl ?_
     refine s0 (loadV (TK rfl) rfl rfl rfl) rfl ?_
     refine s0 moveA rfl ?_
     refine s0 (binS rfl rfl rfl) rfl ?_
     refine nil ?_
     refine hK12 _ ?_
     clear hK12 K12
     refine condE hE rfl (fun hc14 hE => ?_) (fun hc14 hE => ?_)
     ·refine seqK fun K15 hK15 => ?_
      refine region ?_
      refine s0 assignA rfl ?_
      refine nil ?_
      refine hK15 _ ?_
      clear hK15 K15
      refine AWp.ret ?_
      repeat (first | refine xBlock_ret ?_ | refine xThen_ret ?_)
      obtain rfl := Option.some.inj hE
      refine retQ.retF H rfl ⟨rfl, rfl⟩ ?_
      exact (fun _ _ h => h)
     refine AWp.skip ?_
     refine hK11 _ ?_
     clear hK11 K11
     refine region ?_
     refine s0 moveA rfl ?_
     refine s0 (addIA rfl rfl) rfl ?_
     refine s0 assignA rfl ?_
     refine nil ?_
     exact hK5 _ (n5, (s5_6 + 1)) Weak.toA hE (Nat.lt_succ_self _)
    refine AWp.exit ?_
    exact hK2 _ () Weak.toA hE
 rintro _ hE
 try dsimp only at hE
 unfold Z13_j2 at hE
 refine seqK fun K3 hK3 => ?_
 refine region ?_
 refine s0 assignA rfl ?_
 refine nil ?_
 refine hK3 _ ?_
 clear hK3 K3
 refine AWp.ret ?_
 repeat (first | refine xBlock_ret ?_ | refine xThen_ret ?_)
 obtain rfl := Option.some.inj hE
 refine retQ.retF H rfl ⟨rfl, rfl⟩ ?_
 exact (fun _ _ h => h)
def Z14_j5  (s1_6 : (Sl Bs)) : Option (Sl Bs) := some s1_6
def Z14_j12  (s1_13 : (Sl Bs)) : Option (Sl Bs) := some s1_13
def Z14_l16 (a0 : TValue) (k_rec_31 : TValue → (Sl Bs) → Option (Sl Bs)) : Nat → (Sl Bs) → Nat → Option (Sl Bs)
 | 0, _, _ => none
 | n16 + 1, s1_17, s5_18 => bif ((decide (((s5_18 : Nat) : Int) < ((a0.FItems.l.length : Nat) : Int))) && ((decide (a0.FKind = (5 : Int))) || (decide (a0.FKind = (6 : Int))))) then ((a0.FItems.l[s5_18]?).bind fun x24 => (k_rec_31 x24 s1_17).bind fun x25 => (Z14_l16 a0 k_rec_31 n16) x25 (s5_18 + 1)) else (Z14_j12   s1_17)
def Z14_n : Nat → TValue → (Sl Bs) → Option (Sl Bs)
 | 0, _, _ => none
 | n + 1, a0, a1 => bif (decide (a0.FKind = (7 : Int))) then ((Z13 a1 a0.FText).bind fun x9 => bif (!x9) then ((appC 16 a1 (⟨false, [a0.FText]⟩ : Sl Bs)).bind fun x11 => Z14_j5   x11) else (Z14_j5   a1)) else (Z14_l16 a0 (Z14_n n) (a0.FItems.l.length + 1) a1 0)
theorem Z14_step (n : Nat) (ih_31 : ∀ {a0 : TValue} {a1 : (Sl Bs)}  {g1 : Nat} {r : (Sl Bs)}, Z14_n n a0 a1 = some r → ∀ (H : Heap) (hg1 : H g1 = some (.tok 1 a1.l.length)), ACalls Tryd.prog 31 [.agg (TValue.c a0), .d (Sl.d 1 strE (some g1) a1)] H fun v h' => v = .a (.d (Sl.d 1 strE (some g1) r)) ∧ h' = (H.set g1 (some (.tok 1 r.l.length)))) : ∀ {a0 : TValue} {a1 : (Sl Bs)}  {g1 : Nat} {r : (Sl Bs)}, Z14_n (n + 1) a0 a1 = some r → ∀ (H : Heap) (hg1 : H g1 = some (.tok 1 a1.l.length)), ACalls Tryd.prog 31 [.agg (TValue.c a0), .d (Sl.d 1 strE (some g1) a1)] H fun v h' => v = .a (.d (Sl.d 1 strE (some g1) r)) ∧ h' = (H.set g1 (some (.tok 1 r.l.length))) := by
 intro a0 a1  g1 r hE H hg1
 rw [Z14_n] at hE
 refine ACalls.of_wp (fn := Tryd.f31) (c := _) Tryd.tab_ok (fun _ _ => Tryd.call31 _ _) Tryd.func31 rfl (n := 45) rfl (rs := [.tmp 4]) rfl rfl ?_
 refine AWp.heqA (h' := (H.set g1 (some (.tok 1 a1.l.length)))) (by funext n_; simp only [Heap.set]; (repeat' split) <;> simp_all) ?_
 refine seqK fun K1 hK1 => ?_
 refine region ?_
 refine s0 (boxV rfl) rfl ?_
 refine s0 assignA rfl ?_
 refine nil ?_
 refine hK1 _ ?_
 clear hK1 K1
 refine seqK fun K2 hK2 => ?_
 refine seqK fun K3 hK3 => ?_
 refine region ?_
 refine s0 (fieldVA (TK rfl) rfl rfl (TK rfl) rfl rfl) rfl ?_
 refine s0 (loadV (TK rfl) rfl rfl rfl) rfl ?_
 refine s0 (binI rfl rfl rfl) rfl ?_
 refine nil ?_
 refine hK3 _ ?_
 clear hK3 K3
 refine condE hE rfl (fun hc4 hE => ?_) (fun hc4 hE => ?_)
 ·refine seqJH KeepsT.nil (fun (z : (Sl Bs)) => [(1, .a (.d (Sl.d 1 strE (some g1) z)))]) (fun z => (H.set g1 (some (.tok 1 z.l.length)))) (fun z => Z14_j5 z = some r) ?_ ?_
  ·intro K5 hK5
   refine seqK fun K8 hK8 => ?_
   refine region ?_
   refine s0 moveA rfl ?_
   refine s0 (fieldVA (TK rfl) rfl rfl (TK rfl) rfl rfl) rfl ?_
   refine s0 (loadV (TK rfl) rfl rfl rfl) rfl ?_
   obtain ⟨x9, gx9, hE⟩ := bindO_some hE
   refine s0 (callP rfl rfl (fun H => Z13_walk gx9 H)) rfl ?_
   refine s0 (notB rfl) rfl ?_
   refine nil ?_
   refine hK8 _ ?_
   clear hK8 K8
   refine condE hE rfl (fun hc10 hE => ?_) (fun hc10 hE => ?_)
   ·refine region ?_
    refine s0 moveA rfl ?_
    refine s0 (fieldVA (TK rfl) rfl rfl (TK rfl) rfl rfl) rfl ?_
    refine s0 (loadV (TK rfl) rfl rfl rfl) rfl ?_
    refine s0 (buildSlice (TK rfl) rfl (TK rfl) rfl rfl rfl rfl rfl rfl) rfl ?_
    obtain ⟨x11, gx11, hE⟩ := bindO_some hE
    refine sH (appM (f := strE) (TK rfl) rfl (TK rfl) (TK rfl) ⟨_, rfl⟩ rfl rfl (by decide) rfl rfl rfl rfl hpG rfl gx11) rfl ?_
    refine AOps.heq (h' := (H.set g1 (some (.tok 1 x11.l.length)))) (by first | rfl | (rw [Heap.set_set]; rfl) | (funext n_; simp only [Heap.set]; (repeat' split) <;> first | rfl | (exfalso; simp_all; done) | (simp_all; done))) ?_
    refine s0 assignA rfl ?_
    refine nil ?_
    exact hK5 _ x11 Weak.toA hE
   refine AWp.skip ?_
   exact hK5 _ a1 Weak.toA hE
  rintro s1_6 hE
  try dsimp only at hE
  unfold Z14_j5 at hE
  refine seqK fun K7 hK7 => ?_
  refine region ?_
  refine s0 moveA rfl ?_
  refine s0 assignA rfl ?_
  refine nil ?_
  refine hK7 _ ?_
  clear hK7 K7
  refine AWp.ret ?_
  repeat (first | refine xBlock_ret ?_ | refine xThen_ret ?_)
  obtain rfl := Option.some.inj hE
  refine retQ.retF (H.set g1 (some (.tok 1 s1_6.l.length))) rfl ⟨rfl, rfl⟩ ?_
  exact (fun _ _ h => h)
 refine AWp.skip ?_
 refine hK2 _ ?_
 clear hK2 K2
 refine seqJH KeepsT.nil (fun (z : (Sl Bs)) => [(1, .a (.d (Sl.d 1 strE (some g1) z)))]) (fun z => (H.set g1 (some (.tok 1 z.l.length)))) (fun z => Z14_j12 z = some r) ?_ ?_
 ·intro K12 hK12
  refine seqK fun K15 hK15 => ?_
  refine region ?_
  refine s0 assignA rfl ?_
  refine nil ?_
  refine hK15 _ ?_
  clear hK15 K15
  refine block ?_
  refine loopH (KeepsT.A (k := 2) KeepsT.nil) (fun (z : Nat × (Sl Bs) × Nat) => [(1, .a (.d (Sl.d 1 strE (some g1) z.2.1))), (5, .a (.d (.int .i64 ((z.2.2 : Nat) : Int))))]) (fun z => (H.set g1 (some (.tok 1 z.2.1.l.length)))) (fun z => z.1) (fun z => Z14_l16 a0 (Z14_n n) z.1 z.2.1 z.2.2 = some r) ((a0.FItems.l.length + 1), a1, 0) hE Weak.toA ?_
  rintro ⟨n16, s1_17, s5_18⟩ hE K16 hK16
  try dsimp only at hE
  cases n16 with
  | zero => cases hE
  | succ n16 =>
    rw [Z14_l16] at hE
    refine seqK fun K19 hK19 => ?_
    refine seqK fun K20 hK20 => ?_
    refine region ?_
    refine s0 moveA rfl ?_
    refine s0 (fieldVA (TK rfl) rfl rfl (TK rfl) rfl rfl) rfl ?_
    refine s0 (loadV (TK rfl) rfl rfl (congrArg (fun x => some (A.d x)) (TValue.FItemsD_eq _))) rfl ?_
    refine sLen (f := TValue.c) (s := a0.FItems) (TK rfl) rfl rfl rfl rfl fun hL21 => ?_
    refine s0 (binI rfl rfl rfl) rfl ?_
    refine s0 moveA rfl ?_
    refine gC rfl rfl (fun hC => fieldVA (TK rfl) rfl rfl (TK rfl) rfl rfl) rfl ?_
    refine gC rfl rfl (fun hC => ungdA (k := 26) rfl (loadV (TK rfl) rfl rfl rfl)) rfl ?_
    refine gC rfl rfl (fun hC => ungdA (k := 27) rfl (binI rfl rfl rfl)) rfl ?_
    refine gC rfl rfl (fun hC => ungdA (k := 28) rfl moveA) rfl ?_
    refine gC rfl rfl (fun hC => fieldVA (TK rfl) rfl rfl (TK rfl) rfl rfl) rfl ?_
    refine gC rfl rfl (fun hC => ungdA (k := 30) rfl (loadV (TK rfl) rfl rfl rfl)) rfl ?_
    refine gC rfl rfl (fun hC => ungdA (k := 31) rfl (binI rfl rfl rfl)) rfl ?_
    refine gC rfl rfl (fun hC => ungdA (k := 29) rfl (pickOrA rfl rfl rfl)) rfl ?_
    refine s0 (pickAndA rfl rfl rfl) rfl ?_
    refine nil ?_
    refine hK20 _ ?_
    clear hK20 K20
    refine condE hE rfl (fun hc22 hE => ?_) (fun hc22 hE => ?_)
    ·try dsimp only at hc22
     have hf22 := of_decide_eq_true (and_left hc22)
     refine AWp.skip ?_
     refine hK19 _ ?_
     clear hK19 K19
     refine seqK fun K23 hK23 => ?_
     refine block ?_
     refine region ?_
     refine s0 (fieldVA (TK rfl) rfl rfl (TK rfl) rfl rfl) rfl ?_
     refine s0 (loadV (TK rfl) rfl rfl (congrArg (fun x => some (A.d x)) (TValue.FItemsD_eq _))) rfl ?_
     refine s0 moveA rfl ?_
     obtain ⟨x24, gx24, hE⟩ := bindO_some hE
     refine s0 (idxMn (f := TValue.c) (n := s5_18) (TK rfl) rfl (TK rfl) rfl rfl rfl gx24) rfl ?_
     refine s0 (loadV (TK rfl) rfl rfl rfl) rfl ?_
     refine s0 moveA rfl ?_
     obtain ⟨x25, gx25, hE⟩ := bindO_some hE
     refine sH (callH rfl rfl (ih_31 gx25 _ hpG)) rfl ?_
     refine AOps.heq (h' := (H.set g1 (some (.tok 1 x25.l.length)))) (by first | rfl | (rw [Heap.set_set]; rfl) | (funext n_; simp only [Heap.set]; (repeat' split) <;> first | rfl | (exfalso; simp_all; done) | (simp_all; done))) ?_
     refine s0 assignA rfl ?_
     refine nil ?_
     refine hK23 _ ?_
     clear hK23 K23
     refine region ?_
     refine s0 moveA rfl ?_
     refine s0 (addIA rfl rfl) rfl ?_
     refine s0 assignA rfl ?_
     refine nil ?_
     exact hK16 _ (n16, x25, (s5_18 + 1)) Weak.toA hE (Nat.lt_succ_self _)
    refine AWp.exit ?_
    exact hK12 _ s1_17 Weak.toA hE
 rintro s1_13 hE
 try dsimp only at hE
 unfold Z14_j12 at hE
 refine seqK fun K14 hK14 => ?_
 refine region ?_
 refine s0 moveA rfl ?_
 refine s0 assignA rfl ?_
 refine nil ?_
 refine hK14 _ ?_
 clear hK14 K14
 refine AWp.ret ?_
 repeat (first | refine xBlock_ret ?_ | refine xThen_ret ?_)
 obtain rfl := Option.some.inj hE
 refine retQ.retF (H.set g1 (some (.tok 1 s1_13.l.length))) rfl ⟨rfl, rfl⟩ ?_
 exact (fun _ _ h => h)
theorem Z14_all : ∀ (n : Nat), (∀ {a0 : TValue} {a1 : (Sl Bs)}  {g1 : Nat} {r : (Sl Bs)}, Z14_n n a0 a1 = some r → ∀ (H : Heap) (hg1 : H g1 = some (.tok 1 a1.l.length)), ACalls Tryd.prog 31 [.agg (TValue.c a0), .d (Sl.d 1 strE (some g1) a1)] H fun v h' => v = .a (.d (Sl.d 1 strE (some g1) r)) ∧ h' = (H.set g1 (some (.tok 1 r.l.length))))
 | 0 => fun hE => by first | cases hE | (rw [Z14_n] at hE; cases hE)
 | n + 1 => Z14_step n (Z14_all n)
def Z14 (a0 : TValue) (a1 : (Sl Bs)) : Option (Sl Bs) := Z14_n F0 a0 a1
theorem Z14_walk {a0 : TValue} {a1 : (Sl Bs)}  {g1 : Nat} {r : (Sl Bs)} (hE : Z14 a0 a1 = some r) (H : Heap) (hg1 : H g1 = some (.tok 1 a1.l.length)) : ACalls Tryd.prog 31 [.agg (TValue.c a0), .d (Sl.d 1 strE (some g1) a1)] H fun v h' => v = .a (.d (Sl.d 1 strE (some g1) r)) ∧ h' = (H.set g1 (some (.tok 1 r.l.length))) := (Z14_all F0) hE H hg1
def Z8_j2  (y3_l0 : TFrag) : Option (TFrag × Bool) := some ((TFrag.mk ([] : Bs) ([] : Bs) (Sl.nil : Sl TSel)), false)
def Z8_l6 (a0 : TQuery) (a1 : Bs)  : Nat → Nat → TFrag → Option (TFrag × Bool)
 | 0, _, _ => none
 | n6 + 1, s6_7, y8_l0 => bif (decide (((s6_7 : Nat) : Int) < ((a0.FFrags.l.length : Nat) : Int))) then ((a0.FFrags.l[s6_7]?).bind fun x15 => bif ((x15.FName == a1)) then ((a0.FFrags.l[s6_7]?).bind fun x18 => some (x18, true)) else ((Z8_l6 a0 a1 n6) (s6_7 + 1) y8_l0)) else (Z8_j2   y8_l0)
def Z8 (a0 : TQuery) (a1 : Bs) : Option (TFrag × Bool) := Z8_l6 a0 a1 (a0.FFrags.l.length + 1) 0 TFrag.zero
theorem Z8_walk {a0 : TQuery} {a1 : Bs}   {r : (TFrag × Bool)} (hE : Z8 a0 a1 = some r) (H : Heap)  : ACalls Tryd.prog 32 [.agg (TQuery.c a0), .d (.str a1)] H fun v h' => v = .tup [.agg (TFrag.c r.1), .d (.bool r.2)] ∧ h' = H := by
 unfold Z8 at hE
 refine ACalls.of_wp (fn := Tryd.f32) (c := _) Tryd.tab_ok (fun _ _ => Tryd.call32 _ _) Tryd.func32 rfl (n := 28) rfl (rs := [.cell 4 52, .tmp 5]) rfl rfl ?_
 refine seqK fun K1 hK1 => ?_
 refine region ?_
 refine s0 (boxV rfl) rfl ?_
 refine sL (allocLA (TK rfl) rfl) rfl ?_
 refine s0 assignA rfl ?_
 refine nil ?_
 refine hK1 _ ?_
 clear hK1 K1
 refine seqJ (KeepsT.A (k := 4) KeepsT.nil) (fun (z : TFrag) => []) (fun z => [TFrag.c z]) (fun z => H) (fun z => Z8_j2 z = some r) ?_ ?_
 ·intro K2 hK2
  refine seqK fun K5 hK5 => ?_
  refine region ?_
  refine s0 assignA rfl ?_
  refine nil ?_
  refine hK5 _ ?_
  clear hK5 K5
  refine block ?_
  refine loopO (KeepsT.A (k := 1) (KeepsT.A (k := 2) (KeepsT.A (k := 4) KeepsT.nil))) (fun (z : Nat × Nat × TFrag) => [(6, .a (.d (.int .i64 ((z.2.1 : Nat) : Int))))]) (fun z => [TFrag.c z.2.2]) (fun z => H) (fun z => z.1) (fun z => Z8_l6 a0 a1 z.1 z.2.1 z.2.2 = some r) ((a0.FFrags.l.length + 1), 0, TFrag.zero) hE Weak.toA ?_
  rintro ⟨n6, s6_7, y8_l0⟩ hE K6 hK6
  try dsimp only at hE
  cases n6 with
  | zero => cases hE
  | succ n6 =>
    rw [Z8_l6] at hE
    refine seqK fun K9 hK9 => ?_
    refine seqK fun K10 hK10 => ?_
    refine region ?_
    refine s0 moveA rfl ?_
    refine s0 (fieldVA (TK rfl) rfl rfl (TK rfl) rfl rfl) rfl ?_
    refine s0 (loadV (TK rfl) rfl rfl rfl) rfl ?_
    refine sLen (f := TFrag.c) (s := a0.FFrags) (TK rfl) rfl rfl rfl rfl fun hL11 => ?_
    refine s0 (binI rfl rfl rfl) rfl ?_
    refine nil ?_
    refine hK10 _ ?_
    clear hK10 K10
    refine condE hE rfl (fun hc12 hE => ?_) (fun hc12 hE => ?_)
    ·try dsimp only at hc12
     have hf12 := of_decide_eq_true hc12
     refine AWp.skip ?_
     refine hK9 _ ?_
     clear hK9 K9
     refine seqK fun K13 hK13 => ?_
     refine block ?_
     refine seqK fun K14 hK14 => ?_
     refine region ?_
     refine s0 (fieldVA (TK rfl) rfl rfl (TK rfl) rfl rfl) rfl ?_
     refine s0 (loadV (TK rfl) rfl rfl rfl) rfl ?_
     refine s0 moveA rfl ?_
     obtain ⟨x15, gx15, hE⟩ := bindO_some hE
     refine s0 (idxMn (f := TFrag.c) (n := s6_7) (TK rfl) rfl (TK rfl) rfl rfl rfl gx15) rfl ?_
     refine s0 (fieldVA (TK rfl) rfl rfl (TK rfl) rfl rfl) rfl ?_
     refine s0 (loadV (TK rfl) rfl rfl rfl) rfl ?_
     refine s0 moveA rfl ?_
     refine s0 (binS rfl rfl rfl) rfl ?_
     refine nil ?_
     refine hK14 _ ?_
     clear hK14 K14
     refine condE hE rfl (fun hc16 hE => ?_) (fun hc16 hE => ?_)
     ·refine seqK fun K17 hK17 => ?_
      refine region ?_
      refine s0 (fieldVA (TK rfl) rfl rfl (TK rfl) rfl rfl) rfl ?_
      refine s0 (loadV (TK rfl) rfl rfl rfl) rfl ?_
      refine s0 moveA rfl ?_
      obtain ⟨x18, gx18, hE⟩ := bindO_some hE
      refine s0 (idxMn (f := TFrag.c) (n := s6_7) (TK rfl) rfl (TK rfl) rfl rfl rfl gx18) rfl ?_
      refine s0 (loadV (TK rfl) rfl rfl rfl) rfl ?_
      refine sLn (storeLFA (TK rfl) rfl rfl rfl rfl rfl) ?_
      refine s0 assignA rfl ?_
      refine nil ?_
      refine hK17 _ ?_
      clear hK17 K17
      refine AWp.ret ?_
      repeat (first | refine xBlock_ret ?_ | refine xThen_ret ?_)
      obtain rfl := Option.some.inj hE
      refine retQ.retF H rfl ⟨rfl, rfl⟩ ?_
      exact (fun _ _ h => h)
     refine AWp.skip ?_
     refine hK13 _ ?_
     clear hK13 K13
     refine region ?_
     refine s0 moveA rfl ?_
     refine s0 (addIA rfl rfl) rfl ?_
     refine s0 assignA rfl ?_
     refine nil ?_
     exact hK6 _ (n6, (s6_7 + 1), y8_l0) Weak.toA hE (Nat.lt_succ_self _)
    refine AWp.exit ?_
    exact hK2 _ y8_l0 Weak.toA hE
 rintro y3_l0 hE
 try dsimp only at hE
 unfold Z8_j2 at hE
 refine seqK fun K4 hK4 => ?_
 refine region ?_
 refine s0 (build Tryd.tab_ok rfl rfl rfl rfl rfl rfl) rfl ?_
 refine sLn (storeLFA (TK rfl) rfl rfl rfl rfl rfl) ?_
 refine s0 assignA rfl ?_
 refine nil ?_
 refine hK4 _ ?_
 clear hK4 K4
 refine AWp.ret ?_
 repeat (first | refine xBlock_ret ?_ | refine xThen_ret ?_)
 obtain rfl := Option.some.inj hE
 refine retQ.retF H rfl ⟨rfl, rfl⟩ ?_
 exact (fun _ _ h => h)
end Go.Proofs
