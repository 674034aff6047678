import Derived.Test.YtfmbgiahleepfaeGreatDoorV1
import Derived.Test.YtfmbgiahleepfaeGreatDoorRows
set_option maxRecDepth 100000
set_option maxHeartbeats 2000000
set_option linter.unusedVariables false
set_option linter.unusedSimpArgs false
namespace Go.Proofs
open Go Go.Ab
open AOps Cert AWp
variable {lou : Lou}
def Z0_j9  (y10_id19_3 : Changes_differ) : Option (Sl TChange) := some y10_id19_3.Fout
def Z0_j20 (s91_15 : Nat) (k_next_14 : Nat → Changes_differ → Option (Sl TChange)) (y21_id19_3 : Changes_differ) : Option (Sl TChange) := k_next_14 (s91_15 + 1) y21_id19_3
def Z0_l14 (a0 : TDoc) (a1 : TDoc)  : Nat → Nat → Changes_differ → Option (Sl TChange)
 | 0, _, _ => none
 | n14 + 1, s91_15, y16_id19_3 => bif (decide (((s91_15 : Nat) : Int) < ((a1.FDefs.l.length : Nat) : Int))) then ((a1.FDefs.l[s91_15]?).bind fun x23 => (Z31 a0 x23.FName).bind fun x26 => bif (!x26.2) then ((Z10 x23.FKind).bind fun x29 => (Z3 (Changes_differ.mk x23.FName y16_id19_3.Fout) (2 : Int) ([] : Bs) ([] : Bs) ([] : Bs) x29).bind fun x30 => Z0_j20 s91_15 ((Z0_l14 a0 a1 n14)) x30) else (Z0_j20 s91_15 ((Z0_l14 a0 a1 n14)) (Changes_differ.mk x23.FName y16_id19_3.Fout))) else (Z0_j9   y16_id19_3)
def Z0_j7 (a0 : TDoc) (a1 : TDoc)  (y8_id19_3 : Changes_differ) : Option (Sl TChange) := Z0_l14 a0 a1 (a1.FDefs.l.length + 1) 0 y8_id19_3
def Z0_j39 (s50_34 : Nat) (k_next_33 : Nat → Changes_differ → Option (Sl TChange)) (y40_id19_3 : Changes_differ) : Option (Sl TChange) := k_next_33 (s50_34 + 1) y40_id19_3
def Z0_l33 (a0 : TDoc) (a1 : TDoc)  : Nat → Nat → Changes_differ → Option (Sl TChange)
 | 0, _, _ => none
 | n33 + 1, s50_34, y35_id19_3 => bif (decide (((s50_34 : Nat) : Int) < ((a0.FDefs.l.length : Nat) : Int))) then ((a0.FDefs.l[s50_34]?).bind fun x42 => (Z31 a1 x42.FName).bind fun x45 => bif (!x45.2) then (Z0_j39 s50_34 ((Z0_l33 a0 a1 n33)) (Changes_differ.mk x42.FName y35_id19_3.Fout)) else (bif (!decide (x42.FKind = x45.1.FKind)) then ((Z10 x42.FKind).bind fun x50 => (Z10 x45.1.FKind).bind fun x51 => (Z3 (Changes_differ.mk x42.FName y35_id19_3.Fout) (3 : Int) ([] : Bs) ([] : Bs) x50 x51).bind fun x52 => Z0_j39 s50_34 ((Z0_l33 a0 a1 n33)) x52) else ((Z4 (Changes_differ.mk x42.FName y35_id19_3.Fout) x42 x45.1).bind fun x53 => Z0_j39 s50_34 ((Z0_l33 a0 a1 n33)) x53))) else (Z0_j7 a0 a1  y35_id19_3)
def Z0_j5 (a0 : TDoc) (a1 : TDoc)  (y6_id19_3 : Changes_differ) : Option (Sl TChange) := Z0_l33 a0 a1 (a0.FDefs.l.length + 1) 0 y6_id19_3
def Z0_j62 (s23_57 : Nat) (k_next_56 : Nat → Changes_differ → Option (Sl TChange)) (y63_id19_3 : Changes_differ) : Option (Sl TChange) := k_next_56 (s23_57 + 1) y63_id19_3
def Z0_l56 (a0 : TDoc) (a1 : TDoc)  : Nat → Nat → Changes_differ → Option (Sl TChange)
 | 0, _, _ => none
 | n56 + 1, s23_57, y58_id19_3 => bif (decide (((s23_57 : Nat) : Int) < ((a0.FDefs.l.length : Nat) : Int))) then ((a0.FDefs.l[s23_57]?).bind fun x65 => (Z31 a1 x65.FName).bind fun x68 => bif (!x68.2) then ((Z10 x65.FKind).bind fun x71 => (Z3 (Changes_differ.mk x65.FName y58_id19_3.Fout) (1 : Int) ([] : Bs) ([] : Bs) x71 ([] : Bs)).bind fun x72 => Z0_j62 s23_57 ((Z0_l56 a0 a1 n56)) x72) else (Z0_j62 s23_57 ((Z0_l56 a0 a1 n56)) (Changes_differ.mk x65.FName y58_id19_3.Fout))) else (Z0_j5 a0 a1  y58_id19_3)
def Z0 (a0 : TDoc) (a1 : TDoc) : Option (Sl TChange) := Z0_l56 a0 a1 (a0.FDefs.l.length + 1) 0 (Changes_differ.mk ([] : Bs) (Sl.nil : Sl TChange))
theorem Z0_walk {a0 : TDoc} {a1 : TDoc}   {r : (Sl TChange)} (hE : Z0 a0 a1 = some r) (H : Heap)  : ACalls Tryz.prog 25 [.agg (TDoc.c a0), .agg (TDoc.c a1)] H fun v h' => v = .a (.d (Sl.d 6 TChange.c none r)) ∧ h' = H := by
 unfold Z0 at hE
 refine ACalls.of_wp (fn := Tryz.f25) (c := _) Tryz.tab_ok (fun _ _ => Tryz.call25 _ _) Tryz.func25 rfl (n := 119) rfl (rs := [.tmp 4]) rfl rfl ?_
 refine seqK fun K1 hK1 => ?_
 refine region ?_
 refine s0 (boxV rfl) rfl ?_
 refine s0 (boxV rfl) rfl ?_
 refine s0 (assignNil (k' := 6) rfl) rfl ?_
 refine nil ?_
 refine hK1 _ ?_
 clear hK1 K1
 refine seqK fun K2 hK2 => ?_
 refine region ?_
 refine s0 (build Tryz.tab_ok rfl rfl rfl rfl rfl rfl) rfl ?_
 refine AOps.tok 6 fun tk19_4 htk19_4 => ?_
 refine sE (StepE.boxO rfl) rfl (fun _ _ _ ⟨id19_3, hid19_3, e1, e2, e3⟩ => ?_); subst e1 e2 e3
 obtain ⟨ne_id19_3_tk19_4, hid19_3⟩ := Heap.set_fresh hid19_3
 refine AOps.recell id19_3 _ hpG (fun j w cs hh hx => tok_cell 1 6 6 hh (t := tk19_4) hpG hx rfl) ?_
 refine AOps.heq (h' := ((H.set tk19_4 (some (.tok 6 0))).set id19_3 (some (.cells (Changes_differ.cg (some tk19_4) (Changes_differ.mk ([] : Bs) (Sl.nil : Sl TChange))))))) (by first | rfl | (rw [Heap.set_set]; rfl) | (funext n_; simp only [Heap.set]; (repeat' split) <;> first | rfl | (exfalso; simp_all; done) | (simp_all; done))) ?_
 refine s0 assignA rfl ?_
 refine nil ?_
 refine hK2 _ ?_
 clear hK2 K2
 refine seqJH (KeepsT.A (k := 2) (KeepsT.A (k := 3) (KeepsT.A (k := 5) KeepsT.nil))) (fun (z : Changes_differ) => []) (fun z => ((H.set tk19_4 (some (.tok 6 z.Fout.l.length))).set id19_3 (some (.cells (Changes_differ.cg (some tk19_4) z))))) (fun z => Z0_j5 a0 a1 z = some r) ?_ ?_
 ·intro K5 hK5
  refine seqK fun K54 hK54 => ?_
  refine region ?_
  refine s0 (fieldVA (TK rfl) rfl rfl (TK rfl) rfl rfl) rfl ?_
  refine s0 (loadV (TK rfl) rfl rfl rfl) rfl ?_
  refine sLen (f := TDef.c) (s := a0.FDefs) (TK rfl) rfl rfl rfl rfl fun hL55 => ?_
  refine s0 moveA rfl ?_
  refine nil ?_
  refine hK54 _ ?_
  clear hK54 K54
  refine block ?_
  refine loopH (KeepsT.A (k := 2) (KeepsT.A (k := 3) (KeepsT.A (k := 5) (KeepsT.A (k := 21) (KeepsT.A (k := 22) KeepsT.nil))))) (fun (z : Nat × Nat × Changes_differ) => [(23, .a (.d (.int .i64 ((z.2.1 : Nat) : Int))))]) (fun z => ((H.set tk19_4 (some (.tok 6 z.2.2.Fout.l.length))).set id19_3 (some (.cells (Changes_differ.cg (some tk19_4) z.2.2))))) (fun z => z.1) (fun z => Z0_l56 a0 a1 z.1 z.2.1 z.2.2 = some r) ((a0.FDefs.l.length + 1), 0, (Changes_differ.mk ([] : Bs) (Sl.nil : Sl TChange))) hE Weak.toA ?_
  rintro ⟨n56, s23_57, y58_id19_3⟩ hE K56 hK56
  try dsimp only at hE
  cases n56 with
  | zero => cases hE
  | succ n56 =>
    rw [Z0_l56] at hE
    refine seqK fun K59 hK59 => ?_
    refine region ?_
    refine s0 (binI rfl rfl rfl) rfl ?_
    refine nil ?_
    refine hK59 _ ?_
    clear hK59 K59
    refine seqK fun K60 hK60 => ?_
    refine condE hE rfl (fun hc61 hE => ?_) (fun hc61 hE => ?_)
    ·try dsimp only at hc61
     have hf61 := of_decide_eq_true hc61
     refine AWp.skip ?_
     refine hK60 _ ?_
     clear hK60 K60
     refine seqJH (KeepsT.A (k := 2) (KeepsT.A (k := 3) (KeepsT.A (k := 5) (KeepsT.A (k := 21) (KeepsT.A (k := 22) (KeepsT.A (k := 23) KeepsT.nil)))))) (fun (z : Changes_differ) => []) (fun z => ((H.set tk19_4 (some (.tok 6 z.Fout.l.length))).set id19_3 (some (.cells (Changes_differ.cg (some tk19_4) z))))) (fun z => Z0_j62 s23_57 ((Z0_l56 a0 a1 n56)) z = some r) ?_ ?_
     ·intro K62 hK62
      refine block ?_
      refine seqK fun K64 hK64 => ?_
      refine region ?_
      obtain ⟨x65, gx65, hE⟩ := bindO_some hE
      refine s0 (idxMn (f := TDef.c) (n := s23_57) (TK rfl) rfl (TK rfl) rfl rfl rfl gx65) rfl ?_
      refine s0 (loadV (TK rfl) rfl rfl rfl) rfl ?_
      refine sL (allocLA (TK rfl) rfl) rfl ?_
      refine sLn (storeLFA (TK rfl) rfl rfl rfl rfl rfl) ?_
      refine nil ?_
      refine hK64 _ ?_
      clear hK64 K64
      refine freezeA 7 _ rfl (Keeps.c (k := 2) (by conv => lhs; whnf) (by rfl) (Keeps.c (k := 3) (by conv => lhs; whnf) (by rfl) (Keeps.c (k := 5) (by conv => lhs; whnf) (by rfl) (Keeps.c (k := 21) (by conv => lhs; whnf) (by rfl) (Keeps.c (k := 22) (by conv => lhs; whnf) (by rfl) (Keeps.c (k := 23) (by conv => lhs; whnf) (by rfl) Keeps.nil)))))) ?_
      refine seqK fun K66 hK66 => ?_
      refine region ?_
      refine s0 moveA rfl ?_
      refine s0 (fieldVA (TK rfl) rfl rfl (TK rfl) rfl rfl) rfl ?_
      refine s0 (loadV (TK rfl) rfl rfl rfl) rfl ?_
      refine s0 (nilP rfl) rfl ?_
      refine s0 (fieldP (TK rfl) rfl rfl (TK rfl) rfl rfl) rfl ?_
      refine sHn (storeP1 (TK rfl) rfl rfl hpG rfl (by repeat (first | exact SetAt.zero | apply SetAt.succ))) rfl rfl ?_
      refine AOps.heq (h' := ((H.set tk19_4 (some (.tok 6 y58_id19_3.Fout.l.length))).set id19_3 (some (.cells (Changes_differ.cg (some tk19_4) (Changes_differ.mk x65.FName y58_id19_3.Fout)))))) (by first | rfl | (rw [Heap.set_set]; rfl) | (funext n_; simp only [Heap.set]; (repeat' split) <;> first | rfl | (exfalso; simp_all; done) | (simp_all; done))) ?_
      refine nil ?_
      refine hK66 _ ?_
      clear hK66 K66
      refine seqK fun K67 hK67 => ?_
      refine region ?_
      refine s0 (loadV (TK rfl) rfl rfl rfl) rfl ?_
      refine s0 (fieldVA (TK rfl) rfl rfl (TK rfl) rfl rfl) rfl ?_
      refine s0 (loadV (TK rfl) rfl rfl rfl) rfl ?_
      obtain ⟨x68, gx68, hE⟩ := bindO_some hE
      refine s0 (callP rfl rfl (fun H => Z31_walk gx68 H)) rfl ?_
      refine s0 moveA rfl ?_
      refine s0 (extract rfl rfl) rfl ?_
      refine s0 (extract rfl rfl) rfl ?_
      refine sL (allocLA (TK rfl) rfl) rfl ?_
      refine sLn (storeLFA (TK rfl) rfl rfl rfl rfl rfl) ?_
      refine s0 assignA rfl ?_
      refine nil ?_
      refine hK67 _ ?_
      clear hK67 K67
      refine freezeA 8 _ rfl (Keeps.c (k := 2) (by conv => lhs; whnf) (by rfl) (Keeps.c (k := 3) (by conv => lhs; whnf) (by rfl) (Keeps.c (k := 5) (by conv => lhs; whnf) (by rfl) (Keeps.c (k := 7) (by conv => lhs; whnf) (by rfl) (Keeps.c (k := 9) (by conv => lhs; whnf) (by rfl) (Keeps.c (k := 21) (by conv => lhs; whnf) (by rfl) (Keeps.c (k := 22) (by conv => lhs; whnf) (by rfl) (Keeps.c (k := 23) (by conv => lhs; whnf) (by rfl) Keeps.nil)))))))) ?_
      refine seqK fun K69 hK69 => ?_
      refine region ?_
      refine s0 moveA rfl ?_
      refine s0 (notB rfl) rfl ?_
      refine nil ?_
      refine hK69 _ ?_
      clear hK69 K69
      refine condE hE rfl (fun hc70 hE => ?_) (fun hc70 hE => ?_)
      ·refine region ?_
       refine s0 moveA rfl ?_
       refine s0 (fieldVA (TK rfl) rfl rfl (TK rfl) rfl rfl) rfl ?_
       refine s0 (loadV (TK rfl) rfl rfl rfl) rfl ?_
       obtain ⟨x71, gx71, hE⟩ := bindO_some hE
       refine s0 (callP rfl rfl (fun H => Z10_walk gx71 H)) rfl ?_
       obtain ⟨x72, gx72, hE⟩ := bindO_some hE
       refine sH (callH rfl rfl (Z3_walk gx72 _ hpG hpG)) rfl ?_
       refine AOps.heq (h' := ((H.set tk19_4 (some (.tok 6 x72.Fout.l.length))).set id19_3 (some (.cells (Changes_differ.cg (some tk19_4) x72))))) (by first | rfl | (rw [Heap.set_set]; rfl) | (funext n_; simp only [Heap.set]; (repeat' split) <;> first | rfl | (exfalso; simp_all; done) | (simp_all; done))) ?_
       refine nil ?_
       exact hK62 _ x72 Weak.toA hE
      refine AWp.skip ?_
      exact hK62 _ (Changes_differ.mk x65.FName y58_id19_3.Fout) Weak.toA hE
     rintro y63_id19_3 hE
     try dsimp only at hE
     unfold Z0_j62 at hE
     refine region ?_
     refine s0 (addI rfl rfl (by first | omega | (dsimp only; omega) | (simp at *; omega)) (by first | omega | (dsimp only; omega) | (simp at *; omega))) rfl ?_
     refine s0 moveA rfl ?_
     refine nil ?_
     exact hK56 _ (n56, (s23_57 + 1), y63_id19_3) Weak.toA hE (Nat.lt_succ_self _)
    refine AWp.exit ?_
    exact hK5 _ y58_id19_3 Weak.toA hE
 rintro y6_id19_3 hE
 try dsimp only at hE
 unfold Z0_j5 at hE
 refine seqJH (KeepsT.A (k := 2) (KeepsT.A (k := 3) (KeepsT.A (k := 5) KeepsT.nil))) (fun (z : Changes_differ) => []) (fun z => ((H.set tk19_4 (some (.tok 6 z.Fout.l.length))).set id19_3 (some (.cells (Changes_differ.cg (some tk19_4) z))))) (fun z => Z0_j7 a0 a1 z = some r) ?_ ?_
 ·intro K7 hK7
  refine seqK fun K31 hK31 => ?_
  refine region ?_
  refine s0 (fieldVA (TK rfl) rfl rfl (TK rfl) rfl rfl) rfl ?_
  refine s0 (loadV (TK rfl) rfl rfl rfl) rfl ?_
  refine sLen (f := TDef.c) (s := a0.FDefs) (TK rfl) rfl rfl rfl rfl fun hL32 => ?_
  refine s0 moveA rfl ?_
  refine nil ?_
  refine hK31 _ ?_
  clear hK31 K31
  refine block ?_
  refine loopH (KeepsT.A (k := 2) (KeepsT.A (k := 3) (KeepsT.A (k := 5) (KeepsT.A (k := 48) (KeepsT.A (k := 49) KeepsT.nil))))) (fun (z : Nat × Nat × Changes_differ) => [(50, .a (.d (.int .i64 ((z.2.1 : Nat) : Int))))]) (fun z => ((H.set tk19_4 (some (.tok 6 z.2.2.Fout.l.length))).set id19_3 (some (.cells (Changes_differ.cg (some tk19_4) z.2.2))))) (fun z => z.1) (fun z => Z0_l33 a0 a1 z.1 z.2.1 z.2.2 = some r) ((a0.FDefs.l.length + 1), 0, y6_id19_3) hE Weak.toA ?_
  rintro ⟨n33, s50_34, y35_id19_3⟩ hE K33 hK33
  try dsimp only at hE
  cases n33 with
  | zero => cases hE
  | succ n33 =>
    rw [Z0_l33] at hE
    refine seqK fun K36 hK36 => ?_
    refine region ?_
    refine s0 (binI rfl rfl rfl) rfl ?_
    refine nil ?_
    refine hK36 _ ?_
    clear hK36 K36
    refine seqK fun K37 hK37 => ?_
    refine condE hE rfl (fun hc38 hE => ?_) (fun hc38 hE => ?_)
    ·try dsimp only at hc38
     have hf38 := of_decide_eq_true hc38
     refine AWp.skip ?_
     refine hK37 _ ?_
     clear hK37 K37
     refine seqJH (KeepsT.A (k := 2) (KeepsT.A (k := 3) (KeepsT.A (k := 5) (KeepsT.A (k := 48) (KeepsT.A (k := 49) (KeepsT.A (k := 50) KeepsT.nil)))))) (fun (z : Changes_differ) => []) (fun z => ((H.set tk19_4 (some (.tok 6 z.Fout.l.length))).set id19_3 (some (.cells (Changes_differ.cg (some tk19_4) z))))) (fun z => Z0_j39 s50_34 ((Z0_l33 a0 a1 n33)) z = some r) ?_ ?_
     ·intro K39 hK39
      refine block ?_
      refine seqK fun K41 hK41 => ?_
      refine region ?_
      obtain ⟨x42, gx42, hE⟩ := bindO_some hE
      refine s0 (idxMn (f := TDef.c) (n := s50_34) (TK rfl) rfl (TK rfl) rfl rfl rfl gx42) rfl ?_
      refine s0 (loadV (TK rfl) rfl rfl rfl) rfl ?_
      refine sL (allocLA (TK rfl) rfl) rfl ?_
      refine sLn (storeLFA (TK rfl) rfl rfl rfl rfl rfl) ?_
      refine nil ?_
      refine hK41 _ ?_
      clear hK41 K41
      refine freezeA 11 _ rfl (Keeps.c (k := 2) (by conv => lhs; whnf) (by rfl) (Keeps.c (k := 3) (by conv => lhs; whnf) (by rfl) (Keeps.c (k := 5) (by conv => lhs; whnf) (by rfl) (Keeps.c (k := 48) (by conv => lhs; whnf) (by rfl) (Keeps.c (k := 49) (by conv => lhs; whnf) (by rfl) (Keeps.c (k := 50) (by conv => lhs; whnf) (by rfl) Keeps.nil)))))) ?_
      refine seqK fun K43 hK43 => ?_
      refine region ?_
      refine s0 moveA rfl ?_
      refine s0 (fieldVA (TK rfl) rfl rfl (TK rfl) rfl rfl) rfl ?_
      refine s0 (loadV (TK rfl) rfl rfl rfl) rfl ?_
      refine s0 (nilP rfl) rfl ?_
      refine s0 (fieldP (TK rfl) rfl rfl (TK rfl) rfl rfl) rfl ?_
      refine sHn (storeP1 (TK rfl) rfl rfl hpG rfl (by repeat (first | exact SetAt.zero | apply SetAt.succ))) rfl rfl ?_
      refine AOps.heq (h' := ((H.set tk19_4 (some (.tok 6 y35_id19_3.Fout.l.length))).set id19_3 (some (.cells (Changes_differ.cg (some tk19_4) (Changes_differ.mk x42.FName y35_id19_3.Fout)))))) (by first | rfl | (rw [Heap.set_set]; rfl) | (funext n_; simp only [Heap.set]; (repeat' split) <;> first | rfl | (exfalso; simp_all; done) | (simp_all; done))) ?_
      refine nil ?_
      refine hK43 _ ?_
      clear hK43 K43
      refine seqK fun K44 hK44 => ?_
      refine region ?_
      refine s0 (loadV (TK rfl) rfl rfl rfl) rfl ?_
      refine s0 (fieldVA (TK rfl) rfl rfl (TK rfl) rfl rfl) rfl ?_
      refine s0 (loadV (TK rfl) rfl rfl rfl) rfl ?_
      obtain ⟨x45, gx45, hE⟩ := bindO_some hE
      refine s0 (callP rfl rfl (fun H => Z31_walk gx45 H)) rfl ?_
      refine s0 moveA rfl ?_
      refine s0 (extract rfl rfl) rfl ?_
      refine s0 (extract rfl rfl) rfl ?_
      refine sL (allocLA (TK rfl) rfl) rfl ?_
      refine sLn (storeLFA (TK rfl) rfl rfl rfl rfl rfl) ?_
      refine s0 assignA rfl ?_
      refine nil ?_
      refine hK44 _ ?_
      clear hK44 K44
      refine freezeA 12 _ rfl (Keeps.c (k := 2) (by conv => lhs; whnf) (by rfl) (Keeps.c (k := 3) (by conv => lhs; whnf) (by rfl) (Keeps.c (k := 5) (by conv => lhs; whnf) (by rfl) (Keeps.c (k := 11) (by conv => lhs; whnf) (by rfl) (Keeps.c (k := 13) (by conv => lhs; whnf) (by rfl) (Keeps.c (k := 48) (by conv => lhs; whnf) (by rfl) (Keeps.c (k := 49) (by conv => lhs; whnf) (by rfl) (Keeps.c (k := 50) (by conv => lhs; whnf) (by rfl) Keeps.nil)))))))) ?_
      refine block ?_
      refine seqK fun K46 hK46 => ?_
      refine region ?_
      refine s0 moveA rfl ?_
      refine s0 (notB rfl) rfl ?_
      refine s0 assignA rfl ?_
      refine nil ?_
      refine hK46 _ ?_
      clear hK46 K46
      refine condE hE rfl (fun hc47 hE => ?_) (fun hc47 hE => ?_)
      ·refine AWp.skip ?_
       exact hK39 _ (Changes_differ.mk x42.FName y35_id19_3.Fout) Weak.toA hE
      refine seqK fun K48 hK48 => ?_
      refine region ?_
      refine s0 (fieldVA (TK rfl) rfl rfl (TK rfl) rfl rfl) rfl ?_
      refine s0 (loadV (TK rfl) rfl rfl rfl) rfl ?_
      refine s0 (fieldVA (TK rfl) rfl rfl (TK rfl) rfl rfl) rfl ?_
      refine s0 (loadV (TK rfl) rfl rfl rfl) rfl ?_
      refine s0 (binI rfl rfl rfl) rfl ?_
      refine s0 assignA rfl ?_
      refine nil ?_
      refine hK48 _ ?_
      clear hK48 K48
      refine condE hE rfl (fun hc49 hE => ?_) (fun hc49 hE => ?_)
      ·refine AWp.draw rfl ?_
       refine DOps.s0 moveA rfl ?_
       refine DOps.s0 (fieldVA (TK rfl) rfl rfl (TK rfl) rfl rfl) rfl ?_
       refine DOps.s0 (loadV (TK rfl) rfl rfl rfl) rfl ?_
       obtain ⟨x50, gx50, hE⟩ := bindO_some hE
       refine DOps.s0 (callP rfl rfl (fun H => Z10_walk gx50 H)) rfl ?_
       refine DOps.s0 (fieldVA (TK rfl) rfl rfl (TK rfl) rfl rfl) rfl ?_
       refine DOps.s0 (loadV (TK rfl) rfl rfl rfl) rfl ?_
       obtain ⟨x51, gx51, hE⟩ := bindO_some hE
       refine DOps.s0 (callP rfl rfl (fun H => Z10_walk gx51 H)) rfl ?_
       obtain ⟨x52, gx52, hE⟩ := bindO_some hE
       refine DOps.sH (callH rfl rfl (Z3_walk gx52 _ hpG hpG)) rfl ?_
       refine DOps.heq (h' := ((H.set tk19_4 (some (.tok 6 x52.Fout.l.length))).set id19_3 (some (.cells (Changes_differ.cg (some tk19_4) x52))))) (by first | rfl | (rw [Heap.set_set]; rfl) | (funext n_; simp only [Heap.set]; (repeat' split) <;> first | rfl | (exfalso; simp_all; done) | (simp_all; done))) ?_
       refine DOps.nil (by decide +kernel) ?_
       exact hK39 _ x52 Weak.toA hE
      refine region ?_
      refine s0 moveA rfl ?_
      refine s0 (loadV (TK rfl) rfl rfl rfl) rfl ?_
      refine s0 (loadV (TK rfl) rfl rfl rfl) rfl ?_
      obtain ⟨x53, gx53, hE⟩ := bindO_some hE
      refine sH (callH rfl rfl (Z4_walk gx53 _ hpG hpG)) rfl ?_
      refine AOps.heq (h' := ((H.set tk19_4 (some (.tok 6 x53.Fout.l.length))).set id19_3 (some (.cells (Changes_differ.cg (some tk19_4) x53))))) (by first | rfl | (rw [Heap.set_set]; rfl) | (funext n_; simp only [Heap.set]; (repeat' split) <;> first | rfl | (exfalso; simp_all; done) | (simp_all; done))) ?_
      refine nil ?_
      exact hK39 _ x53 Weak.toA hE
     rintro y40_id19_3 hE
     try dsimp only at hE
     unfold Z0_j39 at hE
     refine region ?_
     refine s0 (addI rfl rfl (by first | omega | (dsimp only; omega) | (simp at *; omega)) (by first | omega | (dsimp only; omega) | (simp at *; omega))) rfl ?_
     refine s0 moveA rfl ?_
     refine nil ?_
     exact hK33 _ (n33, (s50_34 + 1), y40_id19_3) Weak.toA hE (Nat.lt_succ_self _)
    refine AWp.exit ?_
    exact hK7 _ y35_id19_3 Weak.toA hE
 rintro y8_id19_3 hE
 try dsimp only at hE
 unfold Z0_j7 at hE
 refine seqJH (KeepsT.A (k := 5) KeepsT.nil) (fun (z : Changes_differ) => []) (fun z => ((H.set tk19_4 (some (.tok 6 z.Fout.l.length))).set id19_3 (some (.cells (Changes_differ.cg (some tk19_4) z))))) (fun z => Z0_j9 z = some r) ?_ ?_
 ·intro K9 hK9
  refine seqK fun K12 hK12 => ?_
  refine region ?_
  refine s0 (fieldVA (TK rfl) rfl rfl (TK rfl) rfl rfl) rfl ?_
  refine s0 (loadV (TK rfl) rfl rfl rfl) rfl ?_
  refine sLen (f := TDef.c) (s := a1.FDefs) (TK rfl) rfl rfl rfl rfl fun hL13 => ?_
  refine s0 moveA rfl ?_
  refine nil ?_
  refine hK12 _ ?_
  clear hK12 K12
  refine block ?_
  refine loopH (KeepsT.A (k := 2) (KeepsT.A (k := 5) (KeepsT.A (k := 89) (KeepsT.A (k := 90) KeepsT.nil)))) (fun (z : Nat × Nat × Changes_differ) => [(91, .a (.d (.int .i64 ((z.2.1 : Nat) : Int))))]) (fun z => ((H.set tk19_4 (some (.tok 6 z.2.2.Fout.l.length))).set id19_3 (some (.cells (Changes_differ.cg (some tk19_4) z.2.2))))) (fun z => z.1) (fun z => Z0_l14 a0 a1 z.1 z.2.1 z.2.2 = some r) ((a1.FDefs.l.length + 1), 0, y8_id19_3) hE Weak.toA ?_
  rintro ⟨n14, s91_15, y16_id19_3⟩ hE K14 hK14
  try dsimp only at hE
  cases n14 with
  | zero => cases hE
  | succ n14 =>
    rw [Z0_l14] at hE
    refine seqK fun K17 hK17 => ?_
    refine region ?_
    refine s0 (binI rfl rfl rfl) rfl ?_
    refine nil ?_
    refine hK17 _ ?_
    clear hK17 K17
    refine seqK fun K18 hK18 => ?_
    refine condE hE rfl (fun hc19 hE => ?_) (fun hc19 hE => ?_)
    ·try dsimp only at hc19
     have hf19 := of_decide_eq_true hc19
     refine AWp.skip ?_
     refine hK18 _ ?_
     clear hK18 K18
     refine seqJH (KeepsT.A (k := 2) (KeepsT.A (k := 5) (KeepsT.A (k := 89) (KeepsT.A (k := 90) (KeepsT.A (k := 91) KeepsT.nil))))) (fun (z : Changes_differ) => []) (fun z => ((H.set tk19_4 (some (.tok 6 z.Fout.l.length))).set id19_3 (some (.cells (Changes_differ.cg (some tk19_4) z))))) (fun z => Z0_j20 s91_15 ((Z0_l14 a0 a1 n14)) z = some r) ?_ ?_
     ·intro K20 hK20
      refine block ?_
      refine seqK fun K22 hK22 => ?_
      refine region ?_
      obtain ⟨x23, gx23, hE⟩ := bindO_some hE
      refine s0 (idxMn (f := TDef.c) (n := s91_15) (TK rfl) rfl (TK rfl) rfl rfl rfl gx23) rfl ?_
      refine s0 (loadV (TK rfl) rfl rfl rfl) rfl ?_
      refine sL (allocLA (TK rfl) rfl) rfl ?_
      refine sLn (storeLFA (TK rfl) rfl rfl rfl rfl rfl) ?_
      refine nil ?_
      refine hK22 _ ?_
      clear hK22 K22
      refine freezeA 15 _ rfl (Keeps.c (k := 2) (by conv => lhs; whnf) (by rfl) (Keeps.c (k := 5) (by conv => lhs; whnf) (by rfl) (Keeps.c (k := 89) (by conv => lhs; whnf) (by rfl) (Keeps.c (k := 90) (by conv => lhs; whnf) (by rfl) (Keeps.c (k := 91) (by conv => lhs; whnf) (by rfl) Keeps.nil))))) ?_
      refine seqK fun K24 hK24 => ?_
      refine region ?_
      refine s0 moveA rfl ?_
      refine s0 (fieldVA (TK rfl) rfl rfl (TK rfl) rfl rfl) rfl ?_
      refine s0 (loadV (TK rfl) rfl rfl rfl) rfl ?_
      refine s0 (nilP rfl) rfl ?_
      refine s0 (fieldP (TK rfl) rfl rfl (TK rfl) rfl rfl) rfl ?_
      refine sHn (storeP1 (TK rfl) rfl rfl hpG rfl (by repeat (first | exact SetAt.zero | apply SetAt.succ))) rfl rfl ?_
      refine AOps.heq (h' := ((H.set tk19_4 (some (.tok 6 y16_id19_3.Fout.l.length))).set id19_3 (some (.cells (Changes_differ.cg (some tk19_4) (Changes_differ.mk x23.FName y16_id19_3.Fout)))))) (by first | rfl | (rw [Heap.set_set]; rfl) | (funext n_; simp only [Heap.set]; (repeat' split) <;> first | rfl | (exfalso; simp_all; done) | (simp_all; done))) ?_
      refine nil ?_
      refine hK24 _ ?_
      clear hK24 K24
      refine seqK fun K25 hK25 => ?_
      refine region ?_
      refine s0 (loadV (TK rfl) rfl rfl rfl) rfl ?_
      refine s0 (fieldVA (TK rfl) rfl rfl (TK rfl) rfl rfl) rfl ?_
      refine s0 (loadV (TK rfl) rfl rfl rfl) rfl ?_
      obtain ⟨x26, gx26, hE⟩ := bindO_some hE
      refine s0 (callP rfl rfl (fun H => Z31_walk gx26 H)) rfl ?_
      refine s0 moveA rfl ?_
      refine s0 (extract rfl rfl) rfl ?_
      refine s0 (extract rfl rfl) rfl ?_
      refine sL (allocLA (TK rfl) rfl) rfl ?_
      refine sLn (storeLFA (TK rfl) rfl rfl rfl rfl rfl) ?_
      refine s0 assignA rfl ?_
      refine nil ?_
      refine hK25 _ ?_
      clear hK25 K25
      refine freezeA 16 _ rfl (Keeps.c (k := 2) (by conv => lhs; whnf) (by rfl) (Keeps.c (k := 5) (by conv => lhs; whnf) (by rfl) (Keeps.c (k := 15) (by conv => lhs; whnf) (by rfl) (Keeps.c (k := 17) (by conv => lhs; whnf) (by rfl) (Keeps.c (k := 89) (by conv => lhs; whnf) (by rfl) (Keeps.c (k := 90) (by conv => lhs; whnf) (by rfl) (Keeps.c (k := 91) (by conv => lhs; whnf) (by rfl) Keeps.nil))))))) ?_
      refine seqK fun K27 hK27 => ?_
      refine region ?_
      refine s0 moveA rfl ?_
      refine s0 (notB rfl) rfl ?_
      refine nil ?_
      refine hK27 _ ?_
      clear hK27 K27
      refine condE hE rfl (fun hc28 hE => ?_) (fun hc28 hE => ?_)
      ·refine region ?_
       refine s0 moveA rfl ?_
       refine s0 (fieldVA (TK rfl) rfl rfl (TK rfl) rfl rfl) rfl ?_
       refine s0 (loadV (TK rfl) rfl rfl rfl) rfl ?_
       obtain ⟨x29, gx29, hE⟩ := bindO_some hE
       refine s0 (callP rfl rfl (fun H => Z10_walk gx29 H)) rfl ?_
       obtain ⟨x30, gx30, hE⟩ := bindO_some hE
       refine sH (callH rfl rfl (Z3_walk gx30 _ hpG hpG)) rfl ?_
       refine AOps.heq (h' := ((H.set tk19_4 (some (.tok 6 x30.Fout.l.length))).set id19_3 (some (.cells (Changes_differ.cg (some tk19_4) x30))))) (by first | rfl | (rw [Heap.set_set]; rfl) | (funext n_; simp only [Heap.set]; (repeat' split) <;> first | rfl | (exfalso; simp_all; done) | (simp_all; done))) ?_
       refine nil ?_
       exact hK20 _ x30 Weak.toA hE
      refine AWp.skip ?_
      exact hK20 _ (Changes_differ.mk x23.FName y16_id19_3.Fout) Weak.toA hE
     rintro y21_id19_3 hE
     try dsimp only at hE
     unfold Z0_j20 at hE
     refine region ?_
     refine s0 (addI rfl rfl (by first | omega | (dsimp only; omega) | (simp at *; omega)) (by first | omega | (dsimp only; omega) | (simp at *; omega))) rfl ?_
     refine s0 moveA rfl ?_
     refine nil ?_
     exact hK14 _ (n14, (s91_15 + 1), y21_id19_3) Weak.toA hE (Nat.lt_succ_self _)
    refine AWp.exit ?_
    exact hK9 _ y16_id19_3 Weak.toA hE
 rintro y10_id19_3 hE
 try dsimp only at hE
 unfold Z0_j9 at hE
 refine seqK fun K11 hK11 => ?_
 refine region ?_
 refine s0 moveA rfl ?_
 refine s0 (nilP rfl) rfl ?_
 refine s0 (fieldP (TK rfl) rfl rfl (TK rfl) rfl rfl) rfl ?_
 refine s0 (loadP (TK rfl) rfl rfl hpG rfl) rfl ?_
 refine s0 assignA rfl ?_
 refine nil ?_
 refine hK11 _ ?_
 clear hK11 K11
 refine AWp.dropTok 4 rfl ?_
 refine AWp.ret ?_
 repeat (first | refine xBlock_ret ?_ | refine xThen_ret ?_)
 obtain rfl := Option.some.inj hE
 refine retQ.retF H rfl ⟨rfl, rfl⟩ ?_
 intro id_ o_ he_
 have e_tk19_4 : id_ ≠ tk19_4 := fun e_ => by subst e_; simp_all [Heap.set]
 have e_id19_3 : id_ ≠ id19_3 := fun e_ => by subst e_; simp_all [Heap.set]
 rw [← he_]
 simp only [Heap.set] at he_ ⊢
 (repeat' split) <;> simp_all
def Z19 (a0 : Evolve_checker) (a1 : TChange) (a2 : Evolve_operation) : Option Bool := none
theorem Z19_walk {a0 : Evolve_checker} {a1 : TChange} {a2 : Evolve_operation}   {r : Bool} (hE : Z19 a0 a1 a2 = some r) (H : Heap)  : ACalls Tryz.prog 26 [.agg (Evolve_checker.c a0), .agg (TChange.c a1), .agg (Evolve_operation.c a2)] H fun v h' => v = .a (.d (.bool r)) ∧ h' = H := by cases hE
def Z16_j7  (s13_8 : (Sl TVerdict)) : Option (Sl TVerdict) := some s13_8
def Z16_j19 (s53_15 : Nat) (k_next_13 : (Sl TVerdict) → Nat → Option (Sl TVerdict)) (s13_20 : (Sl TVerdict)) : Option (Sl TVerdict) := k_next_13 s13_20 (s53_15 + 1)
def Z16_j25 (s13_14 : (Sl TVerdict)) (s53_15 : Nat) (k_next_13 : (Sl TVerdict) → Nat → Option (Sl TVerdict)) (y26_l0 : TVerdict) : Option (Sl TVerdict) := (appC 120 s13_14 (⟨false, [y26_l0]⟩ : Sl TVerdict)).bind fun x27 => Z16_j19 s53_15 k_next_13 x27
def Z16_j36 (s61_31 : Nat) (k_next_30 : Nat → TVerdict → Option (Sl TVerdict)) (y37_l0 : TVerdict) : Option (Sl TVerdict) := k_next_30 (s61_31 + 1) y37_l0
def Z16_l42 (a0 : TDoc) (a1 : TDoc) (x22 : TChange) (s61_31 : Nat) (x39 : (Sl Evolve_operation)) (k_next_30 : Nat → TVerdict → Option (Sl TVerdict)) : Nat → Nat → TVerdict → Option (Sl TVerdict)
 | 0, _, _ => none
 | n42 + 1, s68_43, y44_l0 => bif (decide (((s68_43 : Nat) : Int) < ((x39.l.length : Nat) : Int))) then ((x39.l[s68_43]?).bind fun x50 => (Z19 (Evolve_checker.mk a0 a1) x22 x50).bind fun x52 => bif x52 then ((appC 8 y44_l0.FBreaks (⟨false, [((s61_31 : Nat) : Int)]⟩ : Sl Int)).bind fun x56 => Z16_j36 s61_31 k_next_30 (TVerdict.mk y44_l0.FChange false x56)) else ((Z16_l42 a0 a1 x22 s61_31 x39 k_next_30 n42) (s68_43 + 1) y44_l0)) else (Z16_j36 s61_31 k_next_30 y44_l0)
def Z16_l30 (a0 : TDoc) (a1 : TDoc) (s8_5 : (Sl (Sl Evolve_operation))) (s13_14 : (Sl TVerdict)) (s53_15 : Nat) (x22 : TChange) (k_next_13 : (Sl TVerdict) → Nat → Option (Sl TVerdict)) : Nat → Nat → TVerdict → Option (Sl TVerdict)
 | 0, _, _ => none
 | n30 + 1, s61_31, y32_l0 => bif (decide (((s61_31 : Nat) : Int) < ((s8_5.l.length : Nat) : Int))) then ((s8_5.l[s61_31]?).bind fun x39 => Z16_l42 a0 a1 x22 s61_31 x39 ((Z16_l30 a0 a1 s8_5 s13_14 s53_15 x22 k_next_13 n30)) (x39.l.length + 1) 0 y32_l0) else (Z16_j25 s13_14 s53_15 k_next_13 y32_l0)
def Z16_l13 (a0 : TDoc) (a1 : TDoc) (s8_5 : (Sl (Sl Evolve_operation))) (x11 : (Sl TChange))  : Nat → (Sl TVerdict) → Nat → Option (Sl TVerdict)
 | 0, _, _ => none
 | n13 + 1, s13_14, s53_15 => bif (decide (((s53_15 : Nat) : Int) < ((x11.l.length : Nat) : Int))) then ((x11.l[s53_15]?).bind fun x22 => Z16_l30 a0 a1 s8_5 s13_14 s53_15 x22 ((Z16_l13 a0 a1 s8_5 x11 n13)) (s8_5.l.length + 1) 0 (TVerdict.mk x22 true (Sl.nil : Sl Int))) else (Z16_j7   s13_14)
def Z16_j4 (a0 : TDoc) (a1 : TDoc)  (s8_5 : (Sl (Sl Evolve_operation))) : Option (Sl TVerdict) := (Z0 a0 a1).bind fun x11 => Z16_l13 a0 a1 s8_5 x11 (x11.l.length + 1) (Sl.nil : Sl TVerdict) 0
def Z16_j65 (s26_61 : Nat) (k_next_59 : (Sl (Sl Evolve_operation)) → Nat → Option (Sl TVerdict)) (s8_66 : (Sl (Sl Evolve_operation))) : Option (Sl TVerdict) := k_next_59 s8_66 (s26_61 + 1)
def Z16_j70  (s11_71 : (Sl Evolve_operation)) : Option (Sl TVerdict) := none
def Z16_l74 (a0 : TDoc) (a1 : TDoc) (x68 : TQuery)  : Nat → (Sl Evolve_operation) → Nat → Option (Sl TVerdict)
 | 0, _, _ => none
 | n74 + 1, s11_75, s33_76 => bif (decide (((s33_76 : Nat) : Int) < ((x68.FOps.l.length : Nat) : Int))) then ((Z20 (Evolve_checker.mk a0 a1) x68 ((s33_76 : Nat) : Int)).bind fun x82 => (appC 64 s11_75 (⟨false, [x82]⟩ : Sl Evolve_operation)).bind fun x83 => (Z16_l74 a0 a1 x68 n74) x83 (s33_76 + 1)) else (Z16_j70   s11_75)
def Z16_l59 (a0 : TDoc) (a1 : TDoc) (a2 : (Sl TQuery))  : Nat → (Sl (Sl Evolve_operation)) → Nat → Option (Sl TVerdict)
 | 0, _, _ => none
 | n59 + 1, s8_60, s26_61 => bif (decide (((s26_61 : Nat) : Int) < ((a2.l.length : Nat) : Int))) then ((a2.l[s26_61]?).bind fun x68 => Z16_l74 a0 a1 x68 (x68.FOps.l.length + 1) (Sl.nil : Sl Evolve_operation) 0) else (Z16_j4 a0 a1  s8_60)
def Z16 (a0 : TDoc) (a1 : TDoc) (a2 : (Sl TQuery)) : Option (Sl TVerdict) := Z16_l59 a0 a1 a2 (a2.l.length + 1) (Sl.nil : Sl (Sl Evolve_operation)) 0
theorem Z16_walk {a0 : TDoc} {a1 : TDoc} {a2 : (Sl TQuery)} {w2 : Option Nat}  {r : (Sl TVerdict)} (hE : Z16 a0 a1 a2 = some r) (H : Heap)  : ACalls Tryz.prog 14 [.agg (TDoc.c a0), .agg (TDoc.c a1), .d (Sl.d 2 TQuery.c w2 a2)] H fun v h' => v = .a (.d (Sl.d 8 TVerdict.c none r)) ∧ h' = H := by
 unfold Z16 at hE
 refine ACalls.of_wp (fn := Tryz.f14) (c := _) Tryz.tab_ok (fun _ _ => Tryz.call14 _ _) Tryz.func14 rfl (n := 91) rfl (rs := [.tmp 6]) rfl rfl ?_
 refine AWp.tok 1 fun tk1 htk1 => ?_
 refine AWp.tok 6 fun tk2 htk2 => ?_
 obtain ⟨ne_tk2_tk1, htk2⟩ := Heap.set_fresh htk2
 refine AWp.tok 8 fun tk3 htk3 => ?_
 obtain ⟨ne_tk3_tk2, htk3⟩ := Heap.set_fresh htk3
 obtain ⟨ne_tk3_tk1, htk3⟩ := Heap.set_fresh htk3
 refine seqK fun K1 hK1 => ?_
 refine region ?_
 refine s0 (boxV rfl) rfl ?_
 refine s0 (boxV rfl) rfl ?_
 refine s0 (assignNil (k' := 8) rfl) rfl ?_
 refine nil ?_
 refine hK1 _ ?_
 clear hK1 K1
 refine seqK fun K2 hK2 => ?_
 refine region ?_
 refine s0 (loadV (TK rfl) rfl rfl rfl) rfl ?_
 refine s0 (loadV (TK rfl) rfl rfl rfl) rfl ?_
 refine s0 (build Tryz.tab_ok rfl rfl rfl rfl rfl rfl) rfl ?_
 refine sL (allocLA (TK rfl) rfl) rfl ?_
 refine sLn (storeLFA (TK rfl) rfl rfl rfl rfl rfl) ?_
 refine nil ?_
 refine hK2 _ ?_
 clear hK2 K2
 refine freezeA 7 _ rfl (Keeps.c (k := 2) (by conv => lhs; whnf) (by rfl) (Keeps.c (k := 3) (by conv => lhs; whnf) (by rfl) (Keeps.c (k := 4) (by conv => lhs; whnf) (by rfl) Keeps.nil))) ?_
 refine seqK fun K3 hK3 => ?_
 refine region ?_
 refine s0 assignA rfl ?_
 refine nil ?_
 refine hK3 _ ?_
 clear hK3 K3
 refine AWp.nilTok 8 1 tk1 rfl hpG ?_
 refine seqJH (KeepsT.A (k := 3) (KeepsT.A (k := 4) (KeepsT.A (k := 7) KeepsT.nil))) (fun (z : (Sl (Sl Evolve_operation))) => [(8, .a (.d (Sl.d 1 (fun s => [Sl.d 6 Evolve_operation.c none s]) (some tk1) z)))]) (fun z => (((H.set tk1 (some (.tok 1 z.l.length))).set tk2 (some (.tok 6 0))).set tk3 (some (.tok 8 0)))) (fun z => Z16_j4 a0 a1 z = some r) ?_ ?_
 ·intro K4 hK4
  refine seqK fun K57 hK57 => ?_
  refine region ?_
  refine s0 moveA rfl ?_
  refine sLen (f := TQuery.c) (s := a2) (TK rfl) rfl rfl rfl rfl fun hL58 => ?_
  refine s0 moveA rfl ?_
  refine nil ?_
  refine hK57 _ ?_
  clear hK57 K57
  refine block ?_
  refine loopH (KeepsT.A (k := 3) (KeepsT.A (k := 4) (KeepsT.A (k := 7) (KeepsT.A (k := 24) (KeepsT.A (k := 25) KeepsT.nil))))) (fun (z : Nat × (Sl (Sl Evolve_operation)) × Nat) => [(8, .a (.d (Sl.d 1 (fun s => [Sl.d 6 Evolve_operation.c none s]) (some tk1) z.2.1))), (26, .a (.d (.int .i64 ((z.2.2 : Nat) : Int))))]) (fun z => (((H.set tk1 (some (.tok 1 z.2.1.l.length))).set tk2 (some (.tok 6 0))).set tk3 (some (.tok 8 0)))) (fun z => z.1) (fun z => Z16_l59 a0 a1 a2 z.1 z.2.1 z.2.2 = some r) ((a2.l.length + 1), (Sl.nil : Sl (Sl Evolve_operation)), 0) hE Weak.toA ?_
  rintro ⟨n59, s8_60, s26_61⟩ hE K59 hK59
  try dsimp only at hE
  cases n59 with
  | zero => cases hE
  | succ n59 =>
    rw [Z16_l59] at hE
    refine seqK fun K62 hK62 => ?_
    refine region ?_
    refine s0 (binI rfl rfl rfl) rfl ?_
    refine nil ?_
    refine hK62 _ ?_
    clear hK62 K62
    refine seqK fun K63 hK63 => ?_
    refine condE hE rfl (fun hc64 hE => ?_) (fun hc64 hE => ?_)
    ·try dsimp only at hc64
     have hf64 := of_decide_eq_true hc64
     refine AWp.skip ?_
     refine hK63 _ ?_
     clear hK63 K63
     refine seqJH (KeepsT.A (k := 3) (KeepsT.A (k := 4) (KeepsT.A (k := 7) (KeepsT.A (k := 24) (KeepsT.A (k := 25) (KeepsT.A (k := 26) KeepsT.nil)))))) (fun (z : (Sl (Sl Evolve_operation))) => [(8, .a (.d (Sl.d 1 (fun s => [Sl.d 6 Evolve_operation.c none s]) (some tk1) z)))]) (fun z => (((H.set tk1 (some (.tok 1 z.l.length))).set tk2 (some (.tok 6 0))).set tk3 (some (.tok 8 0)))) (fun z => Z16_j65 s26_61 ((Z16_l59 a0 a1 a2 n59)) z = some r) ?_ ?_
     ·intro K65 hK65
      refine block ?_
      refine seqK fun K67 hK67 => ?_
      refine region ?_
      obtain ⟨x68, gx68, hE⟩ := bindO_some hE
      refine s0 (idxMn (f := TQuery.c) (n := s26_61) (TK rfl) rfl (TK rfl) rfl rfl rfl gx68) rfl ?_
      refine s0 (loadV (TK rfl) rfl rfl rfl) rfl ?_
      refine sL (allocLA (TK rfl) rfl) rfl ?_
      refine sLn (storeLFA (TK rfl) rfl rfl rfl rfl rfl) ?_
      refine nil ?_
      refine hK67 _ ?_
      clear hK67 K67
      refine freezeA 10 _ rfl (Keeps.c (k := 3) (by conv => lhs; whnf) (by rfl) (Keeps.c (k := 4) (by conv => lhs; whnf) (by rfl) (Keeps.c (k := 7) (by conv => lhs; whnf) (by rfl) (Keeps.c (k := 8) (by conv => lhs; whnf) (by rfl) (Keeps.c (k := 24) (by conv => lhs; whnf) (by rfl) (Keeps.c (k := 25) (by conv => lhs; whnf) (by rfl) (Keeps.c (k := 26) (by conv => lhs; whnf) (by rfl) Keeps.nil))))))) ?_
      refine seqK fun K69 hK69 => ?_
      refine region ?_
      refine s0 assignA rfl ?_
      refine nil ?_
      refine hK69 _ ?_
      clear hK69 K69
      refine AWp.nilTok 11 6 tk2 rfl hpG ?_
      refine seqJH (KeepsT.A (k := 3) (KeepsT.A (k := 4) (KeepsT.A (k := 7) (KeepsT.A (k := 8) (KeepsT.A (k := 24) (KeepsT.A (k := 25) (KeepsT.A (k := 26) KeepsT.nil))))))) (fun (z : (Sl Evolve_operation)) => [(11, .a (.d (Sl.d 6 Evolve_operation.c (some tk2) z)))]) (fun z => (((H.set tk1 (some (.tok 1 s8_60.l.length))).set tk2 (some (.tok 6 z.l.length))).set tk3 (some (.tok 8 0)))) (fun z => Z16_j70 z = some r) ?_ ?_
      ·intro K70 hK70
       refine seqK fun K72 hK72 => ?_
       refine region ?_
       refine s0 (fieldVA (TK rfl) rfl rfl (TK rfl) rfl rfl) rfl ?_
       refine s0 (loadV (TK rfl) rfl rfl rfl) rfl ?_
       refine sLen (f := TOp.c) (s := x68.FOps) (TK rfl) rfl rfl rfl rfl fun hL73 => ?_
       refine s0 moveA rfl ?_
       refine nil ?_
       refine hK72 _ ?_
       clear hK72 K72
       refine block ?_
       refine loopH (KeepsT.A (k := 3) (KeepsT.A (k := 4) (KeepsT.A (k := 7) (KeepsT.A (k := 8) (KeepsT.A (k := 10) (KeepsT.A (k := 24) (KeepsT.A (k := 25) (KeepsT.A (k := 26) (KeepsT.A (k := 32) KeepsT.nil))))))))) (fun (z : Nat × (Sl Evolve_operation) × Nat) => [(11, .a (.d (Sl.d 6 Evolve_operation.c (some tk2) z.2.1))), (33, .a (.d (.int .i64 ((z.2.2 : Nat) : Int))))]) (fun z => (((H.set tk1 (some (.tok 1 s8_60.l.length))).set tk2 (some (.tok 6 z.2.1.l.length))).set tk3 (some (.tok 8 0)))) (fun z => z.1) (fun z => Z16_l74 a0 a1 x68 z.1 z.2.1 z.2.2 = some r) ((x68.FOps.l.length + 1), (Sl.nil : Sl Evolve_operation), 0) hE Weak.toA ?_
       rintro ⟨n74, s11_75, s33_76⟩ hE K74 hK74
       try dsimp only at hE
       cases n74 with
       | zero => cases hE
       | succ n74 =>
         rw [Z16_l74] at hE
         refine seqK fun K77 hK77 => ?_
         refine region ?_
         refine s0 (binI rfl rfl rfl) rfl ?_
         refine nil ?_
         refine hK77 _ ?_
         clear hK77 K77
         refine seqK fun K78 hK78 => ?_
         refine condE hE rfl (fun hc79 hE => ?_) (fun hc79 hE => ?_)
         ·try dsimp only at hc79
          have hf79 := of_decide_eq_true hc79
          refine AWp.skip ?_
          refine hK78 _ ?_
          clear hK78 K78
          refine seqK fun K80 hK80 => ?_
          refine block ?_
          refine seqK fun K81 hK81 => ?_
          refine region ?_
          refine s0 moveA rfl ?_
          refine s0 assignA rfl ?_
          refine nil ?_
          refine hK81 _ ?_
          clear hK81 K81
          refine region ?_
          refine s0 moveA rfl ?_
          refine s0 (loadV (TK rfl) rfl rfl rfl) rfl ?_
          refine s0 (loadV (TK rfl) rfl rfl rfl) rfl ?_
          refine s0 moveA rfl ?_
          obtain ⟨x82, gx82, hE⟩ := bindO_some hE
          refine s0 (callP rfl rfl (fun H => Z20_walk gx82 H)) rfl ?_
          refine s0 (buildSlice (TK rfl) rfl (TK rfl) rfl rfl rfl rfl rfl rfl) rfl ?_
          obtain ⟨x83, gx83, hE⟩ := bindO_some hE
          refine sH (appM (f := Evolve_operation.c) (TK rfl) rfl (TK rfl) (TK rfl) ⟨_, rfl⟩ rfl rfl (by decide) rfl rfl rfl rfl hpG rfl gx83) rfl ?_
          refine AOps.heq (h' := (((H.set tk1 (some (.tok 1 s8_60.l.length))).set tk2 (some (.tok 6 x83.l.length))).set tk3 (some (.tok 8 0)))) (by first | rfl | (rw [Heap.set_set]; rfl) | (funext n_; simp only [Heap.set]; (repeat' split) <;> first | rfl | (exfalso; simp_all; done) | (simp_all; done))) ?_
          refine s0 assignA rfl ?_
          refine nil ?_
          refine hK80 _ ?_
          clear hK80 K80
          refine region ?_
          refine s0 (addI rfl rfl (by first | omega | (dsimp only; omega) | (simp at *; omega)) (by first | omega | (dsimp only; omega) | (simp at *; omega))) rfl ?_
          refine s0 moveA rfl ?_
          refine nil ?_
          exact hK74 _ (n74, x83, (s33_76 + 1)) Weak.toA hE (Nat.lt_succ_self _)
         refine AWp.exit ?_
         exact hK70 _ s11_75 Weak.toA hE
      rintro s11_71 hE
      try dsimp only at hE
      unfold Z16_j70 at hE
      refine region ?_
      refine s0 moveA rfl ?_
      refine s0 moveA rfl ?_
      cases hE
     rintro s8_66 hE
     try dsimp only at hE
     unfold Z16_j65 at hE
     refine region ?_
     refine s0 (addI rfl rfl (by first | omega | (dsimp only; omega) | (simp at *; omega)) (by first | omega | (dsimp only; omega) | (simp at *; omega))) rfl ?_
     refine s0 moveA rfl ?_
     refine nil ?_
     exact hK59 _ (n59, s8_66, (s26_61 + 1)) Weak.toA hE (Nat.lt_succ_self _)
    refine AWp.exit ?_
    exact hK4 _ s8_60 Weak.toA hE
 rintro s8_5 hE
 try dsimp only at hE
 unfold Z16_j4 at hE
 refine seqK fun K6 hK6 => ?_
 refine region ?_
 refine s0 assignA rfl ?_
 refine nil ?_
 refine hK6 _ ?_
 clear hK6 K6
 refine AWp.nilTok 13 8 tk3 rfl hpG ?_
 refine seqJH KeepsT.nil (fun (z : (Sl TVerdict)) => [(13, .a (.d (Sl.d 8 TVerdict.c (some tk3) z)))]) (fun z => (((H.set tk1 (some (.tok 1 s8_5.l.length))).set tk2 (some (.tok 6 0))).set tk3 (some (.tok 8 z.l.length)))) (fun z => Z16_j7 z = some r) ?_ ?_
 ·intro K7 hK7
  refine seqK fun K10 hK10 => ?_
  refine region ?_
  refine s0 (loadV (TK rfl) rfl rfl rfl) rfl ?_
  refine s0 (loadV (TK rfl) rfl rfl rfl) rfl ?_
  obtain ⟨x11, gx11, hE⟩ := bindO_some hE
  refine s0 (callP rfl rfl (fun H => Z0_walk gx11 H)) rfl ?_
  refine sLen (f := TChange.c) (s := x11) (TK rfl) rfl rfl rfl rfl fun hL12 => ?_
  refine s0 moveA rfl ?_
  refine nil ?_
  refine hK10 _ ?_
  clear hK10 K10
  refine block ?_
  refine loopH (KeepsT.A (k := 7) (KeepsT.A (k := 8) (KeepsT.A (k := 51) (KeepsT.A (k := 52) KeepsT.nil)))) (fun (z : Nat × (Sl TVerdict) × Nat) => [(13, .a (.d (Sl.d 8 TVerdict.c (some tk3) z.2.1))), (53, .a (.d (.int .i64 ((z.2.2 : Nat) : Int))))]) (fun z => (((H.set tk1 (some (.tok 1 s8_5.l.length))).set tk2 (some (.tok 6 0))).set tk3 (some (.tok 8 z.2.1.l.length)))) (fun z => z.1) (fun z => Z16_l13 a0 a1 s8_5 x11 z.1 z.2.1 z.2.2 = some r) ((x11.l.length + 1), (Sl.nil : Sl TVerdict), 0) hE Weak.toA ?_
  rintro ⟨n13, s13_14, s53_15⟩ hE K13 hK13
  try dsimp only at hE
  cases n13 with
  | zero => cases hE
  | succ n13 =>
    rw [Z16_l13] at hE
    refine seqK fun K16 hK16 => ?_
    refine region ?_
    refine s0 (binI rfl rfl rfl) rfl ?_
    refine nil ?_
    refine hK16 _ ?_
    clear hK16 K16
    refine seqK fun K17 hK17 => ?_
    refine condE hE rfl (fun hc18 hE => ?_) (fun hc18 hE => ?_)
    ·try dsimp only at hc18
     have hf18 := of_decide_eq_true hc18
     refine AWp.skip ?_
     refine hK17 _ ?_
     clear hK17 K17
     refine seqJH (KeepsT.A (k := 7) (KeepsT.A (k := 8) (KeepsT.A (k := 51) (KeepsT.A (k := 52) (KeepsT.A (k := 53) KeepsT.nil))))) (fun (z : (Sl TVerdict)) => [(13, .a (.d (Sl.d 8 TVerdict.c (some tk3) z)))]) (fun z => (((H.set tk1 (some (.tok 1 s8_5.l.length))).set tk2 (some (.tok 6 0))).set tk3 (some (.tok 8 z.l.length)))) (fun z => Z16_j19 s53_15 ((Z16_l13 a0 a1 s8_5 x11 n13)) z = some r) ?_ ?_
     ·intro K19 hK19
      refine block ?_
      refine seqK fun K21 hK21 => ?_
      refine region ?_
      obtain ⟨x22, gx22, hE⟩ := bindO_some hE
      refine s0 (idxMn (f := TChange.c) (n := s53_15) (TK rfl) rfl (TK rfl) rfl rfl rfl gx22) rfl ?_
      refine s0 (loadV (TK rfl) rfl rfl rfl) rfl ?_
      refine sL (allocLA (TK rfl) rfl) rfl ?_
      refine sLn (storeLFA (TK rfl) rfl rfl rfl rfl rfl) ?_
      refine nil ?_
      refine hK21 _ ?_
      clear hK21 K21
      refine freezeA 15 _ rfl (Keeps.c (k := 7) (by conv => lhs; whnf) (by rfl) (Keeps.c (k := 8) (by conv => lhs; whnf) (by rfl) (Keeps.c (k := 13) (by conv => lhs; whnf) (by rfl) (Keeps.c (k := 51) (by conv => lhs; whnf) (by rfl) (Keeps.c (k := 52) (by conv => lhs; whnf) (by rfl) (Keeps.c (k := 53) (by conv => lhs; whnf) (by rfl) Keeps.nil)))))) ?_
      refine seqK fun K23 hK23 => ?_
      refine region ?_
      refine s0 (loadV (TK rfl) rfl rfl rfl) rfl ?_
      refine s0 (build Tryz.tab_ok rfl rfl rfl rfl rfl rfl) rfl ?_
      refine sL (allocLA (TK rfl) rfl) rfl ?_
      refine AOps.tok 1 fun tk16_24 htk16_24 => ?_
      obtain ⟨ne_tk16_24_tk3, htk16_24⟩ := Heap.set_fresh htk16_24
      obtain ⟨ne_tk16_24_tk2, htk16_24⟩ := Heap.set_fresh htk16_24
      obtain ⟨ne_tk16_24_tk1, htk16_24⟩ := Heap.set_fresh htk16_24
      refine AOps.relocal 0 _ rfl (fun j w cs hh hx => tok_cell 7 1 1 hh (t := tk16_24) hpG hx rfl) ?_
      refine sLn (storeLFA (TK rfl) rfl rfl rfl rfl rfl) ?_
      refine AOps.relocal 0 _ rfl (fun j w cs hh hx => tok_cell 7 1 1 hh (t := tk16_24) hpG hx rfl) ?_
      refine nil ?_
      refine hK23 _ ?_
      clear hK23 K23
      refine seqJ (KeepsT.A (k := 7) (KeepsT.A (k := 8) (KeepsT.A (k := 13) (KeepsT.A (k := 16) (KeepsT.A (k := 51) (KeepsT.A (k := 52) (KeepsT.A (k := 53) KeepsT.nil))))))) (fun (z : TVerdict) => []) (fun z => [(TChange.c z.FChange ++ boolE z.FSafe ++ [Sl.d 1 (intE .i64) (some tk16_24) z.FBreaks])]) (fun z => ((((H.set tk1 (some (.tok 1 s8_5.l.length))).set tk2 (some (.tok 6 0))).set tk3 (some (.tok 8 s13_14.l.length))).set tk16_24 (some (.tok 1 z.FBreaks.l.length)))) (fun z => Z16_j25 s13_14 s53_15 ((Z16_l13 a0 a1 s8_5 x11 n13)) z = some r) ?_ ?_
      ·intro K25 hK25
       refine seqK fun K28 hK28 => ?_
       refine region ?_
       refine s0 moveA rfl ?_
       refine sLen (f := (fun s => [Sl.d 6 Evolve_operation.c none s])) (s := s8_5) (TK rfl) rfl rfl rfl rfl fun hL29 => ?_
       refine s0 moveA rfl ?_
       refine nil ?_
       refine hK28 _ ?_
       clear hK28 K28
       refine AWp.dropTok 59 rfl ?_
       refine block ?_
       refine loopO (KeepsT.A (k := 7) (KeepsT.A (k := 8) (KeepsT.A (k := 13) (KeepsT.A (k := 15) (KeepsT.A (k := 16) (KeepsT.A (k := 51) (KeepsT.A (k := 52) (KeepsT.A (k := 53) (KeepsT.A (k := 59) (KeepsT.A (k := 60) KeepsT.nil)))))))))) (fun (z : Nat × Nat × TVerdict) => [(61, .a (.d (.int .i64 ((z.2.1 : Nat) : Int))))]) (fun z => [(TChange.c z.2.2.FChange ++ boolE z.2.2.FSafe ++ [Sl.d 1 (intE .i64) (some tk16_24) z.2.2.FBreaks])]) (fun z => ((((H.set tk1 (some (.tok 1 s8_5.l.length))).set tk2 (some (.tok 6 0))).set tk3 (some (.tok 8 s13_14.l.length))).set tk16_24 (some (.tok 1 z.2.2.FBreaks.l.length)))) (fun z => z.1) (fun z => Z16_l30 a0 a1 s8_5 s13_14 s53_15 x22 ((Z16_l13 a0 a1 s8_5 x11 n13)) z.1 z.2.1 z.2.2 = some r) ((s8_5.l.length + 1), 0, (TVerdict.mk x22 true (Sl.nil : Sl Int))) hE Weak.toA ?_
       rintro ⟨n30, s61_31, y32_l0⟩ hE K30 hK30
       try dsimp only at hE
       cases n30 with
       | zero => cases hE
       | succ n30 =>
         rw [Z16_l30] at hE
         refine seqK fun K33 hK33 => ?_
         refine region ?_
         refine s0 (binI rfl rfl rfl) rfl ?_
         refine nil ?_
         refine hK33 _ ?_
         clear hK33 K33
         refine seqK fun K34 hK34 => ?_
         refine condE hE rfl (fun hc35 hE => ?_) (fun hc35 hE => ?_)
         ·try dsimp only at hc35
          have hf35 := of_decide_eq_true hc35
          refine AWp.skip ?_
          refine hK34 _ ?_
          clear hK34 K34
          refine seqJ (KeepsT.A (k := 7) (KeepsT.A (k := 8) (KeepsT.A (k := 13) (KeepsT.A (k := 15) (KeepsT.A (k := 16) (KeepsT.A (k := 51) (KeepsT.A (k := 52) (KeepsT.A (k := 53) (KeepsT.A (k := 59) (KeepsT.A (k := 60) (KeepsT.A (k := 61) KeepsT.nil))))))))))) (fun (z : TVerdict) => []) (fun z => [(TChange.c z.FChange ++ boolE z.FSafe ++ [Sl.d 1 (intE .i64) (some tk16_24) z.FBreaks])]) (fun z => ((((H.set tk1 (some (.tok 1 s8_5.l.length))).set tk2 (some (.tok 6 0))).set tk3 (some (.tok 8 s13_14.l.length))).set tk16_24 (some (.tok 1 z.FBreaks.l.length)))) (fun z => Z16_j36 s61_31 ((Z16_l30 a0 a1 s8_5 s13_14 s53_15 x22 ((Z16_l13 a0 a1 s8_5 x11 n13)) n30)) z = some r) ?_ ?_
          ·intro K36 hK36
           refine block ?_
           refine seqK fun K38 hK38 => ?_
           refine region ?_
           refine s0 moveA rfl ?_
           obtain ⟨x39, gx39, hE⟩ := bindO_some hE
           refine s0 (idxMn (f := (fun s => [Sl.d 6 Evolve_operation.c none s])) (n := s61_31) (TK rfl) rfl (TK rfl) rfl rfl rfl gx39) rfl ?_
           refine s0 (loadV (TK rfl) rfl rfl rfl) rfl ?_
           refine s0 assignA rfl ?_
           refine s0 assignA rfl ?_
           refine nil ?_
           refine hK38 _ ?_
           clear hK38 K38
           refine seqK fun K40 hK40 => ?_
           refine region ?_
           refine s0 moveA rfl ?_
           refine sLen (f := Evolve_operation.c) (s := x39) (TK rfl) rfl rfl rfl rfl fun hL41 => ?_
           refine s0 moveA rfl ?_
           refine nil ?_
           refine hK40 _ ?_
           clear hK40 K40
           refine block ?_
           refine loopO (KeepsT.A (k := 7) (KeepsT.A (k := 8) (KeepsT.A (k := 13) (KeepsT.A (k := 15) (KeepsT.A (k := 16) (KeepsT.A (k := 17) (KeepsT.A (k := 51) (KeepsT.A (k := 52) (KeepsT.A (k := 53) (KeepsT.A (k := 59) (KeepsT.A (k := 60) (KeepsT.A (k := 61) (KeepsT.A (k := 66) (KeepsT.A (k := 67) KeepsT.nil)))))))))))))) (fun (z : Nat × Nat × TVerdict) => [(68, .a (.d (.int .i64 ((z.2.1 : Nat) : Int))))]) (fun z => [(TChange.c z.2.2.FChange ++ boolE z.2.2.FSafe ++ [Sl.d 1 (intE .i64) (some tk16_24) z.2.2.FBreaks])]) (fun z => ((((H.set tk1 (some (.tok 1 s8_5.l.length))).set tk2 (some (.tok 6 0))).set tk3 (some (.tok 8 s13_14.l.length))).set tk16_24 (some (.tok 1 z.2.2.FBreaks.l.length)))) (fun z => z.1) (fun z => Z16_l42 a0 a1 x22 s61_31 x39 ((Z16_l30 a0 a1 s8_5 s13_14 s53_15 x22 ((Z16_l13 a0 a1 s8_5 x11 n13)) n30)) z.1 z.2.1 z.2.2 = some r) ((x39.l.length + 1), 0, y32_l0) hE Weak.toA ?_
           rintro ⟨n42, s68_43, y44_l0⟩ hE K42 hK42
           try dsimp only at hE
           cases n42 with
           | zero => cases hE
           | succ n42 =>
             rw [Z16_l42] at hE
             refine seqK fun K45 hK45 => ?_
             refine region ?_
             refine s0 (binI rfl rfl rfl) rfl ?_
             refine nil ?_
             refine hK45 _ ?_
             clear hK45 K45
             refine seqK fun K46 hK46 => ?_
             refine condE hE rfl (fun hc47 hE => ?_) (fun hc47 hE => ?_)
             ·try dsimp only at hc47
              have hf47 := of_decide_eq_true hc47
              refine AWp.skip ?_
              refine hK46 _ ?_
              clear hK46 K46
              refine seqK fun K48 hK48 => ?_
              refine block ?_
              refine seqK fun K49 hK49 => ?_
              refine region ?_
              obtain ⟨x50, gx50, hE⟩ := bindO_some hE
              refine s0 (idxMn (f := Evolve_operation.c) (n := s68_43) (TK rfl) rfl (TK rfl) rfl rfl rfl gx50) rfl ?_
              refine s0 (loadV (TK rfl) rfl rfl rfl) rfl ?_
              refine sL (allocLA (TK rfl) rfl) rfl ?_
              refine sLn (storeLFA (TK rfl) rfl rfl rfl rfl rfl) ?_
              refine nil ?_
              refine hK49 _ ?_
              clear hK49 K49
              refine freezeA 20 _ rfl (Keeps.c (k := 7) (by conv => lhs; whnf) (by rfl) (Keeps.c (k := 8) (by conv => lhs; whnf) (by rfl) (Keeps.c (k := 13) (by conv => lhs; whnf) (by rfl) (Keeps.c (k := 15) (by conv => lhs; whnf) (by rfl) (Keeps.c (k := 16) (by conv => lhs; whnf) (by rfl) (Keeps.c (k := 17) (by conv => lhs; whnf) (by rfl) (Keeps.c (k := 51) (by conv => lhs; whnf) (by rfl) (Keeps.c (k := 52) (by conv => lhs; whnf) (by rfl) (Keeps.c (k := 53) (by conv => lhs; whnf) (by rfl) (Keeps.c (k := 59) (by conv => lhs; whnf) (by rfl) (Keeps.c (k := 60) (by conv => lhs; whnf) (by rfl) (Keeps.c (k := 61) (by conv => lhs; whnf) (by rfl) (Keeps.c (k := 66) (by conv => lhs; whnf) (by rfl) (Keeps.c (k := 67) (by conv => lhs; whnf) (by rfl) (Keeps.c (k := 68) (by conv => lhs; whnf) (by rfl) Keeps.nil))))))))))))))) ?_
              refine seqK fun K51 hK51 => ?_
              refine region ?_
              refine s0 (loadV (TK rfl) rfl rfl rfl) rfl ?_
              refine s0 (loadV (TK rfl) rfl rfl rfl) rfl ?_
              refine s0 (loadV (TK rfl) rfl rfl rfl) rfl ?_
              obtain ⟨x52, gx52, hE⟩ := bindO_some hE
              refine s0 (callP rfl rfl (fun H => Z19_walk gx52 H)) rfl ?_
              refine nil ?_
              refine hK51 _ ?_
              clear hK51 K51
              refine condE hE rfl (fun hc53 hE => ?_) (fun hc53 hE => ?_)
              ·refine seqK fun K54 hK54 => ?_
               refine region ?_
               refine s0 (fieldL (TK rfl) rfl rfl (TK rfl) rfl rfl) rfl ?_
               refine sLn (storeL1 (TK rfl) rfl rfl rfl rfl (by repeat (first | exact SetAt.zero | apply SetAt.succ)) (by repeat (first | exact SetAt.zero | apply SetAt.succ))) ?_
               refine nil ?_
               refine hK54 _ ?_
               clear hK54 K54
               refine seqK fun K55 hK55 => ?_
               refine region ?_
               refine s0 (fieldL (TK rfl) rfl rfl (TK rfl) rfl rfl) rfl ?_
               refine s0 (loadL (TK rfl) rfl rfl rfl rfl) rfl ?_
               refine s0 moveA rfl ?_
               refine s0 (buildSlice (TK rfl) rfl (TK rfl) rfl rfl rfl rfl rfl rfl) rfl ?_
               obtain ⟨x56, gx56, hE⟩ := bindO_some hE
               refine sH (appM (f := (intE .i64)) (TK rfl) rfl (TK rfl) (TK rfl) ⟨_, rfl⟩ rfl rfl (by decide) rfl rfl rfl rfl hpG rfl gx56) rfl ?_
               refine AOps.heq (h' := ((((H.set tk1 (some (.tok 1 s8_5.l.length))).set tk2 (some (.tok 6 0))).set tk3 (some (.tok 8 s13_14.l.length))).set tk16_24 (some (.tok 1 x56.l.length)))) (by first | rfl | (rw [Heap.set_set]; rfl) | (funext n_; simp only [Heap.set]; (repeat' split) <;> first | rfl | (exfalso; simp_all; done) | (simp_all; done))) ?_
               refine s0 (fieldL (TK rfl) rfl rfl (TK rfl) rfl rfl) rfl ?_
               refine sLn (storeL1 (TK rfl) rfl rfl rfl rfl (by repeat (first | exact SetAt.zero | apply SetAt.succ)) (by repeat (first | exact SetAt.zero | apply SetAt.succ))) ?_
               refine nil ?_
               refine hK55 _ ?_
               clear hK55 K55
               refine AWp.exit ?_
               exact hK36 _ (TVerdict.mk y44_l0.FChange false x56) Weak.toA hE
              refine AWp.skip ?_
              refine hK48 _ ?_
              clear hK48 K48
              refine region ?_
              refine s0 (addI rfl rfl (by first | omega | (dsimp only; omega) | (simp at *; omega)) (by first | omega | (dsimp only; omega) | (simp at *; omega))) rfl ?_
              refine s0 moveA rfl ?_
              refine nil ?_
              exact hK42 _ (n42, (s68_43 + 1), y44_l0) Weak.toA hE (Nat.lt_succ_self _)
             refine AWp.exit ?_
             exact hK36 _ y44_l0 Weak.toA hE
          rintro y37_l0 hE
          try dsimp only at hE
          unfold Z16_j36 at hE
          refine region ?_
          refine s0 (addI rfl rfl (by first | omega | (dsimp only; omega) | (simp at *; omega)) (by first | omega | (dsimp only; omega) | (simp at *; omega))) rfl ?_
          refine s0 moveA rfl ?_
          refine nil ?_
          exact hK30 _ (n30, (s61_31 + 1), y37_l0) Weak.toA hE (Nat.lt_succ_self _)
         refine AWp.exit ?_
         exact hK25 _ y32_l0 Weak.toA hE
      rintro y26_l0 hE
      try dsimp only at hE
      unfold Z16_j25 at hE
      refine AWp.relocal 0 _ rfl (fun j w cs hh hx => untok_cell 7 hx rfl) ?_
      refine region ?_
      refine s0 moveA rfl ?_
      refine s0 (loadL (TK rfl) rfl rfl rfl rfl) rfl ?_
      refine s0 (buildSlice (TK rfl) rfl (TK rfl) rfl rfl rfl rfl rfl rfl) rfl ?_
      obtain ⟨x27, gx27, hE⟩ := bindO_some hE
      refine sH (appM (f := TVerdict.c) (TK rfl) rfl (TK rfl) (TK rfl) ⟨_, rfl⟩ rfl rfl (by decide) rfl rfl rfl rfl hpG rfl gx27) rfl ?_
      refine AOps.heq (h' := ((((H.set tk1 (some (.tok 1 s8_5.l.length))).set tk2 (some (.tok 6 0))).set tk3 (some (.tok 8 x27.l.length))).set tk16_24 (some (.tok 1 y26_l0.FBreaks.l.length)))) (by first | rfl | (rw [Heap.set_set]; rfl) | (funext n_; simp only [Heap.set]; (repeat' split) <;> first | rfl | (exfalso; simp_all; done) | (simp_all; done))) ?_
      refine s0 assignA rfl ?_
      refine nil ?_
      exact hK19 _ x27 (Weak.toFA (by (intro id_ o_ he_); (have e_tk16_24 : id_ ≠ tk16_24 := fun e_ => by rw [e_] at he_; simp [Heap.set, htk16_24, ne_tk16_24_tk1, ne_tk16_24_tk2, ne_tk16_24_tk3] at he_); (rw [← he_]); (simp only [Heap.set, if_neg e_tk16_24]); (first | done | rfl))) hE
     rintro s13_20 hE
     try dsimp only at hE
     unfold Z16_j19 at hE
     refine region ?_
     refine s0 (addI rfl rfl (by first | omega | (dsimp only; omega) | (simp at *; omega)) (by first | omega | (dsimp only; omega) | (simp at *; omega))) rfl ?_
     refine s0 moveA rfl ?_
     refine nil ?_
     exact hK13 _ (n13, s13_20, (s53_15 + 1)) Weak.toA hE (Nat.lt_succ_self _)
    refine AWp.exit ?_
    exact hK7 _ s13_14 Weak.toA hE
 rintro s13_8 hE
 try dsimp only at hE
 unfold Z16_j7 at hE
 refine seqK fun K9 hK9 => ?_
 refine region ?_
 refine s0 moveA rfl ?_
 refine s0 assignA rfl ?_
 refine nil ?_
 refine hK9 _ ?_
 clear hK9 K9
 refine AWp.dropTok 6 rfl ?_
 refine AWp.ret ?_
 repeat (first | refine xBlock_ret ?_ | refine xThen_ret ?_)
 obtain rfl := Option.some.inj hE
 refine retQ.retF H rfl ⟨rfl, rfl⟩ ?_
 intro id_ o_ he_
 have e_tk1 : id_ ≠ tk1 := fun e_ => by subst e_; simp_all [Heap.set]
 have e_tk2 : id_ ≠ tk2 := fun e_ => by subst e_; simp_all [Heap.set]
 have e_tk3 : id_ ≠ tk3 := fun e_ => by subst e_; simp_all [Heap.set]
 rw [← he_]
 simp only [Heap.set] at he_ ⊢
 (repeat' split) <;> simp_all
def Z22  : Option Bool := (Z16 (TDoc.mk (⟨false, [(TDef.mk (1 : Int) ([81, 117, 101, 114, 121] : Bs) (Sl.nil : Sl Bs) (Sl.nil : Sl TDir) (⟨false, [(TField.mk ([97] : Bs) (Sl.nil : Sl TInput) (TRef.mk ([73, 110, 116] : Bs) (Sl.nil : Sl Int)) (Sl.nil : Sl TDir))]⟩ : Sl TField) (Sl.nil : Sl TMember) (Sl.nil : Sl TInput))]⟩ : Sl TDef)) (TDoc.mk (⟨false, [(TDef.mk (1 : Int) ([81, 117, 101, 114, 121] : Bs) (Sl.nil : Sl Bs) (Sl.nil : Sl TDir) (⟨false, [(TField.mk ([98] : Bs) (Sl.nil : Sl TInput) (TRef.mk ([73, 110, 116] : Bs) (Sl.nil : Sl Int)) (Sl.nil : Sl TDir))]⟩ : Sl TField) (Sl.nil : Sl TMember) (Sl.nil : Sl TInput))]⟩ : Sl TDef)) (Sl.nil : Sl TQuery)).bind fun x5 => guardO ((decide (((x5.l.length : Nat) : Int) = (2 : Int)))) (Z18 (Sl.nil : Sl TVerdict)) false fun x7 => some ((decide (((x5.l.length : Nat) : Int) = (2 : Int))) && x7)
theorem Z22_walk    {r : Bool} (hE : Z22  = some r) (H : Heap)  : ACalls Tryz.prog 8 [] H fun v h' => v = .a (.d (.bool r)) ∧ h' = H := by
 unfold Z22 at hE
 refine ACalls.of_wp (fn := Tryz.f8) (c := _) Tryz.tab_ok (fun _ _ => Tryz.call8 _ _) Tryz.func8 rfl (n := 23) rfl (rs := [.tmp 0]) rfl rfl ?_
 refine seqK fun K1 hK1 => ?_
 refine region ?_
 refine s0 assignA rfl ?_
 refine nil ?_
 refine hK1 _ ?_
 clear hK1 K1
 refine seqK fun K2 hK2 => ?_
 refine region ?_
 refine s0 (build Tryz.tab_ok rfl rfl rfl rfl rfl rfl) rfl ?_
 refine s0 (build Tryz.tab_ok rfl rfl rfl rfl rfl rfl) rfl ?_
 refine s0 (buildSlice (TK rfl) rfl (TK rfl) rfl rfl rfl rfl rfl rfl) rfl ?_
 refine s0 (build Tryz.tab_ok rfl rfl rfl rfl rfl rfl) rfl ?_
 refine s0 (buildSlice (TK rfl) rfl (TK rfl) rfl rfl rfl rfl rfl rfl) rfl ?_
 refine s0 (build Tryz.tab_ok rfl rfl rfl rfl rfl rfl) rfl ?_
 refine sL (allocLA (TK rfl) rfl) rfl ?_
 refine sLn (storeLFA (TK rfl) rfl rfl rfl rfl rfl) ?_
 refine nil ?_
 refine hK2 _ ?_
 clear hK2 K2
 refine freezeA 1 _ rfl Keeps.nil ?_
 refine seqK fun K3 hK3 => ?_
 refine region ?_
 refine s0 (build Tryz.tab_ok rfl rfl rfl rfl rfl rfl) rfl ?_
 refine s0 (build Tryz.tab_ok rfl rfl rfl rfl rfl rfl) rfl ?_
 refine s0 (buildSlice (TK rfl) rfl (TK rfl) rfl rfl rfl rfl rfl rfl) rfl ?_
 refine s0 (build Tryz.tab_ok rfl rfl rfl rfl rfl rfl) rfl ?_
 refine s0 (buildSlice (TK rfl) rfl (TK rfl) rfl rfl rfl rfl rfl rfl) rfl ?_
 refine s0 (build Tryz.tab_ok rfl rfl rfl rfl rfl rfl) rfl ?_
 refine sL (allocLA (TK rfl) rfl) rfl ?_
 refine sLn (storeLFA (TK rfl) rfl rfl rfl rfl rfl) ?_
 refine nil ?_
 refine hK3 _ ?_
 clear hK3 K3
 refine freezeA 2 _ rfl (Keeps.c (k := 1) (by conv => lhs; whnf) (by rfl) Keeps.nil) ?_
 refine seqK fun K4 hK4 => ?_
 refine region ?_
 refine s0 (loadV (TK rfl) rfl rfl rfl) rfl ?_
 refine s0 (loadV (TK rfl) rfl rfl rfl) rfl ?_
 obtain ⟨x5, gx5, hE⟩ := bindO_some hE
 refine s0 (callP rfl rfl (fun H => ACalls.asArgs (.cons (.refl _) (.cons (.refl _) (.cons (AsArg.nil0 (k' := 2)) .nil))) (Z16_walk gx5 H))) rfl ?_
 refine sLen (f := TVerdict.c) (s := x5) (TK rfl) rfl rfl rfl rfl fun hL6 => ?_
 refine s0 (binI rfl rfl rfl) rfl ?_
 refine s0 moveA rfl ?_
 obtain ⟨x7, gx7, hE⟩ := guardO_some hE
 refine gC rfl rfl (fun hC => callP rfl rfl (fun H => ACalls.asArgs (.cons (AsArg.nil0 (k' := 8)) .nil) (Z18_walk (gx7 hC) H))) rfl ?_
 refine s0 (pickAndA rfl rfl rfl) rfl ?_
 refine s0 assignA rfl ?_
 refine nil ?_
 refine hK4 _ ?_
 clear hK4 K4
 refine AWp.ret ?_
 repeat (first | refine xBlock_ret ?_ | refine xThen_ret ?_)
 obtain rfl := Option.some.inj hE
 refine retQ.retF H rfl ⟨rfl, rfl⟩ ?_
 exact (fun _ _ h => h)
end Go.Proofs

namespace Go.Proofs
open Go Go.Ab
open AOps Cert AWp
variable {lou : Lou}
section
variable [IsLoud lou]
def Z21_j2 (a0 : (Sl TVerdict))   : Option Bool := (Z18 a0).bind fun x4 => (Z29 a0).bind fun x5 => guardO (((x4 == x5))) (Z22 ) false fun x6 => some (((x4 == x5)) && x6)
def Z21_l8 (a0 : (Sl TVerdict))  : Nat → Nat → Option Bool
 | 0, _ => none
 | n8 + 1, s3_9 => bif (decide (((s3_9 : Nat) : Int) < ((a0.l.length : Nat) : Int))) then ((a0.l[s3_9]?).bind fun x16 => (Z17 x16).bind fun x17 => (a0.l[s3_9]?).bind fun x18 => (Z28 x18).bind fun x19 => bif (!(x17 == x19)) then (some false) else ((Z21_l8 a0 n8) (s3_9 + 1))) else (Z21_j2 a0  )
def Z21 (a0 : (Sl TVerdict)) : Option Bool := Z21_l8 a0 (a0.l.length + 1) 0
theorem Z21_walk {a0 : (Sl TVerdict)} {w0 : Option Nat} {oT : Ab.Obj} {gT : Nat} {r : Bool} (hE : Z21 a0 = some r) (H : Heap) (hgT : H gT = some oT) (hoT : IsTab Tryz.prog oT) : ACalls Tryz.prog 3 [.d (Sl.d 8 TVerdict.c w0 a0)] H fun v h' => v = .a (.d (.bool r)) ∧ h' = H := by
 unfold Z21 at hE
 refine ACalls.of_wp (fn := Tryz.f3) (c := _) Tryz.tab_ok (fun _ _ => Tryz.call3 _ _) Tryz.func3 rfl (n := 29) rfl (rs := [.tmp 2]) rfl rfl ?_
 refine seqK fun K1 hK1 => ?_
 refine region ?_
 refine s0 assignA rfl ?_
 refine nil ?_
 refine hK1 _ ?_
 clear hK1 K1
 refine seqJH (KeepsT.A (k := 0) KeepsT.nil) (fun (z : Unit) => []) (fun z => H) (fun z => Z21_j2 a0  = some r) ?_ ?_
 ·intro K2 hK2
  refine seqK fun K7 hK7 => ?_
  refine region ?_
  refine s0 assignA rfl ?_
  refine nil ?_
  refine hK7 _ ?_
  clear hK7 K7
  refine block ?_
  refine loopH (KeepsT.A (k := 0) KeepsT.nil) (fun (z : Nat × Nat) => [(3, .a (.d (.int .i64 ((z.2 : Nat) : Int))))]) (fun z => H) (fun z => z.1) (fun z => Z21_l8 a0 z.1 z.2 = some r) ((a0.l.length + 1), 0) hE Weak.toA ?_
  rintro ⟨n8, s3_9⟩ hE K8 hK8
  try dsimp only at hE
  cases n8 with
  | zero => cases hE
  | succ n8 =>
    rw [Z21_l8] at hE
    refine seqK fun K10 hK10 => ?_
    refine seqK fun K11 hK11 => ?_
    refine region ?_
    refine s0 moveA rfl ?_
    refine s0 moveA rfl ?_
    refine sLen (f := TVerdict.c) (s := a0) (TK rfl) rfl rfl rfl rfl fun hL12 => ?_
    refine s0 (binI rfl rfl rfl) rfl ?_
    refine nil ?_
    refine hK11 _ ?_
    clear hK11 K11
    refine condE hE rfl (fun hc13 hE => ?_) (fun hc13 hE => ?_)
    ·try dsimp only at hc13
     have hf13 := of_decide_eq_true hc13
     refine AWp.skip ?_
     refine hK10 _ ?_
     clear hK10 K10
     refine seqK fun K14 hK14 => ?_
     refine block ?_
     refine seqK fun K15 hK15 => ?_
     refine AWp.draw rfl ?_
     refine DOps.s0 moveA rfl ?_
     refine DOps.s0 moveA rfl ?_
     obtain ⟨x16, gx16, hE⟩ := bindO_some hE
     refine DOps.s0 (idxMn (f := TVerdict.c) (n := s3_9) (TK rfl) rfl (TK rfl) rfl rfl rfl gx16) rfl ?_
     refine DOps.s0 (loadV (TK rfl) rfl rfl rfl) rfl ?_
     obtain ⟨x17, gx17, hE⟩ := bindO_some hE
     refine DOps.s0 (callR rfl rfl (Z17_walk (gT := gT) (oT := oT) gx17 _ hpG (by assumption))) rfl ?_
     refine DOps.s0 moveA rfl ?_
     refine DOps.s0 moveA rfl ?_
     obtain ⟨x18, gx18, hE⟩ := bindO_some hE
     refine DOps.s0 (idxMn (f := TVerdict.c) (n := s3_9) (TK rfl) rfl (TK rfl) rfl rfl rfl gx18) rfl ?_
     refine DOps.s0 (loadV (TK rfl) rfl rfl rfl) rfl ?_
     obtain ⟨x19, gx19, hE⟩ := bindO_some hE
     refine DOps.s0 (callP rfl rfl (fun H => Z28_walk gx19 H)) rfl ?_
     refine DOps.s0 (binS rfl rfl rfl) rfl ?_
     refine DOps.nil (by decide +kernel) ?_
     refine hK15 _ ?_
     clear hK15 K15
     refine condE hE rfl (fun hc20 hE => ?_) (fun hc20 hE => ?_)
     ·refine seqK fun K21 hK21 => ?_
      refine region ?_
      refine s0 assignA rfl ?_
      refine nil ?_
      refine hK21 _ ?_
      clear hK21 K21
      refine AWp.ret ?_
      repeat (first | refine xBlock_ret ?_ | refine xThen_ret ?_)
      obtain rfl := Option.some.inj hE
      refine retQ.retF H rfl ⟨rfl, rfl⟩ ?_
      exact (fun _ _ h => h)
     refine AWp.skip ?_
     refine hK14 _ ?_
     clear hK14 K14
     refine region ?_
     refine s0 moveA rfl ?_
     refine s0 (addI rfl rfl (by first | omega | (dsimp only; omega) | (simp at *; omega)) (by first | omega | (dsimp only; omega) | (simp at *; omega))) rfl ?_
     refine s0 assignA rfl ?_
     refine nil ?_
     exact hK8 _ (n8, (s3_9 + 1)) Weak.toA hE (Nat.lt_succ_self _)
    refine AWp.exit ?_
    exact hK2 _ () Weak.toA hE
 rintro _ hE
 try dsimp only at hE
 unfold Z21_j2 at hE
 refine seqK fun K3 hK3 => ?_
 refine region ?_
 refine s0 moveA rfl ?_
 obtain ⟨x4, gx4, hE⟩ := bindO_some hE
 refine s0 (callP rfl rfl (fun H => Z18_walk gx4 H)) rfl ?_
 refine s0 moveA rfl ?_
 obtain ⟨x5, gx5, hE⟩ := bindO_some hE
 refine s0 (callP rfl rfl (fun H => Z29_walk gx5 H)) rfl ?_
 refine s0 (eqB (TK rfl) rfl rfl rfl) rfl ?_
 refine s0 moveA rfl ?_
 obtain ⟨x6, gx6, hE⟩ := guardO_some hE
 refine gC rfl rfl (fun hC => callP rfl rfl (fun H => Z22_walk (gx6 hC) H)) rfl ?_
 refine s0 (pickAndA rfl rfl rfl) rfl ?_
 refine s0 assignA rfl ?_
 refine nil ?_
 refine hK3 _ ?_
 clear hK3 K3
 refine AWp.ret ?_
 repeat (first | refine xBlock_ret ?_ | refine xThen_ret ?_)
 obtain rfl := Option.some.inj hE
 refine retQ.retF H rfl ⟨rfl, rfl⟩ ?_
 exact (fun _ _ h => h)
end
end Go.Proofs

namespace Go.Proofs
open Go Go.Ab
def Z45_q (a0 : Int) : Option Bs := (Z40_q a0).bind fun x3 => some x3
theorem Z45_eq (a0 : Int) : Z45 a0 = Z45_q a0 := by
 unfold Z45 Z45_q
 refine Eq.trans ?_ (Q.some_bind _)
 refine Q.bindO (Z40_eq _) fun x3 => ?_
 all_goals rfl
def Z15_q (a0 : Int) : Option Bs := bif ((decide (a0 < (1 : Int))) || (decide ((18 : Int) < a0))) then ((Z45_q a0).bind fun x7 => (catC ([67, 104, 97, 110, 103, 101, 32] : Bs) x7).bind fun x8 => some x8) else ((idxC ([([] : Bs), ([84, 121, 112, 101, 71, 111, 110, 101] : Bs), ([84, 121, 112, 101, 78, 101, 119] : Bs), ([84, 121, 112, 101, 75, 105, 110, 100] : Bs), ([70, 105, 101, 108, 100, 71, 111, 110, 101] : Bs), ([70, 105, 101, 108, 100, 78, 101, 119] : Bs), ([70, 105, 101, 108, 100, 84, 121, 112, 101] : Bs), ([65, 114, 103, 71, 111, 110, 101] : Bs), ([65, 114, 103, 78, 101, 119] : Bs), ([65, 114, 103, 84, 121, 112, 101] : Bs), ([65, 114, 103, 68, 101, 102, 97, 117, 108, 116] : Bs), ([77, 101, 109, 98, 101, 114, 71, 111, 110, 101] : Bs), ([77, 101, 109, 98, 101, 114, 78, 101, 119] : Bs), ([73, 110, 112, 117, 116, 71, 111, 110, 101] : Bs), ([73, 110, 112, 117, 116, 78, 101, 119] : Bs), ([73, 110, 112, 117, 116, 84, 121, 112, 101] : Bs), ([73, 110, 112, 117, 116, 68, 101, 102, 97, 117, 108, 116] : Bs), ([70, 97, 99, 101, 71, 111, 110, 101] : Bs), ([70, 97, 99, 101, 78, 101, 119] : Bs)] : List Bs) a0).bind fun x10 => some x10)
theorem Z15_eq (a0 : Int) : Z15 a0 = Z15_q a0 := by
 unfold Z15 Z15_q
 refine Eq.trans ?_ (Q.some_bind _)
 refine Q.condO ?_ ?_
 ·refine Q.bindO (Z45_eq _) fun x7 => ?_
  refine Q.bindO rfl fun x8 => ?_
  all_goals rfl
 refine Q.bindO rfl fun x10 => ?_
 all_goals rfl
def Z14_q (a0 : Bs) : Bs := bif ((a0 == ([] : Bs))) then (([110, 111, 110, 101] : Bs)) else (a0)
theorem Z14_eq (a0 : Bs) : Z14 a0 = some (Z14_q a0) := by
 unfold Z14 Z14_q
 refine Q.condP ?_ ?_
 ·all_goals rfl
 all_goals rfl
def Z1_q (a0 : TChange) : Option Bs := (Z15_q a0.FKind).bind fun x3 => (catC x3 ([32] : Bs)).bind fun x4 => (catC x4 a0.FType).bind fun x5 => Option.bind (bif (!(a0.FField == ([] : Bs))) then ((catC ([46] : Bs) a0.FField).bind fun x28 => (catC x5 x28).bind fun x29 => some x29) else (some x5)) fun s3_7 => Option.bind (bif (!(a0.FArg == ([] : Bs))) then ((catC ([40] : Bs) a0.FArg).bind fun x23 => (catC x23 ([41] : Bs)).bind fun x24 => (catC s3_7 x24).bind fun x25 => some x25) else (some s3_7)) fun s3_9 => Option.bind (bif ((!(a0.FFrom == ([] : Bs))) || (!(a0.FTo == ([] : Bs)))) then (on (Z14_q a0.FFrom) fun x15 => (catC ([58, 32] : Bs) x15).bind fun x16 => (catC x16 ([32, 45, 62, 32] : Bs)).bind fun x17 => on (Z14_q a0.FTo) fun x18 => (catC x17 x18).bind fun x19 => (catC s3_9 x19).bind fun x20 => some x20) else (some s3_9)) fun s3_11 => some s3_11
theorem Z1_eq (a0 : TChange) : Z1 a0 = Z1_q a0 := by
 unfold Z1 Z1_q
 refine Eq.trans ?_ (Q.some_bind _)
 refine Q.bindO (Z15_eq _) fun x3 => ?_
 refine Q.bindO rfl fun x4 => ?_
 refine Q.bindO rfl fun x5 => ?_
 refine Q.wrapOO fun Kj6 hKj6 => ?_
 have hj6 : ∀ (s3_7 : Bs), Z1_j6 a0 s3_7 = Kj6 s3_7 := by
  intro s3_7
  refine Eq.trans ?_ (hKj6 _).symm
  unfold Z1_j6
  refine Q.wrapOO fun Kj8 hKj8 => ?_
  have hj8 : ∀ (s3_9 : Bs), Z1_j8 a0 s3_9 = Kj8 s3_9 := by
   intro s3_9
   refine Eq.trans ?_ (hKj8 _).symm
   unfold Z1_j8
   refine Q.wrapOO fun Kj10 hKj10 => ?_
   have hj10 : ∀ (s3_11 : Bs), Z1_j10  s3_11 = Kj10 s3_11 := by
    intro s3_11
    refine Eq.trans ?_ (hKj10 _).symm
    unfold Z1_j10
    all_goals rfl
   refine Q.condO ?_ ?_
   ·refine Q.bindPO (Z14_eq _) fun x15 hx_x15 => ?_
    refine Q.bindO rfl fun x16 => ?_
    refine Q.bindO rfl fun x17 => ?_
    refine Q.bindPO (Z14_eq _) fun x18 hx_x18 => ?_
    refine Q.bindO rfl fun x19 => ?_
    refine Q.bindO rfl fun x20 => ?_
    all_goals exact hj10 _
   all_goals exact hj10 _
  refine Q.condO ?_ ?_
  ·refine Q.bindO rfl fun x23 => ?_
   refine Q.bindO rfl fun x24 => ?_
   refine Q.bindO rfl fun x25 => ?_
   all_goals exact hj8 _
  all_goals exact hj8 _
 refine Q.condO ?_ ?_
 ·refine Q.bindO rfl fun x28 => ?_
  refine Q.bindO rfl fun x29 => ?_
  all_goals exact hj6 _
 all_goals exact hj6 _
def Z17_q19  : List Int → (Sl Bs) → Option ((Sl Bs))
 | [], s3_20 => some s3_20
 | h19 :: r19, s3_20 => on (h19) fun x27 => (Z40_q x27).bind fun x28 => (appC 16 s3_20 (⟨false, [x28]⟩ : Sl Bs)).bind fun x29 => Z17_q19  (r19) x29
theorem Z17_l19_qe {a0 : TVerdict}  (Kb19 : ((Sl Bs)) → Option Bs) (hend : ∀ (n19 : Nat) (s3_20 : (Sl Bs)) (s15_21 : Nat), Z17_j9 a0  s3_20 = Kb19 s3_20) : ∀ (n19 : Nat) (s3_20 : (Sl Bs)) (s15_21 : Nat), (0 < n19 ∧ a0.FBreaks.l.length < s15_21 + n19) → Z17_l19 a0 n19 s3_20 s15_21 = Option.bind (Z17_q19  (a0.FBreaks.l.drop s15_21) s3_20) Kb19 := by
 intro n19
 induction n19 with
 | zero => intro s3_20 s15_21 hn; exact absurd hn.1 (by omega)
 | succ n19 ih19 =>
  intro s3_20 s15_21 hn
  rw [Z17_l19]
  by_cases hlt : s15_21 < a0.FBreaks.l.length
  ·obtain ⟨h19, hh19⟩ : ∃ x, a0.FBreaks.l[s15_21]? = some x := ⟨_, List.getElem?_eq_getElem hlt⟩
   rw [Q.drop_of hh19, Z17_q19]
   refine Q.condT (Q.ltT hlt) ?_
   refine Q.bindPO hh19 fun x27 hx_x27 => ?_
   refine Q.bindO (Z40_eq _) fun x28 => ?_
   refine Q.bindO rfl fun x29 => ?_
   all_goals exact ih19 _ _ ⟨by omega, by omega⟩
  rw [List.drop_of_length_le (by omega), Z17_q19]
  refine Q.condF (Q.ltF hlt) ?_
  exact hend n19 s3_20 s15_21
def Z17_q (a0 : TVerdict) : Option Bs := bif a0.FSafe then ((Z1_q a0.FChange).bind fun x6 => (catC ([115, 97, 102, 101, 58, 32] : Bs) x6).bind fun x7 => some x7) else (Option.bind (Z17_q19  a0.FBreaks.l (Sl.nil : Sl Bs)) fun s3_20 => on (s3_20) fun s3_10 => (Z44_q s3_10 ([44, 32] : Bs)).bind fun x12 => (catC ([98, 114, 101, 97, 107, 115, 32] : Bs) x12).bind fun x13 => (catC x13 ([58, 32] : Bs)).bind fun x14 => (Z1_q a0.FChange).bind fun x15 => (catC x14 x15).bind fun x16 => some x16)
theorem Z17_eq (a0 : TVerdict) : Z17 a0 = Z17_q a0 := by
 unfold Z17 Z17_q
 refine Eq.trans ?_ (Q.some_bind _)
 refine Q.condO ?_ ?_
 ·refine Q.bindO (Z1_eq _) fun x6 => ?_
  refine Q.bindO rfl fun x7 => ?_
  all_goals rfl
 refine Q.wrapOO fun Kb19 hKb19 => ?_
 refine Z17_l19_qe  Kb19 ?_ _ _ _ ⟨Nat.succ_pos _, by omega⟩
 intro n19 s3_20 s15_21
 refine Eq.trans ?_ (hKb19 _).symm
 refine Q.wrapPO fun Kj9 hKj9 => ?_
 have hj9 : ∀ (s3_10 : (Sl Bs)), Z17_j9 a0 s3_10 = Kj9 s3_10 := by
  intro s3_10
  refine Eq.trans ?_ (hKj9 _).symm
  unfold Z17_j9
  refine Q.bindO (Z44_eq _ _) fun x12 => ?_
  refine Q.bindO rfl fun x13 => ?_
  refine Q.bindO rfl fun x14 => ?_
  refine Q.bindO (Z1_eq _) fun x15 => ?_
  refine Q.bindO rfl fun x16 => ?_
  all_goals rfl
 all_goals exact hj9 _
def Z24_qn : Nat → Int → Option Bs
 | 0, _ => none
 | n + 1, a0 => (subC (48 : Int) (Int.tmod a0 (10 : Int))).bind fun x3 => bif (decide ((-10 : Int) < a0)) then (some (bytesC (⟨false, [(IntKind.wrap .u8 x3)]⟩ : Sl Int))) else (((Z24_qn n) (IntKind.wrap .i64 (Int.tdiv a0 (10 : Int)))).bind fun x9 => (catC x9 (bytesC (⟨false, [(IntKind.wrap .u8 x3)]⟩ : Sl Int))).bind fun x10 => some x10)
theorem Z24_qall : ∀ n : Nat, Z24_n n = Z24_qn n := by
 intro n
 induction n with
 | zero => exact (by funext a0; first | rfl | (rw [Z24_n, Z24_qn]))
 | succ n ih =>
  funext a0
  refine Eq.trans ?_ (Q.some_bind _)
  rw [Z24_n, Z24_qn]
  try rw [ih]
  refine Q.bindO rfl fun x3 => ?_
  refine Q.condO ?_ ?_
  ·all_goals rfl
  refine Q.bindO rfl fun x9 => ?_
  refine Q.bindO rfl fun x10 => ?_
  all_goals rfl
def Z24_q (a0 : Int) : Option Bs := Z24_qn F0 a0
theorem Z24_eq (a0 : Int) : Z24 a0 = Z24_q a0 := by
 unfold Z24 Z24_q; rw [(Z24_qall F0)]
def Z23_q (a0 : Int) : Option Bs := bif (decide (a0 < (0 : Int))) then ((Z24_q a0).bind fun x6 => (catC ([45] : Bs) x6).bind fun x7 => some x7) else ((Z24_q (IntKind.wrap .i64 (0 - a0))).bind fun x9 => some x9)
theorem Z23_eq (a0 : Int) : Z23 a0 = Z23_q a0 := by
 unfold Z23 Z23_q
 refine Eq.trans ?_ (Q.some_bind _)
 refine Q.condO ?_ ?_
 ·refine Q.bindO (Z24_eq _) fun x6 => ?_
  refine Q.bindO rfl fun x7 => ?_
  all_goals rfl
 refine Q.bindO (Z24_eq _) fun x9 => ?_
 all_goals rfl
def Z26_q (a0 : Int) : Option Bs := bif ((decide ((1 : Int) ≤ a0)) && (decide (a0 ≤ (((⟨false, [([84, 121, 112, 101, 71, 111, 110, 101] : Bs), ([84, 121, 112, 101, 78, 101, 119] : Bs), ([84, 121, 112, 101, 75, 105, 110, 100] : Bs), ([70, 105, 101, 108, 100, 71, 111, 110, 101] : Bs), ([70, 105, 101, 108, 100, 78, 101, 119] : Bs), ([70, 105, 101, 108, 100, 84, 121, 112, 101] : Bs), ([65, 114, 103, 71, 111, 110, 101] : Bs), ([65, 114, 103, 78, 101, 119] : Bs), ([65, 114, 103, 84, 121, 112, 101] : Bs), ([65, 114, 103, 68, 101, 102, 97, 117, 108, 116] : Bs), ([77, 101, 109, 98, 101, 114, 71, 111, 110, 101] : Bs), ([77, 101, 109, 98, 101, 114, 78, 101, 119] : Bs), ([73, 110, 112, 117, 116, 71, 111, 110, 101] : Bs), ([73, 110, 112, 117, 116, 78, 101, 119] : Bs), ([73, 110, 112, 117, 116, 84, 121, 112, 101] : Bs), ([73, 110, 112, 117, 116, 68, 101, 102, 97, 117, 108, 116] : Bs), ([70, 97, 99, 101, 71, 111, 110, 101] : Bs), ([70, 97, 99, 101, 78, 101, 119] : Bs)]⟩ : Sl Bs).l.length : Nat) : Int)))) then ((subC a0 (1 : Int)).bind fun x7 => (idxC (⟨false, [([84, 121, 112, 101, 71, 111, 110, 101] : Bs), ([84, 121, 112, 101, 78, 101, 119] : Bs), ([84, 121, 112, 101, 75, 105, 110, 100] : Bs), ([70, 105, 101, 108, 100, 71, 111, 110, 101] : Bs), ([70, 105, 101, 108, 100, 78, 101, 119] : Bs), ([70, 105, 101, 108, 100, 84, 121, 112, 101] : Bs), ([65, 114, 103, 71, 111, 110, 101] : Bs), ([65, 114, 103, 78, 101, 119] : Bs), ([65, 114, 103, 84, 121, 112, 101] : Bs), ([65, 114, 103, 68, 101, 102, 97, 117, 108, 116] : Bs), ([77, 101, 109, 98, 101, 114, 71, 111, 110, 101] : Bs), ([77, 101, 109, 98, 101, 114, 78, 101, 119] : Bs), ([73, 110, 112, 117, 116, 71, 111, 110, 101] : Bs), ([73, 110, 112, 117, 116, 78, 101, 119] : Bs), ([73, 110, 112, 117, 116, 84, 121, 112, 101] : Bs), ([73, 110, 112, 117, 116, 68, 101, 102, 97, 117, 108, 116] : Bs), ([70, 97, 99, 101, 71, 111, 110, 101] : Bs), ([70, 97, 99, 101, 78, 101, 119] : Bs)]⟩ : Sl Bs).l x7).bind fun x8 => some x8) else ((Z23_q a0).bind fun x10 => (catC ([67, 104, 97, 110, 103, 101, 32] : Bs) x10).bind fun x11 => some x11)
theorem Z26_eq (a0 : Int) : Z26 a0 = Z26_q a0 := by
 unfold Z26 Z26_q
 refine Eq.trans ?_ (Q.some_bind _)
 refine Q.condO ?_ ?_
 ·refine Q.bindO rfl fun x7 => ?_
  refine Q.bindO rfl fun x8 => ?_
  all_goals rfl
 refine Q.bindO (Z23_eq _) fun x10 => ?_
 refine Q.bindO rfl fun x11 => ?_
 all_goals rfl
def Z27_q (a0 : Bs) : Bs := bif ((a0 == ([] : Bs))) then (([110, 111, 110, 101] : Bs)) else (a0)
theorem Z27_eq (a0 : Bs) : Z27 a0 = some (Z27_q a0) := by
 unfold Z27 Z27_q
 refine Q.condP ?_ ?_
 ·all_goals rfl
 all_goals rfl
def Z25_q (a0 : TChange) : Option Bs := (Z26_q a0.FKind).bind fun x3 => (catC x3 ([32] : Bs)).bind fun x4 => (catC x4 a0.FType).bind fun x5 => Option.bind (bif (!(a0.FField == ([] : Bs))) then ((catC x5 ([46] : Bs)).bind fun x28 => (catC x28 a0.FField).bind fun x29 => some x29) else (some x5)) fun s3_7 => Option.bind (bif (!(a0.FArg == ([] : Bs))) then ((catC s3_7 ([40] : Bs)).bind fun x23 => (catC x23 a0.FArg).bind fun x24 => (catC x24 ([41] : Bs)).bind fun x25 => some x25) else (some s3_7)) fun s3_9 => Option.bind (bif ((!(a0.FFrom == ([] : Bs))) || (!(a0.FTo == ([] : Bs)))) then ((catC s3_9 ([58, 32] : Bs)).bind fun x15 => on (Z27_q a0.FFrom) fun x16 => (catC x15 x16).bind fun x17 => (catC x17 ([32, 45, 62, 32] : Bs)).bind fun x18 => on (Z27_q a0.FTo) fun x19 => (catC x18 x19).bind fun x20 => some x20) else (some s3_9)) fun s3_11 => some s3_11
theorem Z25_eq (a0 : TChange) : Z25 a0 = Z25_q a0 := by
 unfold Z25 Z25_q
 refine Eq.trans ?_ (Q.some_bind _)
 refine Q.bindO (Z26_eq _) fun x3 => ?_
 refine Q.bindO rfl fun x4 => ?_
 refine Q.bindO rfl fun x5 => ?_
 refine Q.wrapOO fun Kj6 hKj6 => ?_
 have hj6 : ∀ (s3_7 : Bs), Z25_j6 a0 s3_7 = Kj6 s3_7 := by
  intro s3_7
  refine Eq.trans ?_ (hKj6 _).symm
  unfold Z25_j6
  refine Q.wrapOO fun Kj8 hKj8 => ?_
  have hj8 : ∀ (s3_9 : Bs), Z25_j8 a0 s3_9 = Kj8 s3_9 := by
   intro s3_9
   refine Eq.trans ?_ (hKj8 _).symm
   unfold Z25_j8
   refine Q.wrapOO fun Kj10 hKj10 => ?_
   have hj10 : ∀ (s3_11 : Bs), Z25_j10  s3_11 = Kj10 s3_11 := by
    intro s3_11
    refine Eq.trans ?_ (hKj10 _).symm
    unfold Z25_j10
    all_goals rfl
   refine Q.condO ?_ ?_
   ·refine Q.bindO rfl fun x15 => ?_
    refine Q.bindPO (Z27_eq _) fun x16 hx_x16 => ?_
    refine Q.bindO rfl fun x17 => ?_
    refine Q.bindO rfl fun x18 => ?_
    refine Q.bindPO (Z27_eq _) fun x19 hx_x19 => ?_
    refine Q.bindO rfl fun x20 => ?_
    all_goals exact hj10 _
   all_goals exact hj10 _
  refine Q.condO ?_ ?_
  ·refine Q.bindO rfl fun x23 => ?_
   refine Q.bindO rfl fun x24 => ?_
   refine Q.bindO rfl fun x25 => ?_
   all_goals exact hj8 _
  all_goals exact hj8 _
 refine Q.condO ?_ ?_
 ·refine Q.bindO rfl fun x28 => ?_
  refine Q.bindO rfl fun x29 => ?_
  all_goals exact hj6 _
 all_goals exact hj6 _
def Z28_q16  : List Int → Nat → Bs → Option (Bs)
 | [], s4_18, s3_17 => some s3_17
 | h16 :: r16, s4_18, s3_17 => Option.bind (bif (decide ((0 : Int) < ((s4_18 : Nat) : Int))) then ((catC s3_17 ([44, 32] : Bs)).bind fun x32 => some x32) else (some s3_17)) fun s3_26 => on (h16) fun x27 => (Z23_q x27).bind fun x28 => (catC s3_26 x28).bind fun x29 => on (x29) fun s3_24 => Z28_q16  (r16) (s4_18 + 1) s3_24
theorem Z28_l16_qe {a0 : TVerdict}  (Kb16 : (Bs) → Option Bs) (hend : ∀ (n16 : Nat) (s3_17 : Bs) (s4_18 : Nat), Z28_j9 a0  s3_17 = Kb16 s3_17) : ∀ (n16 : Nat) (s3_17 : Bs) (s4_18 : Nat), (0 < n16 ∧ a0.FBreaks.l.length < s4_18 + n16) → Z28_l16 a0 n16 s3_17 s4_18 = Option.bind (Z28_q16  (a0.FBreaks.l.drop s4_18) s4_18 s3_17) Kb16 := by
 intro n16
 induction n16 with
 | zero => intro s3_17 s4_18 hn; exact absurd hn.1 (by omega)
 | succ n16 ih16 =>
  intro s3_17 s4_18 hn
  rw [Z28_l16]
  by_cases hlt : s4_18 < a0.FBreaks.l.length
  ·obtain ⟨h16, hh16⟩ : ∃ x, a0.FBreaks.l[s4_18]? = some x := ⟨_, List.getElem?_eq_getElem hlt⟩
   rw [Q.drop_of hh16, Z28_q16]
   refine Q.condT (Q.ltT hlt) ?_
   refine Q.wrapOO fun Kj25 hKj25 => ?_
   have hj25 : ∀ (s3_26 : Bs), Z28_j25 a0 s4_18 (Z28_l16 a0 n16) s3_26 = Kj25 s3_26 := by
    intro s3_26
    refine Eq.trans ?_ (hKj25 _).symm
    unfold Z28_j25
    refine Q.bindPO hh16 fun x27 hx_x27 => ?_
    refine Q.bindO (Z23_eq _) fun x28 => ?_
    refine Q.bindO rfl fun x29 => ?_
    refine Q.wrapPO fun Kj23 hKj23 => ?_
    have hj23 : ∀ (s3_24 : Bs), Z28_j23 s4_18 (Z28_l16 a0 n16) s3_24 = Kj23 s3_24 := by
     intro s3_24
     refine Eq.trans ?_ (hKj23 _).symm
     unfold Z28_j23
     all_goals exact ih16 _ _ ⟨by omega, by omega⟩
    all_goals exact hj23 _
   refine Q.condO ?_ ?_
   ·refine Q.bindO rfl fun x32 => ?_
    all_goals exact hj25 _
   all_goals exact hj25 _
  rw [List.drop_of_length_le (by omega), Z28_q16]
  refine Q.condF (Q.ltF hlt) ?_
  exact hend n16 s3_17 s4_18
def Z28_q (a0 : TVerdict) : Option Bs := bif a0.FSafe then ((Z25_q a0.FChange).bind fun x6 => (catC ([115, 97, 102, 101, 58, 32] : Bs) x6).bind fun x7 => some x7) else (Option.bind (Z28_q16  a0.FBreaks.l 0 ([98, 114, 101, 97, 107, 115, 32] : Bs)) fun s3_17 => on (s3_17) fun s3_10 => (catC s3_10 ([58, 32] : Bs)).bind fun x12 => (Z25_q a0.FChange).bind fun x13 => (catC x12 x13).bind fun x14 => some x14)
theorem Z28_eq (a0 : TVerdict) : Z28 a0 = Z28_q a0 := by
 unfold Z28 Z28_q
 refine Eq.trans ?_ (Q.some_bind _)
 refine Q.condO ?_ ?_
 ·refine Q.bindO (Z25_eq _) fun x6 => ?_
  refine Q.bindO rfl fun x7 => ?_
  all_goals rfl
 refine Q.wrapOO fun Kb16 hKb16 => ?_
 refine Z28_l16_qe  Kb16 ?_ _ _ _ ⟨Nat.succ_pos _, by omega⟩
 intro n16 s3_17 s4_18
 refine Eq.trans ?_ (hKb16 _).symm
 refine Q.wrapPO fun Kj9 hKj9 => ?_
 have hj9 : ∀ (s3_10 : Bs), Z28_j9 a0 s3_10 = Kj9 s3_10 := by
  intro s3_10
  refine Eq.trans ?_ (hKj9 _).symm
  unfold Z28_j9
  refine Q.bindO rfl fun x12 => ?_
  refine Q.bindO (Z25_eq _) fun x13 => ?_
  refine Q.bindO rfl fun x14 => ?_
  all_goals rfl
 all_goals exact hj9 _
def Z18_q6  : List TVerdict → Unit ⊕ Bool
 | [] => Sum.inl ()
 | h6 :: r6 => on (h6) fun x13 => bif (!x13.FSafe) then (Sum.inr false) else (Z18_q6  (r6) )
theorem Z18_l6_qe {a0 : (Sl TVerdict)}  (Kb6 : (Unit ⊕ Bool) → Option Bool) (hend : ∀ (n6 : Nat) (s7_7 : Nat), Z18_j2    = Kb6 (Sum.inl ())) (hret : ∀ e : Bool, some e = Kb6 (Sum.inr e)) : ∀ (n6 : Nat) (s7_7 : Nat), (0 < n6 ∧ a0.l.length < s7_7 + n6) → Z18_l6 a0 n6 s7_7 = Kb6 (Z18_q6  (a0.l.drop s7_7) ) := by
 intro n6
 induction n6 with
 | zero => intro s7_7 hn; exact absurd hn.1 (by omega)
 | succ n6 ih6 =>
  intro s7_7 hn
  rw [Z18_l6]
  by_cases hlt : s7_7 < a0.l.length
  ·obtain ⟨h6, hh6⟩ : ∃ x, a0.l[s7_7]? = some x := ⟨_, List.getElem?_eq_getElem hlt⟩
   rw [Q.drop_of hh6, Z18_q6]
   refine Q.condT (Q.ltT hlt) ?_
   refine Q.bindP hh6 fun x13 hx_x13 => ?_
   refine Q.condP ?_ ?_
   ·all_goals exact hret _
   all_goals exact ih6 _ ⟨by omega, by omega⟩
  rw [List.drop_of_length_le (by omega), Z18_q6]
  refine Q.condF (Q.ltF hlt) ?_
  exact hend n6 s7_7
def Z18_q (a0 : (Sl TVerdict)) : Bool := on (Z18_q6  a0.l ) fun o6 => match o6 with | Sum.inl _ => (on (()) fun _ => true) | Sum.inr e6 => (e6)
theorem Z18_eq (a0 : (Sl TVerdict)) : Z18 a0 = some (Z18_q a0) := by
 unfold Z18 Z18_q
 refine Q.wrapPP fun Kb6 hKb6 => ?_
 refine Z18_l6_qe  Kb6 ?_ ?_ _ _ ⟨Nat.succ_pos _, by omega⟩
 ·intro n6 s7_7
  refine Eq.trans ?_ (hKb6 _).symm
  try dsimp only
  refine Q.wrapPP fun Kj2 hKj2 => ?_
  have hj2 : Z18_j2   = Kj2 () := by
   refine Eq.trans ?_ (hKj2 _).symm
   unfold Z18_j2
   all_goals rfl
  all_goals exact hj2
 intro e6
 refine Eq.trans ?_ (hKb6 _).symm
 try dsimp only
 all_goals rfl
def Z29_q5  : List TVerdict → Unit ⊕ Bool
 | [] => Sum.inl ()
 | h5 :: r5 => on (h5) fun x13 => bif (!x13.FSafe) then (Sum.inr false) else (Z29_q5  (r5) )
theorem Z29_l5_qe {a0 : (Sl TVerdict)}  (Kb5 : (Unit ⊕ Bool) → Option Bool) (hend : ∀ (n5 : Nat) (s3_6 : Nat), Z29_j2    = Kb5 (Sum.inl ())) (hret : ∀ e : Bool, some e = Kb5 (Sum.inr e)) : ∀ (n5 : Nat) (s3_6 : Nat), (0 < n5 ∧ a0.l.length < s3_6 + n5) → Z29_l5 a0 n5 s3_6 = Kb5 (Z29_q5  (a0.l.drop s3_6) ) := by
 intro n5
 induction n5 with
 | zero => intro s3_6 hn; exact absurd hn.1 (by omega)
 | succ n5 ih5 =>
  intro s3_6 hn
  rw [Z29_l5]
  by_cases hlt : s3_6 < a0.l.length
  ·obtain ⟨h5, hh5⟩ : ∃ x, a0.l[s3_6]? = some x := ⟨_, List.getElem?_eq_getElem hlt⟩
   rw [Q.drop_of hh5, Z29_q5]
   refine Q.condT (Q.ltT hlt) ?_
   refine Q.bindP hh5 fun x13 hx_x13 => ?_
   refine Q.condP ?_ ?_
   ·all_goals exact hret _
   all_goals exact ih5 _ ⟨by omega, by omega⟩
  rw [List.drop_of_length_le (by omega), Z29_q5]
  refine Q.condF (Q.ltF hlt) ?_
  exact hend n5 s3_6
def Z29_q (a0 : (Sl TVerdict)) : Bool := on (Z29_q5  a0.l ) fun o5 => match o5 with | Sum.inl _ => (on (()) fun _ => true) | Sum.inr e5 => (e5)
theorem Z29_eq (a0 : (Sl TVerdict)) : Z29 a0 = some (Z29_q a0) := by
 unfold Z29 Z29_q
 refine Q.wrapPP fun Kb5 hKb5 => ?_
 refine Z29_l5_qe  Kb5 ?_ ?_ _ _ ⟨Nat.succ_pos _, by omega⟩
 ·intro n5 s3_6
  refine Eq.trans ?_ (hKb5 _).symm
  try dsimp only
  refine Q.wrapPP fun Kj2 hKj2 => ?_
  have hj2 : Z29_j2   = Kj2 () := by
   refine Eq.trans ?_ (hKj2 _).symm
   unfold Z29_j2
   all_goals rfl
  all_goals exact hj2
 intro e5
 refine Eq.trans ?_ (hKb5 _).symm
 try dsimp only
 all_goals rfl
end Go.Proofs

namespace Go.Proofs
open Go Go.Ab
def Z21_q8  : List TVerdict → Option (Unit ⊕ Bool)
 | [] => some (Sum.inl ())
 | h8 :: r8 => on (h8) fun x16 => (Z17_q x16).bind fun x17 => on (h8) fun x18 => (Z28_q x18).bind fun x19 => bif (!(x17 == x19)) then (some (Sum.inr false)) else (Z21_q8  (r8) )
theorem Z21_l8_qe {a0 : (Sl TVerdict)}  (Kb8 : (Unit ⊕ Bool) → Option Bool) (hend : ∀ (n8 : Nat) (s3_9 : Nat), Z21_j2 a0   = Kb8 (Sum.inl ())) (hret : ∀ e : Bool, some e = Kb8 (Sum.inr e)) : ∀ (n8 : Nat) (s3_9 : Nat), (0 < n8 ∧ a0.l.length < s3_9 + n8) → Z21_l8 a0 n8 s3_9 = Option.bind (Z21_q8  (a0.l.drop s3_9) ) Kb8 := by
 intro n8
 induction n8 with
 | zero => intro s3_9 hn; exact absurd hn.1 (by omega)
 | succ n8 ih8 =>
  intro s3_9 hn
  rw [Z21_l8]
  by_cases hlt : s3_9 < a0.l.length
  ·obtain ⟨h8, hh8⟩ : ∃ x, a0.l[s3_9]? = some x := ⟨_, List.getElem?_eq_getElem hlt⟩
   rw [Q.drop_of hh8, Z21_q8]
   refine Q.condT (Q.ltT hlt) ?_
   refine Q.bindPO hh8 fun x16 hx_x16 => ?_
   refine Q.bindO (Z17_eq _) fun x17 => ?_
   refine Q.bindPO hh8 fun x18 hx_x18 => ?_
   refine Q.bindO (Z28_eq _) fun x19 => ?_
   refine Q.condO ?_ ?_
   ·all_goals exact hret _
   all_goals exact ih8 _ ⟨by omega, by omega⟩
  rw [List.drop_of_length_le (by omega), Z21_q8]
  refine Q.condF (Q.ltF hlt) ?_
  exact hend n8 s3_9
def Z21_q (a0 : (Sl TVerdict)) : Option Bool := Option.bind (Z21_q8  a0.l ) fun o8 => match o8 with | Sum.inl _ => (on (()) fun _ => on (Z18_q a0) fun x4 => on (Z29_q a0) fun x5 => guardO (((x4 == x5))) (Z22) false fun x6 => some (((x4 == x5)) && x6)) | Sum.inr e8 => (some e8)
theorem Z21_eq (a0 : (Sl TVerdict)) : Z21 a0 = Z21_q a0 := by
 unfold Z21 Z21_q
 refine Eq.trans ?_ (Q.some_bind _)
 refine Q.wrapOO fun Kb8 hKb8 => ?_
 refine Z21_l8_qe  Kb8 ?_ ?_ _ _ ⟨Nat.succ_pos _, by omega⟩
 ·intro n8 s3_9
  refine Eq.trans ?_ (hKb8 _).symm
  try dsimp only
  refine Q.wrapPO fun Kj2 hKj2 => ?_
  have hj2 : Z21_j2 a0  = Kj2 () := by
   refine Eq.trans ?_ (hKj2 _).symm
   unfold Z21_j2
   refine Q.bindPO (Z18_eq _) fun x4 hx_x4 => ?_
   refine Q.bindPO (Z29_eq _) fun x5 hx_x5 => ?_
   refine Q.guardOO rfl fun x6 => ?_
   all_goals rfl
  all_goals exact hj2
 intro e8
 refine Eq.trans ?_ (hKb8 _).symm
 try dsimp only
 all_goals rfl
end Go.Proofs

namespace Go.Proofs
open Go Go.Ab
theorem u8_small {n : Nat} (h : n < 256) : IntKind.wrap .u8 (n : Int) = (n : Int) := by
 have : (n : Int) % 256 = n := by omega
 simp [IntKind.wrap, IntKind.bits, IntKind.signed]; omega
theorem bytes_one (k : Nat) : bytesC (⟨false, [((48 + k : Nat) : Int)]⟩ : Sl Int) = [UInt8.ofNat (48 + k)] := by
 show [UInt8.ofNat ((48 + k : Nat) : Int).toNat] = _
 rw [Int.toNat_natCast]
theorem dlen : ∀ (f u : Nat), u < 10 ^ f → (Lib.decDigits u).length ≤ f + 1 := by
 intro f
 induction f with
 | zero =>
  intro u hu
  have : u = 0 := by simpa using hu
  subst this; rw [Lib.decDigits]; simp
 | succ f ih =>
  intro u hu
  rw [Lib.decDigits]
  split
  ·simp
  ·have := ih (u / 10) (by rw [Nat.pow_succ] at hu; omega)
   simp; omega
theorem dlen20 {u : Nat} (h : u ≤ 9223372036854775808) : (Lib.decDigits u).length ≤ 21 := dlen 20 u (by omega)
theorem itoaLen {n : Int} (h0 : -9223372036854775808 ≤ n) (h1 : n ≤ 9223372036854775807) : (Lib.itoa n).length ≤ 22 := by
 unfold Lib.itoa
 split
 ·have := dlen20 (u := n.natAbs) (by omega); simp; omega
 ·have := dlen20 (u := n.toNat) (by omega); omega
theorem digits_eq : ∀ (f u : Nat), u < 10 ^ f → u ≤ 9223372036854775808 → f ≤ 30 → ∀ m, f + 1 ≤ m → Z24_qn m (-(u : Int)) = some (Lib.decDigits u) := by
 intro f
 induction f with
 | zero =>
  intro u hu hb hf m hm
  have : u = 0 := by simpa using hu
  subst this
  obtain ⟨m, rfl⟩ : ∃ k, m = k + 1 := ⟨m - 1, by omega⟩
  rw [Lib.decDigits]; rfl
 | succ f ih =>
  intro u hu hb hf m hm
  obtain ⟨m, rfl⟩ : ∃ k, m = k + 1 := ⟨m - 1, by omega⟩
  have h1 : Int.tmod (-(u : Int)) 10 = -((u % 10 : Nat) : Int) := by rw [Int.neg_tmod]; rfl
  have h2 : Int.tdiv (-(u : Int)) 10 = -((u / 10 : Nat) : Int) := by rw [Int.neg_tdiv]; rfl
  rw [Z24_qn, h1, h2, subC_ok (by omega), Option.bind_some]
  have h3 : (48 : Int) - -((u % 10 : Nat) : Int) = ((48 + u % 10 : Nat) : Int) := by omega
  rw [h3, u8_small (by omega), Lib.decDigits]
  by_cases hs : u < 10
  ·rw [dif_pos hs, show decide ((-10 : Int) < -(u : Int)) = true from decide_eq_true (by omega), cond_true, Nat.mod_eq_of_lt hs, bytes_one]
  ·rw [dif_neg hs, show decide ((-10 : Int) < -(u : Int)) = false from decide_eq_false (by omega), cond_false, IntWalk.i64_in _ (by omega), ih (u / 10) (by rw [Nat.pow_succ] at hu; omega) (by omega) (by omega) m (by omega), Option.bind_some]
   have hl := dlen20 (u := u / 10) (by omega)
   rw [bytes_one, catC_ok (by simp; omega), Option.bind_some]
theorem decimal_eq {n : Int} (h0 : -9223372036854775808 ≤ n) (h1 : n ≤ 9223372036854775807) : Z23_q n = some (Lib.itoa n) := by
 unfold Z23_q Z24_q
 have hF : ∀ u : Nat, u ≤ 9223372036854775808 → Z24_qn F0 (-(u : Int)) = some (Lib.decDigits u) := fun u hu => digits_eq 20 u (by omega) hu (by omega) F0 (by rw [F0_eq]; omega)
 by_cases hn : n < 0
 ·obtain ⟨u, rfl⟩ : ∃ u : Nat, n = -(u : Int) := ⟨n.natAbs, by omega⟩
  rw [show decide (-(u : Int) < 0) = true from decide_eq_true hn, cond_true, hF u (by omega), Option.bind_some]
  have hl := dlen20 (u := u) (by omega)
  rw [catC_ok (by simp; omega), Option.bind_some]
  unfold Lib.itoa; rw [if_pos hn, show (-(u : Int)).natAbs = u by omega]; rfl
 ·obtain ⟨u, rfl⟩ : ∃ u : Nat, n = (u : Int) := ⟨n.natAbs, by omega⟩
  rw [show decide ((u : Int) < 0) = false from decide_eq_false hn, cond_false, IntWalk.i64_in _ (by omega), show (0 : Int) - (u : Int) = -(u : Int) by omega, hF u (by omega), Option.bind_some]
  unfold Lib.itoa; rw [if_neg hn, Int.toNat_natCast]
theorem textDecimal_eq {n : Int} (h0 : -9223372036854775808 ≤ n) (h1 : n ≤ 9223372036854775807) : Z45_q n = some (Lib.itoa n) := by
 unfold Z45_q Z40_q Z40
 rw [if_pos ⟨h0, h1, by have := itoaLen h0 h1; unfold maxS; omega⟩]; rfl
end Go.Proofs

namespace Go.Proofs
open Go Go.Ab
theorem cc {a b : Bs} (ha : a.length ≤ 1000000000) (hb : b.length ≤ 1000000000) : catC a b = some (a ++ b) := catC_ok (by omega)
def words18 : List Bs := [[], [84, 121, 112, 101, 71, 111, 110, 101], [84, 121, 112, 101, 78, 101, 119], [84, 121, 112, 101, 75, 105, 110, 100], [70, 105, 101, 108, 100, 71, 111, 110, 101], [70, 105, 101, 108, 100, 78, 101, 119], [70, 105, 101, 108, 100, 84, 121, 112, 101], [65, 114, 103, 71, 111, 110, 101], [65, 114, 103, 78, 101, 119], [65, 114, 103, 84, 121, 112, 101], [65, 114, 103, 68, 101, 102, 97, 117, 108, 116], [77, 101, 109, 98, 101, 114, 71, 111, 110, 101], [77, 101, 109, 98, 101, 114, 78, 101, 119], [73, 110, 112, 117, 116, 71, 111, 110, 101], [73, 110, 112, 117, 116, 78, 101, 119], [73, 110, 112, 117, 116, 84, 121, 112, 101], [73, 110, 112, 117, 116, 68, 101, 102, 97, 117, 108, 116], [70, 97, 99, 101, 71, 111, 110, 101], [70, 97, 99, 101, 78, 101, 119]]
theorem condFls {α : Type} {c : Bool} {a b : α} (h : c = false) : (bif c then a else b) = b := by rw [h]; rfl
theorem word_is {k : Int} (h0 : -9223372036854775808 ≤ k) (h1 : k ≤ 9223372036854775807) : ∃ s, Z15_q k = some s ∧ Z26_q k = some s ∧ s.length ≤ 40 := by
 by_cases h : 1 ≤ k ∧ k ≤ 18
 ·obtain ⟨a, b⟩ := h
  have hk : k = 1 ∨ k = 2 ∨ k = 3 ∨ k = 4 ∨ k = 5 ∨ k = 6 ∨ k = 7 ∨ k = 8 ∨ k = 9 ∨ k = 10 ∨ k = 11 ∨ k = 12 ∨ k = 13 ∨ k = 14 ∨ k = 15 ∨ k = 16 ∨ k = 17 ∨ k = 18 := by omega
  rcases hk with rfl | rfl | rfl | rfl | rfl | rfl | rfl | rfl | rfl | rfl | rfl | rfl | rfl | rfl | rfl | rfl | rfl | rfl
  ·exact ⟨words18.getD 1 [], by kernel_rfl, by kernel_rfl, by decide⟩
  ·exact ⟨words18.getD 2 [], by kernel_rfl, by kernel_rfl, by decide⟩
  ·exact ⟨words18.getD 3 [], by kernel_rfl, by kernel_rfl, by decide⟩
  ·exact ⟨words18.getD 4 [], by kernel_rfl, by kernel_rfl, by decide⟩
  ·exact ⟨words18.getD 5 [], by kernel_rfl, by kernel_rfl, by decide⟩
  ·exact ⟨words18.getD 6 [], by kernel_rfl, by kernel_rfl, by decide⟩
  ·exact ⟨words18.getD 7 [], by kernel_rfl, by kernel_rfl, by decide⟩
  ·exact ⟨words18.getD 8 [], by kernel_rfl, by kernel_rfl, by decide⟩
  ·exact ⟨words18.getD 9 [], by kernel_rfl, by kernel_rfl, by decide⟩
  ·exact ⟨words18.getD 10 [], by kernel_rfl, by kernel_rfl, by decide⟩
  ·exact ⟨words18.getD 11 [], by kernel_rfl, by kernel_rfl, by decide⟩
  ·exact ⟨words18.getD 12 [], by kernel_rfl, by kernel_rfl, by decide⟩
  ·exact ⟨words18.getD 13 [], by kernel_rfl, by kernel_rfl, by decide⟩
  ·exact ⟨words18.getD 14 [], by kernel_rfl, by kernel_rfl, by decide⟩
  ·exact ⟨words18.getD 15 [], by kernel_rfl, by kernel_rfl, by decide⟩
  ·exact ⟨words18.getD 16 [], by kernel_rfl, by kernel_rfl, by decide⟩
  ·exact ⟨words18.getD 17 [], by kernel_rfl, by kernel_rfl, by decide⟩
  ·exact ⟨words18.getD 18 [], by kernel_rfl, by kernel_rfl, by decide⟩
 ·have hl := itoaLen h0 h1
  refine ⟨[67, 104, 97, 110, 103, 101, 32] ++ Lib.itoa k, ?_, ?_, by simp; omega⟩
  ·unfold Z15_q
   have : (decide (k < (1 : Int)) || decide ((18 : Int) < k)) = true := by simp; omega
   rw [this, cond_true, textDecimal_eq h0 h1, Option.bind_some, cc (by simp) (by omega)]; rfl
  ·unfold Z26_q
   refine (condFls ?_).trans ?_
   ·rw [Bool.and_eq_false_iff, decide_eq_false_iff_not, decide_eq_false_iff_not]
    show ¬ 1 ≤ k ∨ ¬ k ≤ 18
    omega
   ·rw [decimal_eq h0 h1, Option.bind_some, cc (by simp) (by omega)]; rfl
theorem some_is (s : Bs) : Z27_q s = Z14_q s := rfl
theorem some_len {s : Bs} {n : Nat} (h : s.length ≤ n) (hn : 4 ≤ n) : (Z14_q s).length ≤ n := by
 unfold Z14_q
 cases s == []
 ·exact h
 ·simp; exact hn
def pF (f : Bs) : Bs := bif !(f == ([] : Bs)) then [46] ++ f else []
def pA (f : Bs) : Bs := bif !(f == ([] : Bs)) then [40] ++ f ++ [41] else []
def pT (a b : Bs) : Bs := bif (!(a == ([] : Bs))) || (!(b == ([] : Bs))) then [58, 32] ++ Z14_q a ++ [32, 45, 62, 32] ++ Z14_q b else []
def txt (w : Bs) (c : TChange) : Bs := w ++ [32] ++ c.FType ++ pF c.FField ++ pA c.FArg ++ pT c.FFrom c.FTo
theorem pF_len {f : Bs} (h : f.length ≤ 1048576) : (pF f).length ≤ 1048577 := by unfold pF; cases !(f == []) <;> simp; omega
theorem pA_len {f : Bs} (h : f.length ≤ 1048576) : (pA f).length ≤ 1048578 := by unfold pA; cases !(f == []) <;> simp; omega
theorem pT_len {a b : Bs} (h : a.length ≤ 1048576) (h' : b.length ≤ 1048576) : (pT a b).length ≤ 2097160 := by
 have h1 := some_len h (by decide); have h2 := some_len h' (by decide)
 unfold pT; cases (!(a == [])) || (!(b == [])) <;> simp; omega
structure ChOk (c : TChange) : Prop where
 t : c.FType.length ≤ 1048576
 f : c.FField.length ≤ 1048576
 a : c.FArg.length ≤ 1048576
 x : c.FFrom.length ≤ 1048576
 y : c.FTo.length ≤ 1048576
 k0 : -9223372036854775808 ≤ c.FKind
 k1 : c.FKind ≤ 9223372036854775807
theorem text_is {c : TChange} (h : ChOk c) : ∃ s, Z1_q c = some s ∧ Z25_q c = some s ∧ s.length ≤ 8388608 := by
 obtain ⟨w, e1, e2, hw⟩ := word_is h.k0 h.k1
 obtain ⟨h1, h2, h3, h4, h5, _, _⟩ := h
 have l2 := pF_len h2; have l3 := pA_len h3; have l4 := pT_len h4 h5
 have s4 := some_len h4 (by decide); have s5 := some_len h5 (by decide)
 refine ⟨txt w c, ?_, ?_, by unfold txt; simp only [List.length_append, List.length_singleton]; omega⟩
 ·unfold Z1_q
  rw [e1, Option.bind_some, cc (by omega) (by simp), Option.bind_some, cc (by simp; omega) (by omega), Option.bind_some]
  have a1 : (bif (!(c.FField == ([] : Bs))) then ((catC ([46] : Bs) c.FField).bind fun x28 => (catC (w ++ [32] ++ c.FType) x28).bind fun x29 => some x29) else (some (w ++ [32] ++ c.FType))) = some (w ++ [32] ++ c.FType ++ pF c.FField) := by
   unfold pF
   cases !(c.FField == [])
   ·simp
   ·rw [cond_true, cond_true, cc (by simp) (by omega), Option.bind_some, cc (by simp; omega) (by simp; omega)]; rfl
  rw [a1, Option.bind_some]
  generalize hX : w ++ [32] ++ c.FType ++ pF c.FField = X
  have lX : X.length ≤ 5000000 := by rw [← hX]; simp only [List.length_append, List.length_singleton]; omega
  have a2 : (bif (!(c.FArg == ([] : Bs))) then ((catC ([40] : Bs) c.FArg).bind fun x23 => (catC x23 ([41] : Bs)).bind fun x24 => (catC X x24).bind fun x25 => some x25) else (some X)) = some (X ++ pA c.FArg) := by
   unfold pA
   cases !(c.FArg == [])
   ·simp
   ·rw [cond_true, cond_true, cc (by simp) (by omega), Option.bind_some, cc (by simp; omega) (by simp), Option.bind_some, cc (by omega) (by simp; omega)]; rfl
  rw [a2, Option.bind_some]
  generalize hY : X ++ pA c.FArg = Y
  have lY : Y.length ≤ 8000000 := by rw [← hY]; simp only [List.length_append]; omega
  have a3 : (bif ((!(c.FFrom == ([] : Bs))) || (!(c.FTo == ([] : Bs)))) then (Ab.on (Z14_q c.FFrom) fun x15 => (catC ([58, 32] : Bs) x15).bind fun x16 => (catC x16 ([32, 45, 62, 32] : Bs)).bind fun x17 => Ab.on (Z14_q c.FTo) fun x18 => (catC x17 x18).bind fun x19 => (catC Y x19).bind fun x20 => some x20) else (some Y)) = some (Y ++ pT c.FFrom c.FTo) := by
   unfold pT
   simp only [Ab.on]
   cases (!(c.FFrom == [])) || (!(c.FTo == []))
   ·simp
   ·rw [cond_true, cond_true, cc (by simp) (by omega), Option.bind_some, cc (by simp; omega) (by simp), Option.bind_some, cc (by simp; omega) (by omega), Option.bind_some, cc (by omega) (by simp; omega)]; rfl
  rw [a3, Option.bind_some]
  unfold txt
  rw [hX, hY]
 ·unfold Z25_q
  rw [e2, Option.bind_some, cc (by omega) (by simp), Option.bind_some, cc (by simp; omega) (by omega), Option.bind_some]
  have a1 : (bif (!(c.FField == ([] : Bs))) then ((catC (w ++ [32] ++ c.FType) ([46] : Bs)).bind fun x28 => (catC x28 c.FField).bind fun x29 => some x29) else (some (w ++ [32] ++ c.FType))) = some (w ++ [32] ++ c.FType ++ pF c.FField) := by
   unfold pF
   cases !(c.FField == [])
   ·simp
   ·rw [cond_true, cond_true, cc (by simp; omega) (by simp), Option.bind_some, cc (by simp; omega) (by omega), List.append_assoc (w ++ [32] ++ c.FType)]; rfl
  rw [a1, Option.bind_some]
  generalize hX : w ++ [32] ++ c.FType ++ pF c.FField = X
  have lX : X.length ≤ 5000000 := by rw [← hX]; simp only [List.length_append, List.length_singleton]; omega
  have a2 : (bif (!(c.FArg == ([] : Bs))) then ((catC X ([40] : Bs)).bind fun x23 => (catC x23 c.FArg).bind fun x24 => (catC x24 ([41] : Bs)).bind fun x25 => some x25) else (some X)) = some (X ++ pA c.FArg) := by
   unfold pA
   cases !(c.FArg == [])
   ·simp
   ·rw [cond_true, cond_true, cc (by omega) (by simp), Option.bind_some, cc (by simp; omega) (by omega), Option.bind_some, cc (by simp; omega) (by simp), Option.bind_some]; simp only [List.append_assoc]
  rw [a2, Option.bind_some]
  generalize hY : X ++ pA c.FArg = Y
  have lY : Y.length ≤ 8000000 := by rw [← hY]; simp only [List.length_append]; omega
  have a3 : (bif ((!(c.FFrom == ([] : Bs))) || (!(c.FTo == ([] : Bs)))) then ((catC Y ([58, 32] : Bs)).bind fun x15 => Ab.on (Z27_q c.FFrom) fun x16 => (catC x15 x16).bind fun x17 => (catC x17 ([32, 45, 62, 32] : Bs)).bind fun x18 => Ab.on (Z27_q c.FTo) fun x19 => (catC x18 x19).bind fun x20 => some x20) else (some Y)) = some (Y ++ pT c.FFrom c.FTo) := by
   unfold pT
   simp only [Ab.on, some_is]
   cases (!(c.FFrom == [])) || (!(c.FTo == []))
   ·simp
   ·rw [cond_true, cond_true, cc (by omega) (by simp), Option.bind_some, cc (by simp; omega) (by omega), Option.bind_some, cc (by simp; omega) (by simp), Option.bind_some, cc (by simp; omega) (by omega), Option.bind_some]; simp only [List.append_assoc]
  rw [a3, Option.bind_some]
  unfold txt
  rw [hX, hY]
end Go.Proofs

namespace Go.Proofs
open Go Go.Ab
def i64s (l : List Int) : Prop := ∀ n ∈ l, -9223372036854775808 ≤ n ∧ n ≤ 9223372036854775807
def itos (l : List Int) : List Bs := l.map Lib.itoa
theorem itos_len {l : List Int} (h : i64s l) : (Lib.joinTail [44, 32] (itos l)).length ≤ 24 * l.length := by
 induction l with
 | nil => simp [itos, Lib.joinTail]
 | cons a r ih =>
  have h1 := itoaLen (h a (.head _)).1 (h a (.head _)).2
  have h2 := ih fun n hn => h n (.tail _ hn)
  simp only [itos, Lib.joinTail, List.map_cons, List.flatten_cons, List.length_append, List.length_cons, List.length_nil] at h2 ⊢
  omega
theorem join_len {l : List Int} (h : i64s l) : (Lib.join (itos l) [44, 32]).length ≤ 24 * l.length := by
 cases l with
 | nil => simp [itos, Lib.join_nil]
 | cons a r =>
  have h1 := itoaLen (h a (.head _)).1 (h a (.head _)).2
  have h2 := itos_len (l := r) fun n hn => h n (.tail _ hn)
  rw [show itos (a :: r) = Lib.itoa a :: itos r from rfl, Lib.join_cons]
  simp only [List.length_append, List.length_cons]; omega
theorem breaks_is : ∀ (l : List Int) (s : Sl Bs), i64s l → s.l.length + l.length ≤ 2097152 → ∃ nl, Z17_q19 l s = some ⟨nl, s.l ++ itos l⟩
 | [], s, _, _ => ⟨s.nl, by rw [Z17_q19]; simp [itos]⟩
 | a :: r, s, h, hl => by
  simp only [List.length_cons] at hl
  have e : Z40_q a = some (Lib.itoa a) := by
   have := textDecimal_eq (h a (.head _)).1 (h a (.head _)).2
   unfold Z45_q at this
   obtain ⟨x, e, h⟩ := bindO_some this
   cases h; exact e
  rw [Z17_q19]
  simp only [Ab.on, e, Option.bind_some]
  rw [appC_ok (by decide) (by simp; omega), Option.bind_some]
  obtain ⟨nl, e2⟩ := breaks_is r ⟨s.nl && List.isEmpty [Lib.itoa a], s.l ++ [Lib.itoa a]⟩ (fun n hn => h n (.tail _ hn)) (by simp; omega)
  exact ⟨nl, by rw [e2]; simp [itos]⟩
theorem rbreaks_is : ∀ (l : List Int) (i : Nat) (s : Bs), i64s l → s.length + 24 * l.length ≤ 900000000 → 0 < i → Z28_q16 l i s = some (s ++ Lib.joinTail [44, 32] (itos l))
 | [], i, s, _, _, _ => by rw [Z28_q16]; simp [itos, Lib.joinTail]
 | a :: r, i, s, h, hl, hi => by
  simp only [List.length_cons] at hl
  have h1 := itoaLen (h a (.head _)).1 (h a (.head _)).2
  rw [Z28_q16]
  simp only [Ab.on]
  rw [show decide ((0 : Int) < ((i : Nat) : Int)) = true from decide_eq_true (by omega), cond_true, cc (by omega) (by simp), Option.bind_some, Option.bind_some, decimal_eq (h a (.head _)).1 (h a (.head _)).2, Option.bind_some, cc (by simp; omega) (by omega), Option.bind_some]
  rw [rbreaks_is r (i + 1) _ (fun n hn => h n (.tail _ hn)) (by simp; omega) (by omega)]
  simp [itos, Lib.joinTail]
theorem rbreaks0 (l : List Int) (h : i64s l) (s : Bs) (hl : s.length + 24 * l.length ≤ 900000000) : Z28_q16 l 0 s = some (s ++ Lib.join (itos l) [44, 32]) := by
 cases l with
 | nil => rw [Z28_q16]; simp [itos, Lib.join_nil]
 | cons a r =>
  simp only [List.length_cons] at hl
  have h1 := itoaLen (h a (.head _)).1 (h a (.head _)).2
  rw [Z28_q16]
  simp only [Ab.on]
  rw [show decide ((0 : Int) < ((0 : Nat) : Int)) = false from rfl, cond_false, Option.bind_some, decimal_eq (h a (.head _)).1 (h a (.head _)).2, Option.bind_some, cc (by omega) (by omega), Option.bind_some]
  rw [rbreaks_is r 1 _ (fun n hn => h n (.tail _ hn)) (by simp; omega) (by omega)]
  rw [show itos (a :: r) = Lib.itoa a :: itos r from rfl, Lib.join_cons, List.append_assoc]
structure VdOk (v : TVerdict) : Prop where
 c : ChOk v.FChange
 b : i64s v.FBreaks.l
 n : v.FBreaks.l.length ≤ 1048576
theorem explain_is {v : TVerdict} (h : VdOk v) : ∃ s, Z17_q v = some s ∧ Z28_q v = some s := by
 obtain ⟨s, e1, e2, hs⟩ := text_is h.c
 have hj := join_len h.b; have hn := h.n
 unfold Z17_q Z28_q
 rw [e1, e2]
 cases v.FSafe
 ·rw [cond_false, cond_false]
  obtain ⟨nl, e3⟩ := breaks_is v.FBreaks.l Sl.nil h.b (by simp [Sl.nil]; omega)
  rw [e3, Option.bind_some]
  simp only [Ab.on]
  have e4 : Z44_q ⟨nl, (Sl.nil : Sl Bs).l ++ itos v.FBreaks.l⟩ ([44, 32] : Bs) = some (Lib.join (itos v.FBreaks.l) [44, 32]) := by
   unfold Z44_q Z44 joinA
   rw [if_pos]
   ·rfl
   ·refine ⟨?_, ?_⟩
    ·show ([] ++ itos v.FBreaks.l : List Bs).length ≤ maxN
     simp only [List.nil_append, itos, List.length_map]; unfold maxN; omega
    ·show (Lib.join (itos v.FBreaks.l) [44, 32]).length ≤ maxN
     unfold maxN; omega
  rw [e4, Option.bind_some, cc (by simp) (by omega), Option.bind_some, cc (by simp; omega) (by simp), Option.bind_some, Option.bind_some, cc (by simp; omega) (by omega), Option.bind_some]
  rw [rbreaks0 _ h.b _ (by simp; omega), Option.bind_some, cc (by simp; omega) (by simp), Option.bind_some, Option.bind_some, cc (by simp; omega) (by omega), Option.bind_some]
  exact ⟨_, rfl, rfl⟩
 ·rw [cond_true, cond_true, Option.bind_some, cc (by simp) (by omega)]
  exact ⟨_, rfl, rfl⟩
theorem safe_is (l : Sl TVerdict) : Z18_q l = Z29_q l := by
 have : ∀ m : List TVerdict, Z18_q6 m = Z29_q5 m := fun m => by
  induction m with
  | nil => rfl
  | cons a r ih => rw [Z18_q6, Z29_q5, ih]
 unfold Z18_q Z29_q
 rw [this]
theorem explains_is : ∀ l : List TVerdict, (∀ v ∈ l, VdOk v) → Z21_q8 l = some (Sum.inl ())
 | [], _ => rfl
 | v :: r, h => by
  obtain ⟨s, e1, e2⟩ := explain_is (h v (.head _))
  rw [Z21_q8]
  simp only [Ab.on, e1, e2, Option.bind_some]
  rw [show (s == s) = true from by simp]
  exact explains_is r fun x hx => h x (.tail _ hx)
set_option maxRecDepth 100000 in
theorem awake50 : Z22 = some true := by kernel_rfl
theorem vd_ok {v : TVerdict} (hs : v.sz ≤ 1048576) (hw : v.wf) : VdOk v := by
 have h1 := v.sz_def
 have h2 := v.FChange.sz_def
 have h3 := Sl.len_lt (f := fun _ : Int => 1) v.FBreaks (fun _ => Nat.le_refl 1)
 have hb : ∀ s : Bs, Bs.sz s = s.length + 1 := fun _ => rfl
 rw [hb, hb, hb, hb, hb] at h2
 have hk := TChange.FKind_wf (TVerdict.FChange_wf hw)
 refine ⟨⟨by omega, by omega, by omega, by omega, by omega, hk.1, hk.2⟩, fun n hn => (TVerdict.FBreaks_wf hw).2.2 n hn, by omega⟩
theorem evolveSafe_q (l : Sl TVerdict) (hs : Sl.sz TVerdict.sz l ≤ 1048576) (hw : Sl.wf TVerdict.wf l) : Z21_q l = some true := by
 have hv : ∀ v ∈ l.l, VdOk v := fun v hv => vd_ok (by have := Sl.mem_le (f := TVerdict.sz) hv; omega) (hw.2.2 v hv)
 unfold Z21_q
 rw [explains_is l.l hv, Option.bind_some]
 simp only [Ab.on, safe_is]
 rw [show (Z29_q l == Z29_q l) = true from by simp, awake50]
 rfl
theorem evolveSafe_true (l : Sl TVerdict) (hs : Sl.sz TVerdict.sz l ≤ 1048576) (hw : Sl.wf TVerdict.wf l) : Z21 l = some true := by
 rw [Z21_eq]; exact evolveSafe_q l hs hw
end Go.Proofs

namespace Go.Proofs.YtfmbgiahleepfaeGreatDoor
open Go Go.Ab Go.RowKit Go.ChangeShapes Go.WideShapes Go.ChangeAt
variable {lou : Lou}
theorem bulkAll {H : Type} (l : List (DataW H)) : Rows.uptoBulkAll l = (l.map Rows.uptoBulk).sum := by
 induction l with
 | nil => rfl
 | cons x r ih => simp only [Rows.uptoBulkAll, List.map_cons, List.sum_cons, ih]
theorem bulkB {H : Type} : Bulk (H := H) Rows.uptoBulk := by
 refine ⟨fun d => ?_, fun b => by simp [Rows.uptoBulk], fun e s => by simp only [Rows.uptoBulk, bulkAll]; omega, fun l => by simp only [Rows.uptoBulk, bulkAll]; omega⟩
 cases d with
 | lit l => cases l <;> simp [Rows.uptoBulk]
 | nil => simp [Rows.uptoBulk]
 | ptr d => simp [Rows.uptoBulk]
 | slice elems spare => simp [Rows.uptoBulk]
 | agg parts => simp [Rows.uptoBulk]
 | iface t d => simp [Rows.uptoBulk]
 | map entries => simp [Rows.uptoBulk]
 | held h => simp [Rows.uptoBulk]
theorem own : ownKnob Tryz.prog.godebug = none := by kernel_rfl
theorem laid : laidOutB Tryz.prog = true := by kernel_rfl
theorem bound {H : Type} {l : List (DataW H)} (hk : Rows.uptoSmall H l = true) : Rows.uptoBulkAll l ≤ 1048576 := of_decide_eq_true hk
theorem table {W : World} (h : laidMet Tryz.prog Rows.evolveSafeExactUptoRow.laid W) : ∃ u fr, W.heap[0]? = some (.cells (Lib.pow10Tab.map fun z => Value.int .u64 z).toArray u fr) :=
 tab_of (P := Tryz.prog) (name := "internal/strconv.uint64pow10") (g := 0) (t := 153) (e := 116) (n := 20) (by kernel_rfl) (by kernel_rfl) (by kernel_rfl) (by kernel_rfl) (by kernel_rfl) (by kernel_rfl) h
  (by rw [show (Lib.tabData .u64 Lib.pow10Tab : DataW Unit) = Rows.laid_internal_strconv_uint64pow10 from (by kernel_rfl)]; exact .tail _ (.tail _ (.head _)))
theorem isTab (u : TypeId) (fr : Nat × Nat) : IsTab Tryz.prog (.fix 0 (.cells (Lib.pow10Tab.map fun z => Value.int .u64 z).toArray u fr)) := .of (by kernel_rfl)
theorem evolveSafe_call [IsLoud lou] (a : Sl TVerdict) (hs : Sl.sz TVerdict.sz a ≤ 1048576) (hw : Sl.wf TVerdict.wf a) (u : TypeId) (fr : Nat × Nat) : ACalls Tryz.prog 3 [.d (Sl.d 8 TVerdict.c none a)] (hTab 0 (.cells (Lib.pow10Tab.map fun z => Value.int .u64 z).toArray u fr)) fun r h' => r = .a (.d (.bool true)) ∧ h' = hTab 0 (.cells (Lib.pow10Tab.map fun z => Value.int .u64 z).toArray u fr) :=
 Z21_walk (evolveSafe_true a hs hw) _ (gT := 0) rfl (isTab u fr)
end Go.Proofs.YtfmbgiahleepfaeGreatDoor

