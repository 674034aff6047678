import Derived.Test.YtidaliegaojliaaGreatDoorV2
import Derived.Test.YtidaliegaojliaaGreatDoorRows
set_option maxRecDepth 100000
set_option maxHeartbeats 2000000
set_option linter.unusedVariables false
set_option linter.unusedSimpArgs false
namespace Go.Proofs
open Go Go.Ab
open AOps Cert AWp
def Z31_j2   : Option Int := some (-1 : Int)
def Z31_l6 (a0 : (Sl TMember)) (a1 : (TMember → Option Bool))  : Nat → Nat → Option Int
 | 0, _ => none
 | n6 + 1, s8_7 => bif (decide (((s8_7 : Nat) : Int) < ((a0.l.length : Nat) : Int))) then ((a0.l[s8_7]?).bind fun x14 => (a1 x14).bind fun x15 => bif x15 then (some ((s8_7 : Nat) : Int)) else ((Z31_l6 a0 a1 n6) (s8_7 + 1))) else (Z31_j2   )
def Z31 (a0 : (Sl TMember)) (a1 : (TMember → Option Bool)) : Option Int := Z31_l6 a0 a1 (a0.l.length + 1) 0
theorem Z31_walk {a0 : (Sl TMember)} {a1 : (TMember → Option Bool)} {w0 : Option Nat} {cl1 : List D} {k1 : Nat} {r : Int} (hE : Z31 a0 a1 = some r) (H : Heap) (hf1 : ∀ x0 r, a1 x0 = some r → ∀ H, ACalls Tryz.prog k1 ([.agg (TMember.c x0)] ++ cl1.map A.d) H fun v h' => v = .a (.d (.bool r)) ∧ h' = H) : ACalls Tryz.prog 106 [.d (Sl.d 2 TMember.c w0 a0), .d (.func k1 cl1)] H fun v h' => v = .a (.d (.int .i64 r)) ∧ h' = H := by
 unfold Z31 at hE
 refine ACalls.of_wp (fn := Tryz.f106) (c := _) Tryz.tab_ok (fun _ _ => Tryz.call106 _ _) Tryz.func106 rfl (n := 19) rfl (rs := [.tmp 4]) rfl rfl ?_
 refine seqK fun K1 hK1 => ?_
 refine region ?_
 refine s0 assignA rfl ?_
 refine nil ?_
 refine hK1 _ ?_
 clear hK1 K1
 refine seqJH KeepsT.nil (fun (z : Unit) => []) (fun z => H) (fun z => Z31_j2  = some r) ?_ ?_
 ·intro K2 hK2
  refine seqK fun K4 hK4 => ?_
  refine region ?_
  refine s0 moveA rfl ?_
  refine sLen (f := TMember.c) (s := a0) (TK rfl) rfl rfl rfl rfl fun hL5 => ?_
  refine s0 moveA rfl ?_
  refine nil ?_
  refine hK4 _ ?_
  clear hK4 K4
  refine block ?_
  refine loopH (KeepsT.A (k := 0) (KeepsT.A (k := 1) (KeepsT.A (k := 7) KeepsT.nil))) (fun (z : Nat × Nat) => [(8, .a (.d (.int .i64 ((z.2 : Nat) : Int))))]) (fun z => H) (fun z => z.1) (fun z => Z31_l6 a0 a1 z.1 z.2 = some r) ((a0.l.length + 1), 0) hE Weak.toA ?_
  rintro ⟨n6, s8_7⟩ hE K6 hK6
  try dsimp only at hE
  cases n6 with
  | zero => cases hE
  | succ n6 =>
    rw [Z31_l6] at hE
    refine seqK fun K8 hK8 => ?_
    refine region ?_
    refine s0 (binI rfl rfl rfl) rfl ?_
    refine nil ?_
    refine hK8 _ ?_
    clear hK8 K8
    refine seqK fun K9 hK9 => ?_
    refine condE hE rfl (fun hc10 hE => ?_) (fun hc10 hE => ?_)
    ·try dsimp only at hc10
     have hf10 := of_decide_eq_true hc10
     refine AWp.skip ?_
     refine hK9 _ ?_
     clear hK9 K9
     refine seqK fun K11 hK11 => ?_
     refine block ?_
     refine seqK fun K12 hK12 => ?_
     refine region ?_
     refine s0 moveA rfl ?_
     refine s0 assignA rfl ?_
     refine nil ?_
     refine hK12 _ ?_
     clear hK12 K12
     refine seqK fun K13 hK13 => ?_
     refine region ?_
     refine s0 moveA rfl ?_
     refine s0 moveA rfl ?_
     refine s0 moveA rfl ?_
     obtain ⟨x14, gx14, hE⟩ := bindO_some hE
     refine s0 (idxMn (f := TMember.c) (n := s8_7) (TK rfl) rfl (TK rfl) rfl rfl rfl gx14) rfl ?_
     refine s0 (loadV (TK rfl) rfl rfl rfl) rfl ?_
     obtain ⟨x15, gx15, hE⟩ := bindO_some hE
     refine s0 (callP rfl rfl (hf1 _ _ gx15)) rfl ?_
     refine nil ?_
     refine hK13 _ ?_
     clear hK13 K13
     refine condE hE rfl (fun hc16 hE => ?_) (fun hc16 hE => ?_)
     ·refine seqK fun K17 hK17 => ?_
      refine region ?_
      refine s0 moveA rfl ?_
      refine s0 assignA rfl ?_
      refine nil ?_
      refine hK17 _ ?_
      clear hK17 K17
      refine AWp.ret ?_
      repeat (first | refine xBlock_ret ?_ | refine xThen_ret ?_)
      obtain rfl := Option.some.inj hE
      refine retQ.retF H rfl ⟨rfl, rfl⟩ ?_
      exact (fun _ _ h => h)
     refine AWp.skip ?_
     refine hK11 _ ?_
     clear hK11 K11
     refine region ?_
     refine s0 (addIA rfl rfl) rfl ?_
     refine s0 moveA rfl ?_
     refine nil ?_
     exact hK6 _ (n6, (s8_7 + 1)) Weak.toA hE (Nat.lt_succ_self _)
    refine AWp.exit ?_
    exact hK2 _ () Weak.toA hE
 rintro _ hE
 try dsimp only at hE
 unfold Z31_j2 at hE
 refine seqK fun K3 hK3 => ?_
 refine region ?_
 refine s0 assignA rfl ?_
 refine nil ?_
 refine hK3 _ ?_
 clear hK3 K3
 refine AWp.ret ?_
 repeat (first | refine xBlock_ret ?_ | refine xThen_ret ?_)
 obtain rfl := Option.some.inj hE
 refine retQ.retF H rfl ⟨rfl, rfl⟩ ?_
 exact (fun _ _ h => h)
def Z29 (a0 : (Sl TMember)) (a1 : (TMember → Option Bool)) : Option Bool := (Z31 a0 a1).bind fun x3 => some (decide ((0 : Int) ≤ x3))
theorem Z29_walk {a0 : (Sl TMember)} {a1 : (TMember → Option Bool)} {w0 : Option Nat} {cl1 : List D} {k1 : Nat} {r : Bool} (hE : Z29 a0 a1 = some r) (H : Heap) (hf1 : ∀ x0 r, a1 x0 = some r → ∀ H, ACalls Tryz.prog k1 ([.agg (TMember.c x0)] ++ cl1.map A.d) H fun v h' => v = .a (.d (.bool r)) ∧ h' = H) : ACalls Tryz.prog 66 [.d (Sl.d 2 TMember.c w0 a0), .d (.func k1 cl1)] H fun v h' => v = .a (.d (.bool r)) ∧ h' = H := by
 unfold Z29 at hE
 refine ACalls.of_wp (fn := Tryz.f66) (c := _) Tryz.tab_ok (fun _ _ => Tryz.call66 _ _) Tryz.func66 rfl (n := 9) rfl (rs := [.tmp 4]) rfl rfl ?_
 refine seqK fun K1 hK1 => ?_
 refine region ?_
 refine s0 assignA rfl ?_
 refine nil ?_
 refine hK1 _ ?_
 clear hK1 K1
 refine seqK fun K2 hK2 => ?_
 refine region ?_
 refine s0 moveA rfl ?_
 refine s0 moveA rfl ?_
 obtain ⟨x3, gx3, hE⟩ := bindO_some hE
 refine s0 (callP rfl rfl (fun H => Z31_walk gx3 H hf1)) rfl ?_
 refine s0 (binI rfl rfl rfl) rfl ?_
 refine s0 assignA rfl ?_
 refine nil ?_
 refine hK2 _ ?_
 clear hK2 K2
 refine AWp.ret ?_
 repeat (first | refine xBlock_ret ?_ | refine xThen_ret ?_)
 obtain rfl := Option.some.inj hE
 refine retQ.retF H rfl ⟨rfl, rfl⟩ ?_
 exact (fun _ _ h => h)
def Z1 (a0 : TMember) (a1 : TMember) : Option Bool := some ((a0.FName == a1.FName))
theorem Z1_walk {a0 : TMember} {a1 : TMember}   {r : Bool} (hE : Z1 a0 a1 = some r) (H : Heap)  : ACalls Tryz.prog 67 [.agg (TMember.c a0), .d (.view (TMember.c a1))] H fun v h' => v = .a (.d (.bool r)) ∧ h' = H := by
 unfold Z1 at hE
 refine ACalls.of_wp (fn := Tryz.f67) (c := _) Tryz.tab_ok (fun _ _ => Tryz.call67 _ _) Tryz.func67 rfl (n := 9) rfl (rs := [.tmp 3]) rfl rfl ?_
 refine seqK fun K1 hK1 => ?_
 refine region ?_
 refine s0 (boxV rfl) rfl ?_
 refine s0 assignA rfl ?_
 refine nil ?_
 refine hK1 _ ?_
 clear hK1 K1
 refine seqK fun K2 hK2 => ?_
 refine region ?_
 refine s0 (fieldVA (TK rfl) rfl rfl (TK rfl) rfl rfl) rfl ?_
 refine s0 (loadV (TK rfl) rfl rfl rfl) rfl ?_
 refine s0 (fieldVA (TK rfl) rfl rfl (TK rfl) rfl rfl) rfl ?_
 refine s0 (loadV (TK rfl) rfl rfl rfl) rfl ?_
 refine s0 (binS rfl rfl rfl) rfl ?_
 refine s0 assignA rfl ?_
 refine nil ?_
 refine hK2 _ ?_
 clear hK2 K2
 refine AWp.ret ?_
 repeat (first | refine xBlock_ret ?_ | refine xThen_ret ?_)
 obtain rfl := Option.some.inj hE
 refine retQ.retF H rfl ⟨rfl, rfl⟩ ?_
 exact (fun _ _ h => h)
def Z0_j5  (y6_id11_3 : Abstract_faces) : Option (Sl TFault) := (nilC y6_id11_3.Fout).bind fun zn_ => some zn_
def Z0_j16 (s15_11 : Nat) (k_next_10 : Nat → Abstract_faces → Option (Sl TFault)) (y17_id11_3 : Abstract_faces) : Option (Sl TFault) := k_next_10 (s15_11 + 1) y17_id11_3
def Z0_j34 (s31_29 : Nat) (k_next_28 : Nat → Abstract_faces → Option (Sl TFault)) (y35_id11_3 : Abstract_faces) : Option (Sl TFault) := k_next_28 (s31_29 + 1) y35_id11_3
def Z0_j40 (x19 : TDef) (s31_29 : Nat) (y30_id11_3 : Abstract_faces) (x37 : TMember) (k_next_28 : Nat → Abstract_faces → Option (Sl TFault)) (s8_41 : Int) : Option (Sl TFault) := bif (!decide (s8_41 = (0 : Int))) then ((catC x19.FName ([46] : Bs)).bind fun x44 => (catC x44 x37.FName).bind fun x45 => (Z2 y30_id11_3 s8_41 x45).bind fun x46 => Z0_j34 s31_29 k_next_28 x46) else (Z0_j34 s31_29 k_next_28 y30_id11_3)
def Z0_l28 (s15_11 : Nat) (x19 : TDef) (k_next_10 : Nat → Abstract_faces → Option (Sl TFault)) : Nat → Nat → Abstract_faces → Option (Sl TFault)
 | 0, _, _ => none
 | n28 + 1, s31_29, y30_id11_3 => bif (decide (((s31_29 : Nat) : Int) < ((x19.FMembers.l.length : Nat) : Int))) then ((x19.FMembers.l[s31_29]?).bind fun x37 => (Z4 y30_id11_3 x37.FName (1 : Int)).bind fun x39 => guardO ((decide (x39 = (0 : Int)))) (partC x19.FMembers none (some ((s31_29 : Nat) : Int))) (Sl.nil : Sl TMember) fun x48 => guardO ((decide (x39 = (0 : Int)))) (Z29 x48 (fun y0 => Z1 y0 x37)) false fun x49 => bif ((decide (x39 = (0 : Int))) && x49) then (Z0_j40 x19 s31_29 y30_id11_3 x37 ((Z0_l28 s15_11 x19 k_next_10 n28)) (7 : Int)) else (Z0_j40 x19 s31_29 y30_id11_3 x37 ((Z0_l28 s15_11 x19 k_next_10 n28)) x39)) else (Z0_j16 s15_11 k_next_10 y30_id11_3)
def Z0_l10 (a0 : TDoc)  : Nat → Nat → Abstract_faces → Option (Sl TFault)
 | 0, _, _ => none
 | n10 + 1, s15_11, y12_id11_3 => bif (decide (((s15_11 : Nat) : Int) < ((a0.FDefs.l.length : Nat) : Int))) then ((a0.FDefs.l[s15_11]?).bind fun x19 => bif (decide (x19.FKind = (1 : Int))) then ((Z5 y12_id11_3 x19).bind fun x23 => Z0_j16 s15_11 ((Z0_l10 a0 n10)) x23) else (bif (decide (x19.FKind = (3 : Int))) then (Z0_l28 s15_11 x19 ((Z0_l10 a0 n10)) (x19.FMembers.l.length + 1) 0 y12_id11_3) else (Z0_j16 s15_11 ((Z0_l10 a0 n10)) y12_id11_3))) else (Z0_j5   y12_id11_3)
def Z0 (a0 : TDoc) : Option (Sl TFault) := Z0_l10 a0 (a0.FDefs.l.length + 1) 0 (Abstract_faces.mk a0 (Sl.nil : Sl TFault))
theorem Z0_tok {a0 : TDoc}   {r : (Sl TFault)} (hE : Z0 a0 = some r) (H : Heap) {tk0 : Nat} (htk0 : H tk0 = some (.tok 2 0)) : ACalls Tryz.prog 34 [.agg (TDoc.c a0)] H fun v h' => v = .a (.d (Sl.d 2 TFault.c (some tk0) r)) ∧ h' = H.set tk0 (some (.tok 2 r.l.length)) := by
 unfold Z0 at hE
 refine ACalls.of_wp (fn := Tryz.f34) (c := _) Tryz.tab_ok (fun _ _ => Tryz.call34 _ _) Tryz.func34 rfl (n := 67) rfl (rs := [.tmp 2]) rfl rfl ?_
 refine AWp.heqA (h' := (H.set tk0 (some (.tok 2 0)))) (by funext n_; simp only [Heap.set]; (repeat' split) <;> simp_all) ?_
 refine seqK fun K1 hK1 => ?_
 refine region ?_
 refine s0 (boxV rfl) rfl ?_
 refine s0 (assignNil (k' := 2) rfl) rfl ?_
 refine nil ?_
 refine hK1 _ ?_
 clear hK1 K1
 refine seqK fun K2 hK2 => ?_
 refine region ?_
 refine s0 (loadV (TK rfl) rfl rfl rfl) rfl ?_
 refine s0 (build Tryz.tab_ok rfl rfl rfl rfl rfl rfl) rfl ?_
 refine AOps.tok 2 fun tk11_4 htk11_4 => ?_
 obtain ⟨ne_tk11_4_tk0, htk11_4⟩ := Heap.set_fresh htk11_4
 refine sE (StepE.boxO rfl) rfl (fun _ _ _ ⟨id11_3, hid11_3, e1, e2, e3⟩ => ?_); subst e1 e2 e3
 obtain ⟨ne_id11_3_tk11_4, hid11_3⟩ := Heap.set_fresh hid11_3
 obtain ⟨ne_id11_3_tk0, hid11_3⟩ := Heap.set_fresh hid11_3
 refine AOps.recell id11_3 _ hpG (fun j w cs hh hx => tok_cell 1 2 2 hh (t := tk11_4) hpG hx rfl) ?_
 refine AOps.heq (h' := (((H.set tk0 (some (.tok 2 0))).set tk11_4 (some (.tok 2 0))).set id11_3 (some (.cells (Abstract_faces.cg (some tk11_4) (Abstract_faces.mk a0 (Sl.nil : Sl TFault))))))) (by first | rfl | (rw [Heap.set_set]; rfl) | (funext n_; simp only [Heap.set]; (repeat' split) <;> first | rfl | (exfalso; simp_all; done) | (simp_all; done))) ?_
 refine s0 assignA rfl ?_
 refine nil ?_
 refine hK2 _ ?_
 clear hK2 K2
 refine seqJH (KeepsT.A (k := 3) KeepsT.nil) (fun (z : Abstract_faces) => []) (fun z => (((H.set tk0 (some (.tok 2 0))).set tk11_4 (some (.tok 2 z.Fout.l.length))).set id11_3 (some (.cells (Abstract_faces.cg (some tk11_4) z))))) (fun z => Z0_j5 z = some r) ?_ ?_
 ·intro K5 hK5
  refine seqK fun K8 hK8 => ?_
  refine region ?_
  refine s0 (fieldVA (TK rfl) rfl rfl (TK rfl) rfl rfl) rfl ?_
  refine s0 (loadV (TK rfl) rfl rfl rfl) rfl ?_
  refine sLen (f := TDef.c) (s := a0.FDefs) (TK rfl) rfl rfl rfl rfl fun hL9 => ?_
  refine s0 moveA rfl ?_
  refine nil ?_
  refine hK8 _ ?_
  clear hK8 K8
  refine block ?_
  refine loopH (KeepsT.A (k := 3) (KeepsT.A (k := 13) (KeepsT.A (k := 14) KeepsT.nil))) (fun (z : Nat × Nat × Abstract_faces) => [(15, .a (.d (.int .i64 ((z.2.1 : Nat) : Int))))]) (fun z => (((H.set tk0 (some (.tok 2 0))).set tk11_4 (some (.tok 2 z.2.2.Fout.l.length))).set id11_3 (some (.cells (Abstract_faces.cg (some tk11_4) z.2.2))))) (fun z => z.1) (fun z => Z0_l10 a0 z.1 z.2.1 z.2.2 = some r) ((a0.FDefs.l.length + 1), 0, (Abstract_faces.mk a0 (Sl.nil : Sl TFault))) hE Weak.toA ?_
  rintro ⟨n10, s15_11, y12_id11_3⟩ hE K10 hK10
  try dsimp only at hE
  cases n10 with
  | zero => cases hE
  | succ n10 =>
    rw [Z0_l10] at hE
    refine seqK fun K13 hK13 => ?_
    refine region ?_
    refine s0 (binI rfl rfl rfl) rfl ?_
    refine nil ?_
    refine hK13 _ ?_
    clear hK13 K13
    refine seqK fun K14 hK14 => ?_
    refine condE hE rfl (fun hc15 hE => ?_) (fun hc15 hE => ?_)
    ·try dsimp only at hc15
     have hf15 := of_decide_eq_true hc15
     refine AWp.skip ?_
     refine hK14 _ ?_
     clear hK14 K14
     refine seqJH (KeepsT.A (k := 3) (KeepsT.A (k := 13) (KeepsT.A (k := 14) (KeepsT.A (k := 15) KeepsT.nil)))) (fun (z : Abstract_faces) => []) (fun z => (((H.set tk0 (some (.tok 2 0))).set tk11_4 (some (.tok 2 z.Fout.l.length))).set id11_3 (some (.cells (Abstract_faces.cg (some tk11_4) z))))) (fun z => Z0_j16 s15_11 ((Z0_l10 a0 n10)) z = some r) ?_ ?_
     ·intro K16 hK16
      refine block ?_
      refine seqK fun K18 hK18 => ?_
      refine region ?_
      obtain ⟨x19, gx19, hE⟩ := bindO_some hE
      refine s0 (idxMn (f := TDef.c) (n := s15_11) (TK rfl) rfl (TK rfl) rfl rfl rfl gx19) rfl ?_
      refine s0 (loadV (TK rfl) rfl rfl rfl) rfl ?_
      refine sL (allocLA (TK rfl) rfl) rfl ?_
      refine sLn (storeLFA (TK rfl) rfl rfl rfl rfl rfl) ?_
      refine nil ?_
      refine hK18 _ ?_
      clear hK18 K18
      refine freezeA 5 _ rfl (Keeps.c (k := 3) (by conv => lhs; whnf) (by rfl) (Keeps.c (k := 13) (by conv => lhs; whnf) (by rfl) (Keeps.c (k := 14) (by conv => lhs; whnf) (by rfl) (Keeps.c (k := 15) (by conv => lhs; whnf) (by rfl) Keeps.nil)))) ?_
      refine seqK fun K20 hK20 => ?_
      refine region ?_
      refine s0 (fieldVA (TK rfl) rfl rfl (TK rfl) rfl rfl) rfl ?_
      refine s0 (loadV (TK rfl) rfl rfl rfl) rfl ?_
      refine nil ?_
      refine hK20 _ ?_
      clear hK20 K20
      refine block ?_
      refine seqK fun K21 hK21 => ?_
      refine region ?_
      refine s0 (binI rfl rfl rfl) rfl ?_
      refine s0 assignA rfl ?_
      refine nil ?_
      refine hK21 _ ?_
      clear hK21 K21
      refine condE hE rfl (fun hc22 hE => ?_) (fun hc22 hE => ?_)
      ·refine region ?_
       refine s0 moveA rfl ?_
       refine s0 (loadV (TK rfl) rfl rfl rfl) rfl ?_
       obtain ⟨x23, gx23, hE⟩ := bindO_some hE
       refine sH (callH rfl rfl (Z5_walk gx23 _ hpG hpG)) rfl ?_
       refine AOps.heq (h' := (((H.set tk0 (some (.tok 2 0))).set tk11_4 (some (.tok 2 x23.Fout.l.length))).set id11_3 (some (.cells (Abstract_faces.cg (some tk11_4) x23))))) (by first | rfl | (rw [Heap.set_set]; rfl) | (funext n_; simp only [Heap.set]; (repeat' split) <;> first | rfl | (exfalso; simp_all; done) | (simp_all; done))) ?_
       refine nil ?_
       exact hK16 _ x23 Weak.toA hE
      refine seqK fun K24 hK24 => ?_
      refine region ?_
      refine s0 (binI rfl rfl rfl) rfl ?_
      refine s0 assignA rfl ?_
      refine nil ?_
      refine hK24 _ ?_
      clear hK24 K24
      refine condE hE rfl (fun hc25 hE => ?_) (fun hc25 hE => ?_)
      ·refine seqK fun K26 hK26 => ?_
       refine region ?_
       refine s0 (fieldVA (TK rfl) rfl rfl (TK rfl) rfl rfl) rfl ?_
       refine s0 (loadV (TK rfl) rfl rfl rfl) rfl ?_
       refine sLen (f := TMember.c) (s := x19.FMembers) (TK rfl) rfl rfl rfl rfl fun hL27 => ?_
       refine s0 moveA rfl ?_
       refine nil ?_
       refine hK26 _ ?_
       clear hK26 K26
       refine block ?_
       refine loopH (KeepsT.A (k := 3) (KeepsT.A (k := 5) (KeepsT.A (k := 13) (KeepsT.A (k := 14) (KeepsT.A (k := 15) (KeepsT.A (k := 29) (KeepsT.A (k := 30) KeepsT.nil))))))) (fun (z : Nat × Nat × Abstract_faces) => [(31, .a (.d (.int .i64 ((z.2.1 : Nat) : Int))))]) (fun z => (((H.set tk0 (some (.tok 2 0))).set tk11_4 (some (.tok 2 z.2.2.Fout.l.length))).set id11_3 (some (.cells (Abstract_faces.cg (some tk11_4) z.2.2))))) (fun z => z.1) (fun z => Z0_l28 s15_11 x19 ((Z0_l10 a0 n10)) z.1 z.2.1 z.2.2 = some r) ((x19.FMembers.l.length + 1), 0, y12_id11_3) hE Weak.toA ?_
       rintro ⟨n28, s31_29, y30_id11_3⟩ hE K28 hK28
       try dsimp only at hE
       cases n28 with
       | zero => cases hE
       | succ n28 =>
         rw [Z0_l28] at hE
         refine seqK fun K31 hK31 => ?_
         refine region ?_
         refine s0 (binI rfl rfl rfl) rfl ?_
         refine nil ?_
         refine hK31 _ ?_
         clear hK31 K31
         refine seqK fun K32 hK32 => ?_
         refine condE hE rfl (fun hc33 hE => ?_) (fun hc33 hE => ?_)
         ·try dsimp only at hc33
          have hf33 := of_decide_eq_true hc33
          refine AWp.skip ?_
          refine hK32 _ ?_
          clear hK32 K32
          refine seqJH (KeepsT.A (k := 3) (KeepsT.A (k := 5) (KeepsT.A (k := 13) (KeepsT.A (k := 14) (KeepsT.A (k := 15) (KeepsT.A (k := 29) (KeepsT.A (k := 30) (KeepsT.A (k := 31) KeepsT.nil)))))))) (fun (z : Abstract_faces) => []) (fun z => (((H.set tk0 (some (.tok 2 0))).set tk11_4 (some (.tok 2 z.Fout.l.length))).set id11_3 (some (.cells (Abstract_faces.cg (some tk11_4) z))))) (fun z => Z0_j34 s31_29 ((Z0_l28 s15_11 x19 ((Z0_l10 a0 n10)) n28)) z = some r) ?_ ?_
          ·intro K34 hK34
           refine block ?_
           refine seqK fun K36 hK36 => ?_
           refine region ?_
           refine s0 moveA rfl ?_
           obtain ⟨x37, gx37, hE⟩ := bindO_some hE
           refine s0 (idxMn (f := TMember.c) (n := s31_29) (TK rfl) rfl (TK rfl) rfl rfl rfl gx37) rfl ?_
           refine s0 (loadV (TK rfl) rfl rfl rfl) rfl ?_
           refine sL (allocLA (TK rfl) rfl) rfl ?_
           refine s0 assignA rfl ?_
           refine sLn (storeLFA (TK rfl) rfl rfl rfl rfl rfl) ?_
           refine nil ?_
           refine hK36 _ ?_
           clear hK36 K36
           refine freezeA 7 _ rfl (Keeps.c (k := 3) (by conv => lhs; whnf) (by rfl) (Keeps.c (k := 5) (by conv => lhs; whnf) (by rfl) (Keeps.c (k := 6) (by conv => lhs; whnf) (by rfl) (Keeps.c (k := 13) (by conv => lhs; whnf) (by rfl) (Keeps.c (k := 14) (by conv => lhs; whnf) (by rfl) (Keeps.c (k := 15) (by conv => lhs; whnf) (by rfl) (Keeps.c (k := 29) (by conv => lhs; whnf) (by rfl) (Keeps.c (k := 30) (by conv => lhs; whnf) (by rfl) (Keeps.c (k := 31) (by conv => lhs; whnf) (by rfl) Keeps.nil))))))))) ?_
           refine seqK fun K38 hK38 => ?_
           refine region ?_
           refine s0 moveA rfl ?_
           refine s0 (fieldVA (TK rfl) rfl rfl (TK rfl) rfl rfl) rfl ?_
           refine s0 (loadV (TK rfl) rfl rfl rfl) rfl ?_
           obtain ⟨x39, gx39, hE⟩ := bindO_some hE
           refine s0 (callR rfl rfl (Z4_walk gx39 _ hpG)) rfl ?_
           refine s0 assignA rfl ?_
           refine nil ?_
           refine hK38 _ ?_
           clear hK38 K38
           refine seqJH (KeepsT.A (k := 3) (KeepsT.A (k := 5) (KeepsT.A (k := 7) (KeepsT.A (k := 13) (KeepsT.A (k := 14) (KeepsT.A (k := 15) (KeepsT.A (k := 29) (KeepsT.A (k := 30) (KeepsT.A (k := 31) KeepsT.nil))))))))) (fun (z : Int) => [(8, .a (.d (.int .i64 z)))]) (fun z => (((H.set tk0 (some (.tok 2 0))).set tk11_4 (some (.tok 2 y30_id11_3.Fout.l.length))).set id11_3 (some (.cells (Abstract_faces.cg (some tk11_4) y30_id11_3))))) (fun z => Z0_j40 x19 s31_29 y30_id11_3 x37 ((Z0_l28 s15_11 x19 ((Z0_l10 a0 n10)) n28)) z = some r) ?_ ?_
           ·intro K40 hK40
            refine seqK fun K47 hK47 => ?_
            refine region ?_
            refine s0 moveA rfl ?_
            refine s0 (binI rfl rfl rfl) rfl ?_
            refine s0 moveA rfl ?_
            refine gC rfl rfl (fun hC => fieldVA (TK rfl) rfl rfl (TK rfl) rfl rfl) rfl ?_
            refine gC rfl rfl (fun hC => ungdA (k := 43) rfl (loadV (TK rfl) rfl rfl rfl)) rfl ?_
            refine gC rfl rfl (fun hC => moveA) rfl ?_
            obtain ⟨x48, gx48, hE⟩ := guardO_some hE
            refine gC rfl rfl (fun hC => ungdA (k := 44) rfl (ungdA (k := 45) rfl (partM (f := TMember.c) (l := none) (r := (some ((s31_29 : Nat) : Int))) (TK rfl) rfl (TK rfl) rfl rfl trivial rfl (gx48 hC)))) rfl ?_
            refine gC rfl rfl (fun hC => makeFunc rfl) rfl ?_
            obtain ⟨x49, gx49, hE⟩ := guardO_some hE
            refine gC rfl rfl (fun hC => ungdA (k := 46) rfl (ungdA (k := 47) rfl (callP rfl rfl (fun H => Z29_walk (gx49 hC) H (fun _ _ hx => Z1_walk hx))))) rfl ?_
            refine s0 (pickAndA rfl rfl rfl) rfl ?_
            refine nil ?_
            refine hK47 _ ?_
            clear hK47 K47
            refine condE hE rfl (fun hc50 hE => ?_) (fun hc50 hE => ?_)
            ·refine region ?_
             refine s0 assignA rfl ?_
             refine nil ?_
             exact hK40 _ (7 : Int) Weak.toA hE
            refine AWp.skip ?_
            exact hK40 _ x39 Weak.toA hE
           rintro s8_41 hE
           try dsimp only at hE
           unfold Z0_j40 at hE
           refine seqK fun K42 hK42 => ?_
           refine region ?_
           refine s0 moveA rfl ?_
           refine s0 (binI rfl rfl rfl) rfl ?_
           refine nil ?_
           refine hK42 _ ?_
           clear hK42 K42
           refine condE hE rfl (fun hc43 hE => ?_) (fun hc43 hE => ?_)
           ·refine region ?_
            refine s0 moveA rfl ?_
            refine s0 moveA rfl ?_
            refine s0 (fieldVA (TK rfl) rfl rfl (TK rfl) rfl rfl) rfl ?_
            refine s0 (loadV (TK rfl) rfl rfl rfl) rfl ?_
            obtain ⟨x44, gx44, hE⟩ := bindO_some hE
            refine s0 (catM rfl rfl gx44) rfl ?_
            refine s0 (fieldVA (TK rfl) rfl rfl (TK rfl) rfl rfl) rfl ?_
            refine s0 (loadV (TK rfl) rfl rfl rfl) rfl ?_
            obtain ⟨x45, gx45, hE⟩ := bindO_some hE
            refine s0 (catM rfl rfl gx45) rfl ?_
            obtain ⟨x46, gx46, hE⟩ := bindO_some hE
            refine sH (callH rfl rfl (Z2_walk gx46 _ hpG hpG)) rfl ?_
            refine AOps.heq (h' := (((H.set tk0 (some (.tok 2 0))).set tk11_4 (some (.tok 2 x46.Fout.l.length))).set id11_3 (some (.cells (Abstract_faces.cg (some tk11_4) x46))))) (by first | rfl | (rw [Heap.set_set]; rfl) | (funext n_; simp only [Heap.set]; (repeat' split) <;> first | rfl | (exfalso; simp_all; done) | (simp_all; done))) ?_
            refine nil ?_
            exact hK34 _ x46 Weak.toA hE
           refine AWp.skip ?_
           exact hK34 _ y30_id11_3 Weak.toA hE
          rintro y35_id11_3 hE
          try dsimp only at hE
          unfold Z0_j34 at hE
          refine region ?_
          refine s0 (addIA rfl rfl) rfl ?_
          refine s0 moveA rfl ?_
          refine nil ?_
          exact hK28 _ (n28, (s31_29 + 1), y35_id11_3) Weak.toA hE (Nat.lt_succ_self _)
         refine AWp.exit ?_
         exact hK16 _ y30_id11_3 Weak.toA hE
      refine AWp.skip ?_
      exact hK16 _ y12_id11_3 Weak.toA hE
     rintro y17_id11_3 hE
     try dsimp only at hE
     unfold Z0_j16 at hE
     refine region ?_
     refine s0 (addIA rfl rfl) rfl ?_
     refine s0 moveA rfl ?_
     refine nil ?_
     exact hK10 _ (n10, (s15_11 + 1), y17_id11_3) Weak.toA hE (Nat.lt_succ_self _)
    refine AWp.exit ?_
    exact hK5 _ y12_id11_3 Weak.toA hE
 rintro y6_id11_3 hE
 try dsimp only at hE
 unfold Z0_j5 at hE
 refine seqK fun K7 hK7 => ?_
 refine region ?_
 refine s0 moveA rfl ?_
 refine s0 (nilP rfl) rfl ?_
 refine s0 (fieldP (TK rfl) rfl rfl (TK rfl) rfl rfl) rfl ?_
 refine s0 (loadP (TK rfl) rfl rfl hpG rfl) rfl ?_
 refine s0 assignA rfl ?_
 refine nil ?_
 refine hK7 _ ?_
 clear hK7 K7
 refine AWp.dropTok 2 rfl ?_
 obtain ⟨zn_, gz_, hE⟩ := bindO_some hE
 obtain ⟨hz1_, hz2_, rfl⟩ := nilC_some gz_
 refine AWp.nilTokE 2 2 tk0 rfl hz1_ (by rw [hz2_]; rfl) hpG ?_
 refine AWp.heqA (h' := (((H.set tk0 (some (.tok 2 y6_id11_3.Fout.l.length))).set tk11_4 (some (.tok 2 y6_id11_3.Fout.l.length))).set id11_3 (some (.cells (Abstract_faces.cg (some tk11_4) y6_id11_3))))) (by simp only [hz2_, List.length_nil]) ?_
 refine AWp.ret ?_
 repeat (first | refine xBlock_ret ?_ | refine xThen_ret ?_)
 obtain rfl := Option.some.inj hE
 refine retQ.retF (H.set tk0 (some (.tok 2 y6_id11_3.Fout.l.length))) rfl ⟨rfl, rfl⟩ ?_
 intro id_ o_ he_
 have e_tk11_4 : id_ ≠ tk11_4 := fun e_ => by subst e_; simp_all [Heap.set]
 have e_id11_3 : id_ ≠ id11_3 := fun e_ => by subst e_; simp_all [Heap.set]
 rw [← he_]
 simp only [Heap.set] at he_ ⊢
 (repeat' split) <;> simp_all
end Go.Proofs

namespace Go.Proofs
open Go Go.Ab
open AOps Cert AWp
def Z6_j4   : Option (Sl TFault) := some (Sl.nil : Sl TFault)
def Z6_j13 (s17_9 : Nat) (k_next_8 : Nat → Option (Sl TFault))  : Option (Sl TFault) := k_next_8 (s17_9 + 1)
def Z6_l19 (s17_9 : Nat) (x15 : TDef) (k_next_8 : Nat → Option (Sl TFault)) : Nat → Nat → Option (Sl TFault)
 | 0, _ => none
 | n19 + 1, s54_20 => bif (decide (((s54_20 : Nat) : Int) < ((x15.FInputs.l.length : Nat) : Int))) then ((x15.FInputs.l[s54_20]?).bind fun x26 => (catC x15.FName ([46] : Bs)).bind fun x27 => (catC x27 x26.FName).bind fun x28 => none) else (Z6_j13 s17_9 k_next_8 )
def Z6_j16 (s17_9 : Nat) (x15 : TDef) (k_next_8 : Nat → Option (Sl TFault))  : Option (Sl TFault) := Z6_l19 s17_9 x15 k_next_8 (x15.FInputs.l.length + 1) 0
def Z6_j36 (s24_32 : Nat) (k_next_31 : Nat → Option (Sl TFault))  : Option (Sl TFault) := k_next_31 (s24_32 + 1)
def Z6_l41 (x15 : TDef) (s24_32 : Nat) (x38 : TField) (k_next_31 : Nat → Option (Sl TFault)) : Nat → Nat → Option (Sl TFault)
 | 0, _ => none
 | n41 + 1, s31_42 => bif (decide (((s31_42 : Nat) : Int) < ((x38.FArgs.l.length : Nat) : Int))) then ((x38.FArgs.l[s31_42]?).bind fun x48 => (catC x15.FName ([46] : Bs)).bind fun x49 => (catC x49 x38.FName).bind fun x50 => (catC x50 ([40] : Bs)).bind fun x51 => (catC x51 x48.FName).bind fun x52 => (catC x52 ([41] : Bs)).bind fun x53 => none) else (Z6_j36 s24_32 k_next_31 )
def Z6_l31 (s17_9 : Nat) (x15 : TDef) (k_next_8 : Nat → Option (Sl TFault)) : Nat → Nat → Option (Sl TFault)
 | 0, _ => none
 | n31 + 1, s24_32 => bif (decide (((s24_32 : Nat) : Int) < ((x15.FFields.l.length : Nat) : Int))) then ((x15.FFields.l[s24_32]?).bind fun x38 => Z6_l41 x15 s24_32 x38 ((Z6_l31 s17_9 x15 k_next_8 n31)) (x38.FArgs.l.length + 1) 0) else (Z6_j16 s17_9 x15 k_next_8 )
def Z6_l8 (a0 : TDoc)  : Nat → Nat → Option (Sl TFault)
 | 0, _ => none
 | n8 + 1, s17_9 => bif (decide (((s17_9 : Nat) : Int) < ((a0.FDefs.l.length : Nat) : Int))) then ((a0.FDefs.l[s17_9]?).bind fun x15 => Z6_l31 s17_9 x15 ((Z6_l8 a0 n8)) (x15.FFields.l.length + 1) 0) else (Z6_j4   )
def Z6 (a0 : TDoc) : Option (Sl TFault) := Z6_l8 a0 (a0.FDefs.l.length + 1) 0
theorem Z6_walk {a0 : TDoc}   {r : (Sl TFault)} (hE : Z6 a0 = some r) (H : Heap)  : ACalls Tryz.prog 35 [.agg (TDoc.c a0)] H fun v h' => v = .a (.d (Sl.d 2 TFault.c none r)) ∧ h' = H := by
 unfold Z6 at hE
 refine ACalls.of_wp (fn := Tryz.f35) (c := _) Tryz.tab_ok (fun _ _ => Tryz.call35 _ _) Tryz.func35 rfl (n := 70) rfl (rs := [.tmp 2]) rfl rfl ?_
 refine seqK fun K1 hK1 => ?_
 refine region ?_
 refine s0 (boxV rfl) rfl ?_
 refine s0 (assignNil (k' := 2) rfl) rfl ?_
 refine nil ?_
 refine hK1 _ ?_
 clear hK1 K1
 refine seqK fun K2 hK2 => ?_
 refine region ?_
 refine sL (allocLA (TK rfl) rfl) rfl ?_
 refine nil ?_
 refine hK2 _ ?_
 clear hK2 K2
 refine seqK fun K3 hK3 => ?_
 refine region ?_
 refine s0 (makeFuncAny) rfl ?_
 refine s0 assignA rfl ?_
 refine nil ?_
 refine hK3 _ ?_
 clear hK3 K3
 refine seqJH (KeepsT.A (k := 3) KeepsT.nil) (fun (z : Unit) => []) (fun z => H) (fun z => Z6_j4  = some r) ?_ ?_
 ·intro K4 hK4
  refine seqK fun K6 hK6 => ?_
  refine region ?_
  refine s0 (fieldVA (TK rfl) rfl rfl (TK rfl) rfl rfl) rfl ?_
  refine s0 (loadV (TK rfl) rfl rfl rfl) rfl ?_
  refine sLen (f := TDef.c) (s := a0.FDefs) (TK rfl) rfl rfl rfl rfl fun hL7 => ?_
  refine s0 moveA rfl ?_
  refine nil ?_
  refine hK6 _ ?_
  clear hK6 K6
  refine block ?_
  refine loopH (KeepsT.A (k := 3) (KeepsT.A (k := 4) (KeepsT.A (k := 15) (KeepsT.A (k := 16) KeepsT.nil)))) (fun (z : Nat × Nat) => [(17, .a (.d (.int .i64 ((z.2 : Nat) : Int))))]) (fun z => H) (fun z => z.1) (fun z => Z6_l8 a0 z.1 z.2 = some r) ((a0.FDefs.l.length + 1), 0) hE Weak.toA ?_
  rintro ⟨n8, s17_9⟩ hE K8 hK8
  try dsimp only at hE
  cases n8 with
  | zero => cases hE
  | succ n8 =>
    rw [Z6_l8] at hE
    refine seqK fun K10 hK10 => ?_
    refine region ?_
    refine s0 (binI rfl rfl rfl) rfl ?_
    refine nil ?_
    refine hK10 _ ?_
    clear hK10 K10
    refine seqK fun K11 hK11 => ?_
    refine condE hE rfl (fun hc12 hE => ?_) (fun hc12 hE => ?_)
    ·try dsimp only at hc12
     have hf12 := of_decide_eq_true hc12
     refine AWp.skip ?_
     refine hK11 _ ?_
     clear hK11 K11
     refine seqJH (KeepsT.A (k := 3) (KeepsT.A (k := 4) (KeepsT.A (k := 15) (KeepsT.A (k := 16) (KeepsT.A (k := 17) KeepsT.nil))))) (fun (z : Unit) => []) (fun z => H) (fun z => Z6_j13 s17_9 ((Z6_l8 a0 n8))  = some r) ?_ ?_
     ·intro K13 hK13
      refine block ?_
      refine seqK fun K14 hK14 => ?_
      refine region ?_
      obtain ⟨x15, gx15, hE⟩ := bindO_some hE
      refine s0 (idxMn (f := TDef.c) (n := s17_9) (TK rfl) rfl (TK rfl) rfl rfl rfl gx15) rfl ?_
      refine s0 (loadV (TK rfl) rfl rfl rfl) rfl ?_
      refine sL (allocLA (TK rfl) rfl) rfl ?_
      refine sLn (storeLFA (TK rfl) rfl rfl rfl rfl rfl) ?_
      refine nil ?_
      refine hK14 _ ?_
      clear hK14 K14
      refine freezeA 6 _ rfl (Keeps.c (k := 3) (by conv => lhs; whnf) (by rfl) (Keeps.c (k := 4) (by conv => lhs; whnf) (by rfl) (Keeps.c (k := 15) (by conv => lhs; whnf) (by rfl) (Keeps.c (k := 16) (by conv => lhs; whnf) (by rfl) (Keeps.c (k := 17) (by conv => lhs; whnf) (by rfl) Keeps.nil))))) ?_
      refine seqJH (KeepsT.A (k := 3) (KeepsT.A (k := 4) (KeepsT.A (k := 6) (KeepsT.A (k := 15) (KeepsT.A (k := 16) (KeepsT.A (k := 17) KeepsT.nil)))))) (fun (z : Unit) => []) (fun z => H) (fun z => Z6_j16 s17_9 x15 ((Z6_l8 a0 n8))  = some r) ?_ ?_
      ·intro K16 hK16
       refine seqK fun K29 hK29 => ?_
       refine region ?_
       refine s0 (fieldVA (TK rfl) rfl rfl (TK rfl) rfl rfl) rfl ?_
       refine s0 (loadV (TK rfl) rfl rfl rfl) rfl ?_
       refine sLen (f := TField.c) (s := x15.FFields) (TK rfl) rfl rfl rfl rfl fun hL30 => ?_
       refine s0 moveA rfl ?_
       refine nil ?_
       refine hK29 _ ?_
       clear hK29 K29
       refine block ?_
       refine loopH (KeepsT.A (k := 3) (KeepsT.A (k := 4) (KeepsT.A (k := 6) (KeepsT.A (k := 15) (KeepsT.A (k := 16) (KeepsT.A (k := 17) (KeepsT.A (k := 22) (KeepsT.A (k := 23) KeepsT.nil)))))))) (fun (z : Nat × Nat) => [(24, .a (.d (.int .i64 ((z.2 : Nat) : Int))))]) (fun z => H) (fun z => z.1) (fun z => Z6_l31 s17_9 x15 ((Z6_l8 a0 n8)) z.1 z.2 = some r) ((x15.FFields.l.length + 1), 0) hE Weak.toA ?_
       rintro ⟨n31, s24_32⟩ hE K31 hK31
       try dsimp only at hE
       cases n31 with
       | zero => cases hE
       | succ n31 =>
         rw [Z6_l31] at hE
         refine seqK fun K33 hK33 => ?_
         refine region ?_
         refine s0 (binI rfl rfl rfl) rfl ?_
         refine nil ?_
         refine hK33 _ ?_
         clear hK33 K33
         refine seqK fun K34 hK34 => ?_
         refine condE hE rfl (fun hc35 hE => ?_) (fun hc35 hE => ?_)
         ·try dsimp only at hc35
          have hf35 := of_decide_eq_true hc35
          refine AWp.skip ?_
          refine hK34 _ ?_
          clear hK34 K34
          refine seqJH (KeepsT.A (k := 3) (KeepsT.A (k := 4) (KeepsT.A (k := 6) (KeepsT.A (k := 15) (KeepsT.A (k := 16) (KeepsT.A (k := 17) (KeepsT.A (k := 22) (KeepsT.A (k := 23) (KeepsT.A (k := 24) KeepsT.nil))))))))) (fun (z : Unit) => []) (fun z => H) (fun z => Z6_j36 s24_32 ((Z6_l31 s17_9 x15 ((Z6_l8 a0 n8)) n31))  = some r) ?_ ?_
          ·intro K36 hK36
           refine block ?_
           refine seqK fun K37 hK37 => ?_
           refine region ?_
           obtain ⟨x38, gx38, hE⟩ := bindO_some hE
           refine s0 (idxMn (f := TField.c) (n := s24_32) (TK rfl) rfl (TK rfl) rfl rfl rfl gx38) rfl ?_
           refine s0 (loadV (TK rfl) rfl rfl rfl) rfl ?_
           refine sL (allocLA (TK rfl) rfl) rfl ?_
           refine sLn (storeLFA (TK rfl) rfl rfl rfl rfl rfl) ?_
           refine nil ?_
           refine hK37 _ ?_
           clear hK37 K37
           refine freezeA 8 _ rfl (Keeps.c (k := 3) (by conv => lhs; whnf) (by rfl) (Keeps.c (k := 4) (by conv => lhs; whnf) (by rfl) (Keeps.c (k := 6) (by conv => lhs; whnf) (by rfl) (Keeps.c (k := 15) (by conv => lhs; whnf) (by rfl) (Keeps.c (k := 16) (by conv => lhs; whnf) (by rfl) (Keeps.c (k := 17) (by conv => lhs; whnf) (by rfl) (Keeps.c (k := 22) (by conv => lhs; whnf) (by rfl) (Keeps.c (k := 23) (by conv => lhs; whnf) (by rfl) (Keeps.c (k := 24) (by conv => lhs; whnf) (by rfl) Keeps.nil))))))))) ?_
           refine seqK fun K39 hK39 => ?_
           refine region ?_
           refine s0 (fieldVA (TK rfl) rfl rfl (TK rfl) rfl rfl) rfl ?_
           refine s0 (loadV (TK rfl) rfl rfl rfl) rfl ?_
           refine sLen (f := TInput.c) (s := x38.FArgs) (TK rfl) rfl rfl rfl rfl fun hL40 => ?_
           refine s0 moveA rfl ?_
           refine nil ?_
           refine hK39 _ ?_
           clear hK39 K39
           refine block ?_
           refine loopH (KeepsT.A (k := 3) (KeepsT.A (k := 4) (KeepsT.A (k := 6) (KeepsT.A (k := 8) (KeepsT.A (k := 15) (KeepsT.A (k := 16) (KeepsT.A (k := 17) (KeepsT.A (k := 22) (KeepsT.A (k := 23) (KeepsT.A (k := 24) (KeepsT.A (k := 29) (KeepsT.A (k := 30) KeepsT.nil)))))))))))) (fun (z : Nat × Nat) => [(31, .a (.d (.int .i64 ((z.2 : Nat) : Int))))]) (fun z => H) (fun z => z.1) (fun z => Z6_l41 x15 s24_32 x38 ((Z6_l31 s17_9 x15 ((Z6_l8 a0 n8)) n31)) z.1 z.2 = some r) ((x38.FArgs.l.length + 1), 0) hE Weak.toA ?_
           rintro ⟨n41, s31_42⟩ hE K41 hK41
           try dsimp only at hE
           cases n41 with
           | zero => cases hE
           | succ n41 =>
             rw [Z6_l41] at hE
             refine seqK fun K43 hK43 => ?_
             refine region ?_
             refine s0 (binI rfl rfl rfl) rfl ?_
             refine nil ?_
             refine hK43 _ ?_
             clear hK43 K43
             refine seqK fun K44 hK44 => ?_
             refine condE hE rfl (fun hc45 hE => ?_) (fun hc45 hE => ?_)
             ·try dsimp only at hc45
              have hf45 := of_decide_eq_true hc45
              refine AWp.skip ?_
              refine hK44 _ ?_
              clear hK44 K44
              refine seqK fun K46 hK46 => ?_
              refine block ?_
              refine seqK fun K47 hK47 => ?_
              refine region ?_
              obtain ⟨x48, gx48, hE⟩ := bindO_some hE
              refine s0 (idxMn (f := TInput.c) (n := s31_42) (TK rfl) rfl (TK rfl) rfl rfl rfl gx48) rfl ?_
              refine s0 (loadV (TK rfl) rfl rfl rfl) rfl ?_
              refine sL (allocLA (TK rfl) rfl) rfl ?_
              refine sLn (storeLFA (TK rfl) rfl rfl rfl rfl rfl) ?_
              refine nil ?_
              refine hK47 _ ?_
              clear hK47 K47
              refine freezeA 10 _ rfl (Keeps.c (k := 3) (by conv => lhs; whnf) (by rfl) (Keeps.c (k := 4) (by conv => lhs; whnf) (by rfl) (Keeps.c (k := 6) (by conv => lhs; whnf) (by rfl) (Keeps.c (k := 8) (by conv => lhs; whnf) (by rfl) (Keeps.c (k := 15) (by conv => lhs; whnf) (by rfl) (Keeps.c (k := 16) (by conv => lhs; whnf) (by rfl) (Keeps.c (k := 17) (by conv => lhs; whnf) (by rfl) (Keeps.c (k := 22) (by conv => lhs; whnf) (by rfl) (Keeps.c (k := 23) (by conv => lhs; whnf) (by rfl) (Keeps.c (k := 24) (by conv => lhs; whnf) (by rfl) (Keeps.c (k := 29) (by conv => lhs; whnf) (by rfl) (Keeps.c (k := 30) (by conv => lhs; whnf) (by rfl) (Keeps.c (k := 31) (by conv => lhs; whnf) (by rfl) Keeps.nil))))))))))))) ?_
              refine region ?_
              refine s0 moveA rfl ?_
              refine s0 (loadV (TK rfl) rfl rfl rfl) rfl ?_
              refine s0 (fieldVA (TK rfl) rfl rfl (TK rfl) rfl rfl) rfl ?_
              refine s0 (loadV (TK rfl) rfl rfl rfl) rfl ?_
              obtain ⟨x49, gx49, hE⟩ := bindO_some hE
              refine s0 (catM rfl rfl gx49) rfl ?_
              refine s0 (fieldVA (TK rfl) rfl rfl (TK rfl) rfl rfl) rfl ?_
              refine s0 (loadV (TK rfl) rfl rfl rfl) rfl ?_
              obtain ⟨x50, gx50, hE⟩ := bindO_some hE
              refine s0 (catM rfl rfl gx50) rfl ?_
              obtain ⟨x51, gx51, hE⟩ := bindO_some hE
              refine s0 (catM rfl rfl gx51) rfl ?_
              refine s0 (fieldVA (TK rfl) rfl rfl (TK rfl) rfl rfl) rfl ?_
              refine s0 (loadV (TK rfl) rfl rfl rfl) rfl ?_
              obtain ⟨x52, gx52, hE⟩ := bindO_some hE
              refine s0 (catM rfl rfl gx52) rfl ?_
              obtain ⟨x53, gx53, hE⟩ := bindO_some hE
              refine s0 (catM rfl rfl gx53) rfl ?_
              cases hE
             refine AWp.exit ?_
             exact hK36 _ () Weak.toA hE
          rintro _ hE
          try dsimp only at hE
          unfold Z6_j36 at hE
          refine region ?_
          refine s0 (addIA rfl rfl) rfl ?_
          refine s0 moveA rfl ?_
          refine nil ?_
          exact hK31 _ (n31, (s24_32 + 1)) Weak.toA hE (Nat.lt_succ_self _)
         refine AWp.exit ?_
         exact hK16 _ () Weak.toA hE
      rintro _ hE
      try dsimp only at hE
      unfold Z6_j16 at hE
      refine seqK fun K17 hK17 => ?_
      refine region ?_
      refine s0 (fieldVA (TK rfl) rfl rfl (TK rfl) rfl rfl) rfl ?_
      refine s0 (loadV (TK rfl) rfl rfl rfl) rfl ?_
      refine sLen (f := TInput.c) (s := x15.FInputs) (TK rfl) rfl rfl rfl rfl fun hL18 => ?_
      refine s0 moveA rfl ?_
      refine nil ?_
      refine hK17 _ ?_
      clear hK17 K17
      refine block ?_
      refine loopH (KeepsT.A (k := 3) (KeepsT.A (k := 4) (KeepsT.A (k := 6) (KeepsT.A (k := 15) (KeepsT.A (k := 16) (KeepsT.A (k := 17) (KeepsT.A (k := 52) (KeepsT.A (k := 53) KeepsT.nil)))))))) (fun (z : Nat × Nat) => [(54, .a (.d (.int .i64 ((z.2 : Nat) : Int))))]) (fun z => H) (fun z => z.1) (fun z => Z6_l19 s17_9 x15 ((Z6_l8 a0 n8)) z.1 z.2 = some r) ((x15.FInputs.l.length + 1), 0) hE Weak.toA ?_
      rintro ⟨n19, s54_20⟩ hE K19 hK19
      try dsimp only at hE
      cases n19 with
      | zero => cases hE
      | succ n19 =>
        rw [Z6_l19] at hE
        refine seqK fun K21 hK21 => ?_
        refine region ?_
        refine s0 (binI rfl rfl rfl) rfl ?_
        refine nil ?_
        refine hK21 _ ?_
        clear hK21 K21
        refine seqK fun K22 hK22 => ?_
        refine condE hE rfl (fun hc23 hE => ?_) (fun hc23 hE => ?_)
        ·try dsimp only at hc23
         have hf23 := of_decide_eq_true hc23
         refine AWp.skip ?_
         refine hK22 _ ?_
         clear hK22 K22
         refine seqK fun K24 hK24 => ?_
         refine block ?_
         refine seqK fun K25 hK25 => ?_
         refine region ?_
         obtain ⟨x26, gx26, hE⟩ := bindO_some hE
         refine s0 (idxMn (f := TInput.c) (n := s54_20) (TK rfl) rfl (TK rfl) rfl rfl rfl gx26) rfl ?_
         refine s0 (loadV (TK rfl) rfl rfl rfl) rfl ?_
         refine sL (allocLA (TK rfl) rfl) rfl ?_
         refine sLn (storeLFA (TK rfl) rfl rfl rfl rfl rfl) ?_
         refine nil ?_
         refine hK25 _ ?_
         clear hK25 K25
         refine freezeA 12 _ rfl (Keeps.c (k := 3) (by conv => lhs; whnf) (by rfl) (Keeps.c (k := 4) (by conv => lhs; whnf) (by rfl) (Keeps.c (k := 6) (by conv => lhs; whnf) (by rfl) (Keeps.c (k := 15) (by conv => lhs; whnf) (by rfl) (Keeps.c (k := 16) (by conv => lhs; whnf) (by rfl) (Keeps.c (k := 17) (by conv => lhs; whnf) (by rfl) (Keeps.c (k := 52) (by conv => lhs; whnf) (by rfl) (Keeps.c (k := 53) (by conv => lhs; whnf) (by rfl) (Keeps.c (k := 54) (by conv => lhs; whnf) (by rfl) Keeps.nil))))))))) ?_
         refine region ?_
         refine s0 moveA rfl ?_
         refine s0 (loadV (TK rfl) rfl rfl rfl) rfl ?_
         refine s0 (fieldVA (TK rfl) rfl rfl (TK rfl) rfl rfl) rfl ?_
         refine s0 (loadV (TK rfl) rfl rfl rfl) rfl ?_
         obtain ⟨x27, gx27, hE⟩ := bindO_some hE
         refine s0 (catM rfl rfl gx27) rfl ?_
         refine s0 (fieldVA (TK rfl) rfl rfl (TK rfl) rfl rfl) rfl ?_
         refine s0 (loadV (TK rfl) rfl rfl rfl) rfl ?_
         obtain ⟨x28, gx28, hE⟩ := bindO_some hE
         refine s0 (catM rfl rfl gx28) rfl ?_
         cases hE
        refine AWp.exit ?_
        exact hK13 _ () Weak.toA hE
     rintro _ hE
     try dsimp only at hE
     unfold Z6_j13 at hE
     refine region ?_
     refine s0 (addIA rfl rfl) rfl ?_
     refine s0 moveA rfl ?_
     refine nil ?_
     exact hK8 _ (n8, (s17_9 + 1)) Weak.toA hE (Nat.lt_succ_self _)
    refine AWp.exit ?_
    exact hK4 _ () Weak.toA hE
 rintro _ hE
 try dsimp only at hE
 unfold Z6_j4 at hE
 refine seqK fun K5 hK5 => ?_
 refine region ?_
 refine s0 (loadL (TK rfl) rfl rfl rfl rfl) rfl ?_
 refine s0 assignA rfl ?_
 refine nil ?_
 refine hK5 _ ?_
 clear hK5 K5
 refine AWp.ret ?_
 repeat (first | refine xBlock_ret ?_ | refine xThen_ret ?_)
 obtain rfl := Option.some.inj hE
 refine retQ.retF H rfl ⟨rfl, rfl⟩ ?_
 exact (fun _ _ h => h)
def Z38 (a0 : TDoc) : Option (Sl TFault) := (Z14 a0 true).bind fun x4 => bif (decide ((0 : Int) < ((x4.l.length : Nat) : Int))) then (some x4) else ((Z0 a0).bind fun x10 => (Z6 a0).bind fun x11 => (appC 24 x10 x11).bind fun x12 => some x12)
theorem Z38_walk {a0 : TDoc}   {r : (Sl TFault)} (hE : Z38 a0 = some r) (H : Heap)  : ACalls Tryz.prog 19 [.agg (TDoc.c a0)] H fun v h' => v = .a (.d (Sl.d 2 TFault.c none r)) ∧ h' = H := by
 unfold Z38 at hE
 refine ACalls.of_wp (fn := Tryz.f19) (c := _) Tryz.tab_ok (fun _ _ => Tryz.call19 _ _) Tryz.func19 rfl (n := 15) rfl (rs := [.tmp 2]) rfl rfl ?_
 refine seqK fun K1 hK1 => ?_
 refine region ?_
 refine s0 (boxV rfl) rfl ?_
 refine s0 (assignNil (k' := 2) rfl) rfl ?_
 refine nil ?_
 refine hK1 _ ?_
 clear hK1 K1
 refine seqK fun K2 hK2 => ?_
 refine seqK fun K3 hK3 => ?_
 refine region ?_
 refine s0 (loadV (TK rfl) rfl rfl rfl) rfl ?_
 obtain ⟨x4, gx4, hE⟩ := bindO_some hE
 refine s0 (callP rfl rfl (fun H => Z14_walk gx4 H)) rfl ?_
 refine s0 assignA rfl ?_
 refine nil ?_
 refine hK3 _ ?_
 clear hK3 K3
 refine seqK fun K5 hK5 => ?_
 refine region ?_
 refine s0 moveA rfl ?_
 refine sLen (f := TFault.c) (s := x4) (TK rfl) rfl rfl rfl rfl fun hL6 => ?_
 refine s0 (binI rfl rfl rfl) rfl ?_
 refine nil ?_
 refine hK5 _ ?_
 clear hK5 K5
 refine condE hE rfl (fun hc7 hE => ?_) (fun hc7 hE => ?_)
 ·refine seqK fun K8 hK8 => ?_
  refine region ?_
  refine s0 moveA rfl ?_
  refine s0 assignA rfl ?_
  refine nil ?_
  refine hK8 _ ?_
  clear hK8 K8
  refine AWp.ret ?_
  repeat (first | refine xBlock_ret ?_ | refine xThen_ret ?_)
  obtain rfl := Option.some.inj hE
  refine retQ.retF H rfl ⟨rfl, rfl⟩ ?_
  exact (fun _ _ h => h)
 refine AWp.skip ?_
 refine hK2 _ ?_
 clear hK2 K2
 refine seqK fun K9 hK9 => ?_
 refine AWp.tok 2 fun tk1 htk1 => ?_
 refine AWp.draw rfl ?_
 refine DOps.s0 (loadV (TK rfl) rfl rfl rfl) rfl ?_
 obtain ⟨x10, gx10, hE⟩ := bindO_some hE
 refine DOps.sH (callH rfl rfl (Z0_tok gx10 _ hpG)) rfl ?_
 refine DOps.heq (h' := (H.set tk1 (some (.tok 2 x10.l.length)))) (by first | rfl | (rw [Heap.set_set]; rfl) | (funext n_; simp only [Heap.set]; (repeat' split) <;> first | rfl | (exfalso; simp_all; done) | (simp_all; done))) ?_
 refine DOps.s0 (loadV (TK rfl) rfl rfl rfl) rfl ?_
 obtain ⟨x11, gx11, hE⟩ := bindO_some hE
 refine DOps.s0 (callP rfl rfl (fun H => Z6_walk gx11 H)) rfl ?_
 obtain ⟨x12, gx12, hE⟩ := bindO_some hE
 refine DOps.sH (appM (f := TFault.c) (TK rfl) rfl (TK rfl) (TK rfl) ⟨_, rfl⟩ rfl rfl (by decide) rfl rfl rfl rfl hpG rfl gx12) rfl ?_
 refine DOps.heq (h' := (H.set tk1 (some (.tok 2 x12.l.length)))) (by first | rfl | (rw [Heap.set_set]; rfl) | (funext n_; simp only [Heap.set]; (repeat' split) <;> first | rfl | (exfalso; simp_all; done) | (simp_all; done))) ?_
 refine DOps.s0 assignA rfl ?_
 refine DOps.nil (by decide +kernel) ?_
 refine hK9 _ ?_
 clear hK9 K9
 refine AWp.dropTok 2 rfl ?_
 refine AWp.ret ?_
 repeat (first | refine xBlock_ret ?_ | refine xThen_ret ?_)
 obtain rfl := Option.some.inj hE
 refine retQ.retF H rfl ⟨rfl, rfl⟩ ?_
 first | exact Heap.sub_set htk1 | (simp only [Heap.set_set]; exact Heap.sub_set htk1)
def Z11  : Option Bool := (Z36 (TDoc.mk (⟨false, [(TDef.mk (1 : Int) ([81, 117, 101, 114, 121] : Bs) (Sl.nil : Sl Bs) (Sl.nil : Sl TDir) (⟨false, [(TField.mk ([97] : Bs) (Sl.nil : Sl TInput) (TRef.mk ([73, 110, 116] : Bs) (Sl.nil : Sl Int)) (Sl.nil : Sl TDir)), (TField.mk ([98] : Bs) (Sl.nil : Sl TInput) (TRef.mk ([73, 110, 116] : Bs) (Sl.nil : Sl Int)) (Sl.nil : Sl TDir))]⟩ : Sl TField) (Sl.nil : Sl TMember) (Sl.nil : Sl TInput))]⟩ : Sl TDef)) (TQuery.mk (⟨false, [(TOp.mk (1 : Int) ([] : Bs) (Sl.nil : Sl TVar) (⟨false, [(TSel.mk (1 : Int) ([] : Bs) ([97] : Bs) ([] : Bs) (Sl.nil : Sl TArg) (Sl.nil : Sl TDir) true ([]))]⟩ : Sl TSel)), (TOp.mk (1 : Int) ([] : Bs) (Sl.nil : Sl TVar) (⟨false, [(TSel.mk (1 : Int) ([] : Bs) ([98] : Bs) ([] : Bs) (Sl.nil : Sl TArg) (Sl.nil : Sl TDir) true ([]))]⟩ : Sl TSel))]⟩ : Sl TOp) (Sl.nil : Sl TFrag))).bind fun x5 => (Z37 (TQuery.mk (⟨false, [(TOp.mk (1 : Int) ([] : Bs) (Sl.nil : Sl TVar) (⟨false, [(TSel.mk (1 : Int) ([] : Bs) ([97] : Bs) ([] : Bs) (Sl.nil : Sl TArg) (Sl.nil : Sl TDir) true ([]))]⟩ : Sl TSel)), (TOp.mk (1 : Int) ([] : Bs) (Sl.nil : Sl TVar) (⟨false, [(TSel.mk (1 : Int) ([] : Bs) ([98] : Bs) ([] : Bs) (Sl.nil : Sl TArg) (Sl.nil : Sl TDir) true ([]))]⟩ : Sl TSel))]⟩ : Sl TOp) (Sl.nil : Sl TFrag)) ([97] : Bs)).bind fun x7 => guardO (((decide (x7.2 = (8 : Int))) && (decide (((x5.l.length : Nat) : Int) = (2 : Int))))) (x5.l[0]?) TFault.zero fun x9 => guardO ((((decide (x7.2 = (8 : Int))) && (decide (((x5.l.length : Nat) : Int) = (2 : Int)))) && (decide (x9.FErr = (6 : Int))))) (Z38 (TDoc.mk (⟨false, [(TDef.mk (1 : Int) ([81, 117, 101, 114, 121] : Bs) (Sl.nil : Sl Bs) (Sl.nil : Sl TDir) (⟨false, [(TField.mk ([97] : Bs) (Sl.nil : Sl TInput) (TRef.mk ([73, 110, 116] : Bs) (Sl.nil : Sl Int)) (Sl.nil : Sl TDir)), (TField.mk ([98] : Bs) (Sl.nil : Sl TInput) (TRef.mk ([73, 110, 116] : Bs) (Sl.nil : Sl Int)) (Sl.nil : Sl TDir))]⟩ : Sl TField) (Sl.nil : Sl TMember) (Sl.nil : Sl TInput))]⟩ : Sl TDef))) (Sl.nil : Sl TFault) fun x10 => some ((((decide (x7.2 = (8 : Int))) && (decide (((x5.l.length : Nat) : Int) = (2 : Int)))) && (decide (x9.FErr = (6 : Int)))) && (decide (((x10.l.length : Nat) : Int) = (0 : Int))))
theorem Z11_walk    {r : Bool} (hE : Z11  = some r) (H : Heap)  : ACalls Tryz.prog 10 [] H fun v h' => v = .a (.d (.bool r)) ∧ h' = H := by
 unfold Z11 at hE
 refine ACalls.of_wp (fn := Tryz.f10) (c := _) Tryz.tab_ok (fun _ _ => Tryz.call10 _ _) Tryz.func10 rfl (n := 50) rfl (rs := [.tmp 0]) rfl rfl ?_
 refine seqK fun K1 hK1 => ?_
 refine region ?_
 refine s0 assignA rfl ?_
 refine nil ?_
 refine hK1 _ ?_
 clear hK1 K1
 refine seqK fun K2 hK2 => ?_
 refine region ?_
 refine s0 (build Tryz.tab_ok rfl rfl rfl rfl rfl rfl) rfl ?_
 refine s0 (build Tryz.tab_ok rfl rfl rfl rfl rfl rfl) rfl ?_
 refine s0 (build Tryz.tab_ok rfl rfl rfl rfl rfl rfl) rfl ?_
 refine s0 (build Tryz.tab_ok rfl rfl rfl rfl rfl rfl) rfl ?_
 refine s0 (buildSlice (TK rfl) rfl (TK rfl) rfl rfl rfl rfl rfl rfl) rfl ?_
 refine s0 (build Tryz.tab_ok rfl rfl rfl rfl rfl rfl) rfl ?_
 refine s0 (buildSlice (TK rfl) rfl (TK rfl) rfl rfl rfl rfl rfl rfl) rfl ?_
 refine s0 (build Tryz.tab_ok rfl rfl rfl rfl rfl rfl) rfl ?_
 refine sL (allocLA (TK rfl) rfl) rfl ?_
 refine sLn (storeLFA (TK rfl) rfl rfl rfl rfl rfl) ?_
 refine nil ?_
 refine hK2 _ ?_
 clear hK2 K2
 refine freezeA 1 _ rfl Keeps.nil ?_
 refine seqK fun K3 hK3 => ?_
 refine region ?_
 refine s0 (build Tryz.tab_ok rfl rfl rfl rfl rfl rfl) rfl ?_
 refine s0 (buildSlice (TK rfl) rfl (TK rfl) rfl rfl rfl rfl rfl rfl) rfl ?_
 refine s0 (build Tryz.tab_ok rfl rfl rfl rfl rfl rfl) rfl ?_
 refine s0 (build Tryz.tab_ok rfl rfl rfl rfl rfl rfl) rfl ?_
 refine s0 (buildSlice (TK rfl) rfl (TK rfl) rfl rfl rfl rfl rfl rfl) rfl ?_
 refine s0 (build Tryz.tab_ok rfl rfl rfl rfl rfl rfl) rfl ?_
 refine s0 (buildSlice (TK rfl) rfl (TK rfl) rfl rfl rfl rfl rfl rfl) rfl ?_
 refine s0 (build Tryz.tab_ok rfl rfl rfl rfl rfl rfl) rfl ?_
 refine sL (allocLA (TK rfl) rfl) rfl ?_
 refine sLn (storeLFA (TK rfl) rfl rfl rfl rfl rfl) ?_
 refine nil ?_
 refine hK3 _ ?_
 clear hK3 K3
 refine freezeA 2 _ rfl (Keeps.c (k := 1) (by conv => lhs; whnf) (by rfl) Keeps.nil) ?_
 refine seqK fun K4 hK4 => ?_
 refine region ?_
 refine s0 (loadV (TK rfl) rfl rfl rfl) rfl ?_
 refine s0 (loadV (TK rfl) rfl rfl rfl) rfl ?_
 obtain ⟨x5, gx5, hE⟩ := bindO_some hE
 refine s0 (callP rfl rfl (fun H => Z36_walk gx5 H)) rfl ?_
 refine s0 assignA rfl ?_
 refine nil ?_
 refine hK4 _ ?_
 clear hK4 K4
 refine seqK fun K6 hK6 => ?_
 refine region ?_
 refine s0 (loadV (TK rfl) rfl rfl rfl) rfl ?_
 obtain ⟨x7, gx7, hE⟩ := bindO_some hE
 refine s0 (callP rfl rfl (fun H => Z37_walk gx7 H)) rfl ?_
 refine s0 moveA rfl ?_
 refine s0 (extract rfl rfl) rfl ?_
 refine s0 (extract rfl rfl) rfl ?_
 refine s0 assignA rfl ?_
 refine s0 assignA rfl ?_
 refine nil ?_
 refine hK6 _ ?_
 clear hK6 K6
 refine seqK fun K8 hK8 => ?_
 refine region ?_
 refine s0 moveA rfl ?_
 refine s0 (binI rfl rfl rfl) rfl ?_
 refine s0 moveA rfl ?_
 refine gC rfl rfl (fun hC => moveA) rfl ?_
 refine gC rfl rfl (fun hC => ungdA (k := 33) rfl (lenM' (f := TFault.c) (s := x5) (TK rfl) rfl rfl rfl)) rfl ?_
 refine gC rfl rfl (fun hC => ungdA (k := 34) rfl (binI rfl rfl rfl)) rfl ?_
 refine s0 (pickAndA rfl rfl rfl) rfl ?_
 refine s0 moveA rfl ?_
 refine gC rfl rfl (fun hC => moveA) rfl ?_
 obtain ⟨x9, gx9, hE⟩ := guardO_some hE
 refine gC rfl rfl (fun hC => ungdA (k := 38) rfl (idxMn (f := TFault.c) (n := 0) (TK rfl) rfl (TK rfl) rfl rfl rfl (gx9 hC))) rfl ?_
 refine gC rfl rfl (fun hC => ungdA (k := 39) rfl (fieldVA (TK rfl) rfl rfl (TK rfl) rfl rfl)) rfl ?_
 refine gC rfl rfl (fun hC => ungdA (k := 40) rfl (loadV (TK rfl) rfl rfl rfl)) rfl ?_
 refine gC rfl rfl (fun hC => ungdA (k := 41) rfl (binI rfl rfl rfl)) rfl ?_
 refine s0 (pickAndA rfl rfl rfl) rfl ?_
 refine s0 moveA rfl ?_
 refine gC rfl rfl (fun hC => loadV (TK rfl) rfl rfl rfl) rfl ?_
 obtain ⟨x10, gx10, hE⟩ := guardO_some hE
 refine gC rfl rfl (fun hC => ungdA (k := 45) rfl (callP rfl rfl (fun H => Z38_walk (gx10 hC) H))) rfl ?_
 refine gC rfl rfl (fun hC => ungdA (k := 46) rfl (lenM' (f := TFault.c) (s := x10) (TK rfl) rfl rfl rfl)) rfl ?_
 refine gC rfl rfl (fun hC => ungdA (k := 47) rfl (binI rfl rfl rfl)) rfl ?_
 refine s0 (pickAndA rfl rfl rfl) rfl ?_
 refine s0 assignA rfl ?_
 refine nil ?_
 refine hK8 _ ?_
 clear hK8 K8
 refine AWp.ret ?_
 repeat (first | refine xBlock_ret ?_ | refine xThen_ret ?_)
 obtain rfl := Option.some.inj hE
 refine retQ.retF H rfl ⟨rfl, rfl⟩ ?_
 exact (fun _ _ h => h)
def Z10 (a0 : TQuery) (a1 : Bs) : Option Bool := (Z37 a0 a1).bind fun x3 => (Z13 a0 a1).bind fun x5 => guardO (((decide (x3.1 = x5.1)) && (decide (x3.2 = x5.2)))) (Z11 ) false fun x7 => some (((decide (x3.1 = x5.1)) && (decide (x3.2 = x5.2))) && x7)
theorem Z10_walk {a0 : TQuery} {a1 : Bs}   {r : Bool} (hE : Z10 a0 a1 = some r) (H : Heap)  : ACalls Tryz.prog 4 [.agg (TQuery.c a0), .d (.str a1)] H fun v h' => v = .a (.d (.bool r)) ∧ h' = H := by
 unfold Z10 at hE
 refine ACalls.of_wp (fn := Tryz.f4) (c := _) Tryz.tab_ok (fun _ _ => Tryz.call4 _ _) Tryz.func4 rfl (n := 32) rfl (rs := [.tmp 4]) rfl rfl ?_
 refine seqK fun K1 hK1 => ?_
 refine region ?_
 refine s0 (boxV rfl) rfl ?_
 refine s0 assignA rfl ?_
 refine nil ?_
 refine hK1 _ ?_
 clear hK1 K1
 refine seqK fun K2 hK2 => ?_
 refine region ?_
 refine s0 (loadV (TK rfl) rfl rfl rfl) rfl ?_
 refine s0 moveA rfl ?_
 obtain ⟨x3, gx3, hE⟩ := bindO_some hE
 refine s0 (callP rfl rfl (fun H => Z37_walk gx3 H)) rfl ?_
 refine s0 moveA rfl ?_
 refine s0 (extract rfl rfl) rfl ?_
 refine s0 (extract rfl rfl) rfl ?_
 refine s0 assignA rfl ?_
 refine s0 assignA rfl ?_
 refine nil ?_
 refine hK2 _ ?_
 clear hK2 K2
 refine seqK fun K4 hK4 => ?_
 refine region ?_
 refine s0 (loadV (TK rfl) rfl rfl rfl) rfl ?_
 refine s0 moveA rfl ?_
 obtain ⟨x5, gx5, hE⟩ := bindO_some hE
 refine s0 (callP rfl rfl (fun H => Z13_walk gx5 H)) rfl ?_
 refine s0 moveA rfl ?_
 refine s0 (extract rfl rfl) rfl ?_
 refine s0 (extract rfl rfl) rfl ?_
 refine s0 assignA rfl ?_
 refine s0 assignA rfl ?_
 refine nil ?_
 refine hK4 _ ?_
 clear hK4 K4
 refine seqK fun K6 hK6 => ?_
 refine region ?_
 refine s0 moveA rfl ?_
 refine s0 moveA rfl ?_
 refine s0 (binI rfl rfl rfl) rfl ?_
 refine s0 moveA rfl ?_
 refine gC rfl rfl (fun hC => moveA) rfl ?_
 refine gC rfl rfl (fun hC => moveA) rfl ?_
 refine gC rfl rfl (fun hC => ungdA (k := 25) rfl (ungdA (k := 26) rfl (binI rfl rfl rfl))) rfl ?_
 refine s0 (pickAndA rfl rfl rfl) rfl ?_
 refine s0 moveA rfl ?_
 obtain ⟨x7, gx7, hE⟩ := guardO_some hE
 refine gC rfl rfl (fun hC => callP rfl rfl (fun H => Z11_walk (gx7 hC) H)) rfl ?_
 refine s0 (pickAndA rfl rfl rfl) rfl ?_
 refine s0 assignA rfl ?_
 refine nil ?_
 refine hK6 _ ?_
 clear hK6 K6
 refine AWp.ret ?_
 repeat (first | refine xBlock_ret ?_ | refine xThen_ret ?_)
 obtain rfl := Option.some.inj hE
 refine retQ.retF H rfl ⟨rfl, rfl⟩ ?_
 exact (fun _ _ h => h)
end Go.Proofs

namespace Go.Proofs
open Go Go.Ab
def Z37_q15 (a1 : Bs) : List TOp → Nat → Unit ⊕ ((Int × Int))
 | [], s17_16 => Sum.inl ()
 | h15 :: r15, s17_16 => on (h15) fun x22 => bif ((x22.FName == a1)) then (Sum.inr (((s17_16 : Nat) : Int), (0 : Int))) else (Z37_q15 a1 (r15) (s17_16 + 1) )
theorem Z37_l15_qe {a0 : TQuery} {a1 : Bs}  (Kb15 : (Unit ⊕ ((Int × Int))) → Option (Int × Int)) (hend : ∀ (n15 : Nat) (s17_16 : Nat), Z37_j11    = Kb15 (Sum.inl ())) (hret : ∀ e : (Int × Int), some e = Kb15 (Sum.inr e)) : ∀ (n15 : Nat) (s17_16 : Nat), (0 < n15 ∧ a0.FOps.l.length < s17_16 + n15) → Z37_l15 a0 a1 n15 s17_16 = Kb15 (Z37_q15 a1 (a0.FOps.l.drop s17_16) s17_16 ) := by
 intro n15
 induction n15 with
 | zero => intro s17_16 hn; exact absurd hn.1 (by omega)
 | succ n15 ih15 =>
  intro s17_16 hn
  rw [Z37_l15]
  by_cases hlt : s17_16 < a0.FOps.l.length
  ·obtain ⟨h15, hh15⟩ : ∃ x, a0.FOps.l[s17_16]? = some x := ⟨_, List.getElem?_eq_getElem hlt⟩
   rw [Q.drop_of hh15, Z37_q15]
   refine Q.condT (Q.ltT hlt) ?_
   refine Q.bindP hh15 fun x22 hx_x22 => ?_
   refine Q.condP ?_ ?_
   ·all_goals exact hret _
   all_goals exact ih15 _ ⟨by omega, by omega⟩
  rw [List.drop_of_length_le (by omega), Z37_q15]
  refine Q.condF (Q.ltF hlt) ?_
  exact hend n15 s17_16
def Z37_q (a0 : TQuery) (a1 : Bs) : (Int × Int) := bif ((a1 == ([] : Bs))) then (bif (decide (((a0.FOps.l.length : Nat) : Int) = (1 : Int))) then (((0 : Int), (0 : Int))) else (((0 : Int), (8 : Int)))) else (on (Z37_q15 a1 a0.FOps.l 0 ) fun o15 => match o15 with | Sum.inl _ => (on (()) fun _ => ((0 : Int), (8 : Int))) | Sum.inr e15 => (e15))
theorem Z37_eq (a0 : TQuery) (a1 : Bs) : Z37 a0 a1 = some (Z37_q a0 a1) := by
 unfold Z37 Z37_q
 refine Q.condP ?_ ?_
 ·refine Q.condP ?_ ?_
  ·all_goals rfl
  all_goals rfl
 refine Q.wrapPP fun Kb15 hKb15 => ?_
 refine Z37_l15_qe  Kb15 ?_ ?_ _ _ ⟨Nat.succ_pos _, by omega⟩
 ·intro n15 s17_16
  refine Eq.trans ?_ (hKb15 _).symm
  try dsimp only
  refine Q.wrapPP fun Kj11 hKj11 => ?_
  have hj11 : Z37_j11   = Kj11 () := by
   refine Eq.trans ?_ (hKj11 _).symm
   unfold Z37_j11
   all_goals rfl
  all_goals exact hj11
 intro e15
 refine Eq.trans ?_ (hKb15 _).symm
 try dsimp only
 all_goals rfl
def Z13_q9 (a1 : Bs) : List TOp → Nat → Unit ⊕ ((Int × Int))
 | [], s6_10 => Sum.inl ()
 | h9 :: r9, s6_10 => on (bif (!(a1 == ([] : Bs))) then h9 else TOp.zero) fun x17 => bif ((!(a1 == ([] : Bs))) && ((x17.FName == a1))) then (Sum.inr (((s6_10 : Nat) : Int), (0 : Int))) else (Z13_q9 a1 (r9) (s6_10 + 1) )
theorem Z13_l9_qe {a0 : TQuery} {a1 : Bs}  (Kb9 : (Unit ⊕ ((Int × Int))) → Option (Int × Int)) (hend : ∀ (n9 : Nat) (s6_10 : Nat), Z13_j6    = Kb9 (Sum.inl ())) (hret : ∀ e : (Int × Int), some e = Kb9 (Sum.inr e)) : ∀ (n9 : Nat) (s6_10 : Nat), (0 < n9 ∧ a0.FOps.l.length < s6_10 + n9) → Z13_l9 a0 a1 n9 s6_10 = Kb9 (Z13_q9 a1 (a0.FOps.l.drop s6_10) s6_10 ) := by
 intro n9
 induction n9 with
 | zero => intro s6_10 hn; exact absurd hn.1 (by omega)
 | succ n9 ih9 =>
  intro s6_10 hn
  rw [Z13_l9]
  by_cases hlt : s6_10 < a0.FOps.l.length
  ·obtain ⟨h9, hh9⟩ : ∃ x, a0.FOps.l[s6_10]? = some x := ⟨_, List.getElem?_eq_getElem hlt⟩
   rw [Q.drop_of hh9, Z13_q9]
   refine Q.condT (Q.ltT hlt) ?_
   refine Q.guardP hh9 fun x17 hx_x17 => ?_
   refine Q.condP ?_ ?_
   ·all_goals exact hret _
   all_goals exact ih9 _ ⟨by omega, by omega⟩
  rw [List.drop_of_length_le (by omega), Z13_q9]
  refine Q.condF (Q.ltF hlt) ?_
  exact hend n9 s6_10
def Z13_q (a0 : TQuery) (a1 : Bs) : (Int × Int) := bif (((a1 == ([] : Bs))) && (decide (((a0.FOps.l.length : Nat) : Int) = (1 : Int)))) then (((0 : Int), (0 : Int))) else (on (Z13_q9 a1 a0.FOps.l 0 ) fun o9 => match o9 with | Sum.inl _ => (on (()) fun _ => ((0 : Int), (8 : Int))) | Sum.inr e9 => (e9))
theorem Z13_eq (a0 : TQuery) (a1 : Bs) : Z13 a0 a1 = some (Z13_q a0 a1) := by
 unfold Z13 Z13_q
 refine Q.condP ?_ ?_
 ·all_goals rfl
 refine Q.wrapPP fun Kb9 hKb9 => ?_
 refine Z13_l9_qe  Kb9 ?_ ?_ _ _ ⟨Nat.succ_pos _, by omega⟩
 ·intro n9 s6_10
  refine Eq.trans ?_ (hKb9 _).symm
  try dsimp only
  refine Q.wrapPP fun Kj6 hKj6 => ?_
  have hj6 : Z13_j6   = Kj6 () := by
   refine Eq.trans ?_ (hKj6 _).symm
   unfold Z13_j6
   all_goals rfl
  all_goals exact hj6
 intro e9
 refine Eq.trans ?_ (hKb9 _).symm
 try dsimp only
 all_goals rfl
end Go.Proofs

namespace Go.Proofs
open Go Go.Ab
set_option maxRecDepth 100000 in
theorem awake17 : Z11 = some true := by kernel_rfl
theorem pick_none : ∀ (l : List TOp) (n : Nat), Z13_q9 [] l n = Sum.inl ()
 | [], _ => rfl
 | h :: r, n => by rw [Z13_q9]; exact pick_none r (n + 1)
theorem pick_some {a : Bs} (ha : (a == ([] : Bs)) = false) : ∀ (l : List TOp) (n : Nat), Z13_q9 a l n = Z37_q15 a l n
 | [], _ => rfl
 | h :: r, n => by
  rw [Z13_q9, Z37_q15, ha, pick_some ha r (n + 1)]
  rfl
theorem pick_eq (q : TQuery) (a : Bs) : Z37_q q a = Z13_q q a := by
 unfold Z37_q Z13_q
 cases ha : a == ([] : Bs)
 ·simp only [Bool.false_and, cond_false, Ab.on, pick_some ha]
  all_goals (cases Z37_q15 a q.FOps.l 0 <;> rfl)
 ·have e : a = [] := by simpa using ha
  subst e
  rw [pick_none]
  all_goals (cases decide (((q.FOps.l.length : Nat) : Int) = (1 : Int)) <;> rfl)
theorem validatePick_eq (q : TQuery) (a : Bs) : Z10 q a = some true := by
 unfold Z10
 rw [Z37_eq, Z13_eq, pick_eq, awake17]
 simp only [Option.bind_some, decide_true, Bool.and_self, guardO, if_true]
end Go.Proofs

namespace Go.Proofs.YtidaliegaojliaaGreatDoor
open Go Go.Ab Go.RowKit Go.ChangeShapes Go.WideShapes Go.ChangeAt
theorem bulkAll {H : Type} (l : List (DataW H)) : Rows.uptoBulkAll l = (l.map Rows.uptoBulk).sum := by
 induction l with
 | nil => rfl
 | cons x r ih => simp only [Rows.uptoBulkAll, List.map_cons, List.sum_cons, ih]
theorem bulkB {H : Type} : Bulk (H := H) Rows.uptoBulk := by
 refine ⟨fun d => ?_, fun b => by simp [Rows.uptoBulk], fun e s => by simp only [Rows.uptoBulk, bulkAll]; omega, fun l => by simp only [Rows.uptoBulk, bulkAll]; omega⟩
 cases d with
 | lit l => cases l <;> simp [Rows.uptoBulk]
 | nil => simp [Rows.uptoBulk]
 | ptr d => simp [Rows.uptoBulk]
 | slice elems spare => simp [Rows.uptoBulk]
 | agg parts => simp [Rows.uptoBulk]
 | iface t d => simp [Rows.uptoBulk]
 | map entries => simp [Rows.uptoBulk]
 | held h => simp [Rows.uptoBulk]
theorem own : ownKnob Tryz.prog.godebug = none := by kernel_rfl
theorem laid : laidOutB Tryz.prog = true := by kernel_rfl
theorem bound {H : Type} {l : List (DataW H)} (hk : Rows.uptoSmall H l = true) : Rows.uptoBulkAll l ≤ 1048576 := of_decide_eq_true hk
theorem validatePick_call (q : TQuery) (a : Bs) (H : Heap) : ACalls Tryz.prog 4 [.agg q.c, .d (.str a)] H fun r h' => r = .a (.d (.bool true)) ∧ h' = H :=
 Z10_walk (validatePick_eq q a) H
end Go.Proofs.YtidaliegaojliaaGreatDoor

