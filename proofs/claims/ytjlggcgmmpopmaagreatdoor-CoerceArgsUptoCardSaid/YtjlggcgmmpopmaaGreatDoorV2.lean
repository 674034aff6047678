import Derived.Test.YtjlggcgmmpopmaaGreatDoorV1
set_option maxRecDepth 100000
set_option maxHeartbeats 2000000
set_option linter.unusedVariables false
set_option linter.unusedSimpArgs false
namespace Go.Proofs
open Go Go.Ab
open AOps Cert AWp
def Z43_j4  (s5_5 : Int) : Option Int := some s5_5
def Z43_j15 (s6_10 : Nat) (k_next_8 : Int → Nat → Option Int) (s5_16 : Int) : Option Int := k_next_8 s5_16 (s6_10 + 1)
def Z43_l28 (a1 : Int) (s6_10 : Nat) (x18 : TDef) (k_next_8 : Int → Nat → Option Int) : Nat → Int → Nat → Option Int
 | 0, _, _ => none
 | n28 + 1, s5_29, s9_30 => bif ((decide (((s9_30 : Nat) : Int) < ((x18.FMembers.l.length : Nat) : Int))) && (decide (s5_29 ≤ a1))) then ((addC s5_29 (1 : Int)).bind fun x36 => (x18.FMembers.l[s9_30]?).bind fun x37 => (Z51 x37.FDirs a1).bind fun x38 => (addC x36 x38).bind fun x39 => (Z43_l28 a1 s6_10 x18 k_next_8 n28) x39 (s9_30 + 1)) else (Z43_j15 s6_10 k_next_8 s5_29)
def Z43_j25 (a1 : Int) (s6_10 : Nat) (x18 : TDef) (k_next_8 : Int → Nat → Option Int) (s5_26 : Int) : Option Int := Z43_l28 a1 s6_10 x18 k_next_8 (x18.FMembers.l.length + 1) s5_26 0
def Z43_l41 (a1 : Int) (s6_10 : Nat) (x18 : TDef) (k_next_8 : Int → Nat → Option Int) : Nat → Int → Nat → Option Int
 | 0, _, _ => none
 | n41 + 1, s5_42, s8_43 => bif ((decide (((s8_43 : Nat) : Int) < ((x18.FFields.l.length : Nat) : Int))) && (decide (s5_42 ≤ a1))) then ((addC s5_42 (1 : Int)).bind fun x49 => (x18.FFields.l[s8_43]?).bind fun x50 => (addC x49 ((x50.FType.FWraps.l.length : Nat) : Int)).bind fun x51 => (x18.FFields.l[s8_43]?).bind fun x52 => (Z52 x52.FArgs a1).bind fun x53 => (addC x51 x53).bind fun x54 => (x18.FFields.l[s8_43]?).bind fun x55 => (Z51 x55.FDirs a1).bind fun x56 => (addC x54 x56).bind fun x57 => (Z43_l41 a1 s6_10 x18 k_next_8 n41) x57 (s8_43 + 1)) else (Z43_j25 a1 s6_10 x18 k_next_8 s5_42)
def Z43_l8 (a0 : TDoc) (a1 : Int)  : Nat → Int → Nat → Option Int
 | 0, _, _ => none
 | n8 + 1, s5_9, s6_10 => bif ((decide (((s6_10 : Nat) : Int) < ((a0.FDefs.l.length : Nat) : Int))) && (decide (s5_9 ≤ a1))) then ((a0.FDefs.l[s6_10]?).bind fun x18 => (addC s5_9 ((x18.FImplements.l.length : Nat) : Int)).bind fun x20 => (Z51 x18.FDirs a1).bind fun x21 => (addC x20 x21).bind fun x22 => (Z52 x18.FInputs a1).bind fun x23 => (addC x22 x23).bind fun x24 => Z43_l41 a1 s6_10 x18 ((Z43_l8 a0 a1 n8)) (x18.FFields.l.length + 1) x24 0) else (Z43_j4   s5_9)
def Z43 (a0 : TDoc) (a1 : Int) : Option Int := Z43_l8 a0 a1 (a0.FDefs.l.length + 1) ((a0.FDefs.l.length : Nat) : Int) 0
theorem Z43_walk {a0 : TDoc} {a1 : Int}   {r : Int} (hE : Z43 a0 a1 = some r) (H : Heap)  : ACalls Tryz.prog 22 [.agg (TDoc.c a0), .d (.int .i64 a1)] H fun v h' => v = .a (.d (.int .i64 r)) ∧ h' = H := by
 unfold Z43 at hE
 refine ACalls.of_wp (fn := Tryz.f22) (c := _) Tryz.tab_ok (fun _ _ => Tryz.call22 _ _) Tryz.func22 rfl (n := 110) rfl (rs := [.tmp 4]) rfl rfl ?_
 refine seqK fun K1 hK1 => ?_
 refine region ?_
 refine s0 (boxV rfl) rfl ?_
 refine s0 assignA rfl ?_
 refine nil ?_
 refine hK1 _ ?_
 clear hK1 K1
 refine seqK fun K2 hK2 => ?_
 refine region ?_
 refine s0 (fieldVA (TK rfl) rfl rfl (TK rfl) rfl rfl) rfl ?_
 refine s0 (loadV (TK rfl) rfl rfl rfl) rfl ?_
 refine sLen (f := TDef.c) (s := a0.FDefs) (TK rfl) rfl rfl rfl rfl fun hL3 => ?_
 refine s0 assignA rfl ?_
 refine nil ?_
 refine hK2 _ ?_
 clear hK2 K2
 refine seqJH KeepsT.nil (fun (z : Int) => [(5, .a (.d (.int .i64 z)))]) (fun z => H) (fun z => Z43_j4 z = some r) ?_ ?_
 ·intro K4 hK4
  refine seqK fun K7 hK7 => ?_
  refine region ?_
  refine s0 assignA rfl ?_
  refine nil ?_
  refine hK7 _ ?_
  clear hK7 K7
  refine block ?_
  refine loopH (KeepsT.A (k := 1) (KeepsT.A (k := 2) KeepsT.nil)) (fun (z : Nat × Int × Nat) => [(5, .a (.d (.int .i64 z.2.1))), (6, .a (.d (.int .i64 ((z.2.2 : Nat) : Int))))]) (fun z => H) (fun z => z.1) (fun z => Z43_l8 a0 a1 z.1 z.2.1 z.2.2 = some r) ((a0.FDefs.l.length + 1), ((a0.FDefs.l.length : Nat) : Int), 0) hE Weak.toA ?_
  rintro ⟨n8, s5_9, s6_10⟩ hE K8 hK8
  try dsimp only at hE
  cases n8 with
  | zero => cases hE
  | succ n8 =>
    rw [Z43_l8] at hE
    refine seqK fun K11 hK11 => ?_
    refine seqK fun K12 hK12 => ?_
    refine region ?_
    refine s0 moveA rfl ?_
    refine s0 (fieldVA (TK rfl) rfl rfl (TK rfl) rfl rfl) rfl ?_
    refine s0 (loadV (TK rfl) rfl rfl rfl) rfl ?_
    refine sLen (f := TDef.c) (s := a0.FDefs) (TK rfl) rfl rfl rfl rfl fun hL13 => ?_
    refine s0 (binI rfl rfl rfl) rfl ?_
    refine s0 moveA rfl ?_
    refine gC rfl rfl (fun hC => moveA) rfl ?_
    refine gC rfl rfl (fun hC => moveA) rfl ?_
    refine gC rfl rfl (fun hC => ungdA (k := 19) rfl (ungdA (k := 20) rfl (binI rfl rfl rfl))) rfl ?_
    refine s0 (pickAndA rfl rfl rfl) rfl ?_
    refine nil ?_
    refine hK12 _ ?_
    clear hK12 K12
    refine condE hE rfl (fun hc14 hE => ?_) (fun hc14 hE => ?_)
    ·try dsimp only at hc14
     have hf14 := of_decide_eq_true (and_left hc14)
     refine AWp.skip ?_
     refine hK11 _ ?_
     clear hK11 K11
     refine seqJH (KeepsT.A (k := 1) (KeepsT.A (k := 2) (KeepsT.A (k := 6) KeepsT.nil))) (fun (z : Int) => [(5, .a (.d (.int .i64 z)))]) (fun z => H) (fun z => Z43_j15 s6_10 ((Z43_l8 a0 a1 n8)) z = some r) ?_ ?_
     ·intro K15 hK15
      refine block ?_
      refine seqK fun K17 hK17 => ?_
      refine region ?_
      refine s0 (fieldVA (TK rfl) rfl rfl (TK rfl) rfl rfl) rfl ?_
      refine s0 (loadV (TK rfl) rfl rfl rfl) rfl ?_
      refine s0 moveA rfl ?_
      obtain ⟨x18, gx18, hE⟩ := bindO_some hE
      refine s0 (idxMn (f := TDef.c) (n := s6_10) (TK rfl) rfl (TK rfl) rfl rfl rfl gx18) rfl ?_
      refine s0 (loadV (TK rfl) rfl rfl rfl) rfl ?_
      refine sL (allocLA (TK rfl) rfl) rfl ?_
      refine sLn (storeLFA (TK rfl) rfl rfl rfl rfl rfl) ?_
      refine nil ?_
      refine hK17 _ ?_
      clear hK17 K17
      refine freezeA 7 _ rfl (Keeps.c (k := 1) (by conv => lhs; whnf) (by rfl) (Keeps.c (k := 2) (by conv => lhs; whnf) (by rfl) (Keeps.c (k := 5) (by conv => lhs; whnf) (by rfl) (Keeps.c (k := 6) (by conv => lhs; whnf) (by rfl) Keeps.nil)))) ?_
      refine seqK fun K19 hK19 => ?_
      refine AWp.draw rfl ?_
      refine DOps.s0 moveA rfl ?_
      refine DOps.s0 (fieldVA (TK rfl) rfl rfl (TK rfl) rfl rfl) rfl ?_
      refine DOps.s0 (loadV (TK rfl) rfl rfl rfl) rfl ?_
      refine DOps.s0 (lenM' (f := strE) (s := x18.FImplements) (TK rfl) rfl rfl rfl) rfl ?_
      obtain ⟨x20, gx20, hE⟩ := bindO_some hE
      refine DOps.s0 (addM rfl rfl gx20) rfl ?_
      refine DOps.s0 (fieldVA (TK rfl) rfl rfl (TK rfl) rfl rfl) rfl ?_
      refine DOps.s0 (loadV (TK rfl) rfl rfl rfl) rfl ?_
      refine DOps.s0 moveA rfl ?_
      obtain ⟨x21, gx21, hE⟩ := bindO_some hE
      refine DOps.s0 (callP rfl rfl (fun H => Z51_walk gx21 H)) rfl ?_
      obtain ⟨x22, gx22, hE⟩ := bindO_some hE
      refine DOps.s0 (addM rfl rfl gx22) rfl ?_
      refine DOps.s0 (fieldVA (TK rfl) rfl rfl (TK rfl) rfl rfl) rfl ?_
      refine DOps.s0 (loadV (TK rfl) rfl rfl rfl) rfl ?_
      refine DOps.s0 moveA rfl ?_
      obtain ⟨x23, gx23, hE⟩ := bindO_some hE
      refine DOps.s0 (callP rfl rfl (fun H => Z52_walk gx23 H)) rfl ?_
      obtain ⟨x24, gx24, hE⟩ := bindO_some hE
      refine DOps.s0 (addM rfl rfl gx24) rfl ?_
      refine DOps.s0 assignA rfl ?_
      refine DOps.nil (by decide +kernel) ?_
      refine hK19 _ ?_
      clear hK19 K19
      refine seqJH (KeepsT.A (k := 1) (KeepsT.A (k := 2) (KeepsT.A (k := 6) (KeepsT.A (k := 7) KeepsT.nil)))) (fun (z : Int) => [(5, .a (.d (.int .i64 z)))]) (fun z => H) (fun z => Z43_j25 a1 s6_10 x18 ((Z43_l8 a0 a1 n8)) z = some r) ?_ ?_
      ·intro K25 hK25
       refine seqK fun K40 hK40 => ?_
       refine region ?_
       refine s0 assignA rfl ?_
       refine nil ?_
       refine hK40 _ ?_
       clear hK40 K40
       refine block ?_
       refine loopH (KeepsT.A (k := 1) (KeepsT.A (k := 2) (KeepsT.A (k := 6) (KeepsT.A (k := 7) KeepsT.nil)))) (fun (z : Nat × Int × Nat) => [(5, .a (.d (.int .i64 z.2.1))), (8, .a (.d (.int .i64 ((z.2.2 : Nat) : Int))))]) (fun z => H) (fun z => z.1) (fun z => Z43_l41 a1 s6_10 x18 ((Z43_l8 a0 a1 n8)) z.1 z.2.1 z.2.2 = some r) ((x18.FFields.l.length + 1), x24, 0) hE Weak.toA ?_
       rintro ⟨n41, s5_42, s8_43⟩ hE K41 hK41
       try dsimp only at hE
       cases n41 with
       | zero => cases hE
       | succ n41 =>
         rw [Z43_l41] at hE
         refine seqK fun K44 hK44 => ?_
         refine seqK fun K45 hK45 => ?_
         refine region ?_
         refine s0 moveA rfl ?_
         refine s0 (fieldVA (TK rfl) rfl rfl (TK rfl) rfl rfl) rfl ?_
         refine s0 (loadV (TK rfl) rfl rfl rfl) rfl ?_
         refine sLen (f := TField.c) (s := x18.FFields) (TK rfl) rfl rfl rfl rfl fun hL46 => ?_
         refine s0 (binI rfl rfl rfl) rfl ?_
         refine s0 moveA rfl ?_
         refine gC rfl rfl (fun hC => moveA) rfl ?_
         refine gC rfl rfl (fun hC => moveA) rfl ?_
         refine gC rfl rfl (fun hC => ungdA (k := 51) rfl (ungdA (k := 52) rfl (binI rfl rfl rfl))) rfl ?_
         refine s0 (pickAndA rfl rfl rfl) rfl ?_
         refine nil ?_
         refine hK45 _ ?_
         clear hK45 K45
         refine condE hE rfl (fun hc47 hE => ?_) (fun hc47 hE => ?_)
         ·try dsimp only at hc47
          have hf47 := of_decide_eq_true (and_left hc47)
          refine AWp.skip ?_
          refine hK44 _ ?_
          clear hK44 K44
          refine seqK fun K48 hK48 => ?_
          refine block ?_
          refine AWp.draw rfl ?_
          refine DOps.s0 moveA rfl ?_
          obtain ⟨x49, gx49, hE⟩ := bindO_some hE
          refine DOps.s0 (addM rfl rfl gx49) rfl ?_
          refine DOps.s0 (fieldVA (TK rfl) rfl rfl (TK rfl) rfl rfl) rfl ?_
          refine DOps.s0 (loadV (TK rfl) rfl rfl rfl) rfl ?_
          refine DOps.s0 moveA rfl ?_
          obtain ⟨x50, gx50, hE⟩ := bindO_some hE
          refine DOps.s0 (idxMn (f := TField.c) (n := s8_43) (TK rfl) rfl (TK rfl) rfl rfl rfl gx50) rfl ?_
          refine DOps.s0 (fieldVA (TK rfl) rfl rfl (TK rfl) rfl rfl) rfl ?_
          refine DOps.s0 (fieldVA (TK rfl) rfl rfl (TK rfl) rfl rfl) rfl ?_
          refine DOps.s0 (loadV (TK rfl) rfl rfl rfl) rfl ?_
          refine DOps.s0 (lenM' (f := (intE .i64)) (s := x50.FType.FWraps) (TK rfl) rfl rfl rfl) rfl ?_
          obtain ⟨x51, gx51, hE⟩ := bindO_some hE
          refine DOps.s0 (addM rfl rfl gx51) rfl ?_
          refine DOps.s0 (fieldVA (TK rfl) rfl rfl (TK rfl) rfl rfl) rfl ?_
          refine DOps.s0 (loadV (TK rfl) rfl rfl rfl) rfl ?_
          refine DOps.s0 moveA rfl ?_
          obtain ⟨x52, gx52, hE⟩ := bindO_some hE
          refine DOps.s0 (idxMn (f := TField.c) (n := s8_43) (TK rfl) rfl (TK rfl) rfl rfl rfl gx52) rfl ?_
          refine DOps.s0 (fieldVA (TK rfl) rfl rfl (TK rfl) rfl rfl) rfl ?_
          refine DOps.s0 (loadV (TK rfl) rfl rfl rfl) rfl ?_
          refine DOps.s0 moveA rfl ?_
          obtain ⟨x53, gx53, hE⟩ := bindO_some hE
          refine DOps.s0 (callP rfl rfl (fun H => Z52_walk gx53 H)) rfl ?_
          obtain ⟨x54, gx54, hE⟩ := bindO_some hE
          refine DOps.s0 (addM rfl rfl gx54) rfl ?_
          refine DOps.s0 (fieldVA (TK rfl) rfl rfl (TK rfl) rfl rfl) rfl ?_
          refine DOps.s0 (loadV (TK rfl) rfl rfl rfl) rfl ?_
          refine DOps.s0 moveA rfl ?_
          obtain ⟨x55, gx55, hE⟩ := bindO_some hE
          refine DOps.s0 (idxMn (f := TField.c) (n := s8_43) (TK rfl) rfl (TK rfl) rfl rfl rfl gx55) rfl ?_
          refine DOps.s0 (fieldVA (TK rfl) rfl rfl (TK rfl) rfl rfl) rfl ?_
          refine DOps.s0 (loadV (TK rfl) rfl rfl rfl) rfl ?_
          refine DOps.s0 moveA rfl ?_
          obtain ⟨x56, gx56, hE⟩ := bindO_some hE
          refine DOps.s0 (callP rfl rfl (fun H => Z51_walk gx56 H)) rfl ?_
          obtain ⟨x57, gx57, hE⟩ := bindO_some hE
          refine DOps.s0 (addM rfl rfl gx57) rfl ?_
          refine DOps.s0 assignA rfl ?_
          refine DOps.nil (by decide +kernel) ?_
          refine hK48 _ ?_
          clear hK48 K48
          refine region ?_
          refine s0 moveA rfl ?_
          refine s0 (addIA rfl rfl) rfl ?_
          refine s0 assignA rfl ?_
          refine nil ?_
          exact hK41 _ (n41, x57, (s8_43 + 1)) Weak.toA hE (Nat.lt_succ_self _)
         refine AWp.exit ?_
         exact hK25 _ s5_42 Weak.toA hE
      rintro s5_26 hE
      try dsimp only at hE
      unfold Z43_j25 at hE
      refine seqK fun K27 hK27 => ?_
      refine region ?_
      refine s0 assignA rfl ?_
      refine nil ?_
      refine hK27 _ ?_
      clear hK27 K27
      refine block ?_
      refine loopH (KeepsT.A (k := 1) (KeepsT.A (k := 2) (KeepsT.A (k := 6) (KeepsT.A (k := 7) KeepsT.nil)))) (fun (z : Nat × Int × Nat) => [(5, .a (.d (.int .i64 z.2.1))), (9, .a (.d (.int .i64 ((z.2.2 : Nat) : Int))))]) (fun z => H) (fun z => z.1) (fun z => Z43_l28 a1 s6_10 x18 ((Z43_l8 a0 a1 n8)) z.1 z.2.1 z.2.2 = some r) ((x18.FMembers.l.length + 1), s5_26, 0) hE Weak.toA ?_
      rintro ⟨n28, s5_29, s9_30⟩ hE K28 hK28
      try dsimp only at hE
      cases n28 with
      | zero => cases hE
      | succ n28 =>
        rw [Z43_l28] at hE
        refine seqK fun K31 hK31 => ?_
        refine seqK fun K32 hK32 => ?_
        refine region ?_
        refine s0 moveA rfl ?_
        refine s0 (fieldVA (TK rfl) rfl rfl (TK rfl) rfl rfl) rfl ?_
        refine s0 (loadV (TK rfl) rfl rfl rfl) rfl ?_
        refine sLen (f := TMember.c) (s := x18.FMembers) (TK rfl) rfl rfl rfl rfl fun hL33 => ?_
        refine s0 (binI rfl rfl rfl) rfl ?_
        refine s0 moveA rfl ?_
        refine gC rfl rfl (fun hC => moveA) rfl ?_
        refine gC rfl rfl (fun hC => moveA) rfl ?_
        refine gC rfl rfl (fun hC => ungdA (k := 92) rfl (ungdA (k := 93) rfl (binI rfl rfl rfl))) rfl ?_
        refine s0 (pickAndA rfl rfl rfl) rfl ?_
        refine nil ?_
        refine hK32 _ ?_
        clear hK32 K32
        refine condE hE rfl (fun hc34 hE => ?_) (fun hc34 hE => ?_)
        ·try dsimp only at hc34
         have hf34 := of_decide_eq_true (and_left hc34)
         refine AWp.skip ?_
         refine hK31 _ ?_
         clear hK31 K31
         refine seqK fun K35 hK35 => ?_
         refine block ?_
         refine region ?_
         refine s0 moveA rfl ?_
         obtain ⟨x36, gx36, hE⟩ := bindO_some hE
         refine s0 (addM rfl rfl gx36) rfl ?_
         refine s0 (fieldVA (TK rfl) rfl rfl (TK rfl) rfl rfl) rfl ?_
         refine s0 (loadV (TK rfl) rfl rfl rfl) rfl ?_
         refine s0 moveA rfl ?_
         obtain ⟨x37, gx37, hE⟩ := bindO_some hE
         refine s0 (idxMn (f := TMember.c) (n := s9_30) (TK rfl) rfl (TK rfl) rfl rfl rfl gx37) rfl ?_
         refine s0 (fieldVA (TK rfl) rfl rfl (TK rfl) rfl rfl) rfl ?_
         refine s0 (loadV (TK rfl) rfl rfl rfl) rfl ?_
         refine s0 moveA rfl ?_
         obtain ⟨x38, gx38, hE⟩ := bindO_some hE
         refine s0 (callP rfl rfl (fun H => Z51_walk gx38 H)) rfl ?_
         obtain ⟨x39, gx39, hE⟩ := bindO_some hE
         refine s0 (addM rfl rfl gx39) rfl ?_
         refine s0 assignA rfl ?_
         refine nil ?_
         refine hK35 _ ?_
         clear hK35 K35
         refine region ?_
         refine s0 moveA rfl ?_
         refine s0 (addIA rfl rfl) rfl ?_
         refine s0 assignA rfl ?_
         refine nil ?_
         exact hK28 _ (n28, x39, (s9_30 + 1)) Weak.toA hE (Nat.lt_succ_self _)
        refine AWp.exit ?_
        exact hK15 _ s5_29 Weak.toA hE
     rintro s5_16 hE
     try dsimp only at hE
     unfold Z43_j15 at hE
     refine region ?_
     refine s0 moveA rfl ?_
     refine s0 (addIA rfl rfl) rfl ?_
     refine s0 assignA rfl ?_
     refine nil ?_
     exact hK8 _ (n8, s5_16, (s6_10 + 1)) Weak.toA hE (Nat.lt_succ_self _)
    refine AWp.exit ?_
    exact hK4 _ s5_9 Weak.toA hE
 rintro s5_5 hE
 try dsimp only at hE
 unfold Z43_j4 at hE
 refine seqK fun K6 hK6 => ?_
 refine region ?_
 refine s0 moveA rfl ?_
 refine s0 assignA rfl ?_
 refine nil ?_
 refine hK6 _ ?_
 clear hK6 K6
 refine AWp.ret ?_
 repeat (first | refine xBlock_ret ?_ | refine xThen_ret ?_)
 obtain rfl := Option.some.inj hE
 refine retQ.retF H rfl ⟨rfl, rfl⟩ ?_
 exact (fun _ _ h => h)
def Z44_j2 (a0 : TValue)   : Option Bool := some (!decide (a0.FKind = (7 : Int)))
def Z44_l5 (a0 : TValue) (k_rec_106 : TValue → Option Bool) : Nat → Nat → Option Bool
 | 0, _ => none
 | n5 + 1, s3_6 => bif (decide (((s3_6 : Nat) : Int) < ((a0.FItems.l.length : Nat) : Int))) then ((a0.FItems.l[s3_6]?).bind fun x13 => (k_rec_106 x13).bind fun x14 => bif (!x14) then (some false) else ((Z44_l5 a0 k_rec_106 n5) (s3_6 + 1))) else (Z44_j2 a0  )
def Z44_n : Nat → TValue → Option Bool
 | 0, _ => none
 | n + 1, a0 => Z44_l5 a0 (Z44_n n) (a0.FItems.l.length + 1) 0
theorem Z44_step (n : Nat) (ih_106 : ∀ {a0 : TValue}   {r : Bool}, Z44_n n a0 = some r → ∀ (H : Heap), ACalls Tryz.prog 106 [.agg (TValue.c a0)] H fun v h' => v = .a (.d (.bool r)) ∧ h' = H) : ∀ {a0 : TValue}   {r : Bool}, Z44_n (n + 1) a0 = some r → ∀ (H : Heap), ACalls Tryz.prog 106 [.agg (TValue.c a0)] H fun v h' => v = .a (.d (.bool r)) ∧ h' = H := by
 intro a0   r hE H 
 rw [Z44_n] at hE
 refine ACalls.of_wp (fn := Tryz.f106) (c := _) Tryz.tab_ok (fun _ _ => Tryz.call106 _ _) Tryz.func106 rfl (n := 21) rfl (rs := [.tmp 2]) rfl rfl ?_
 refine seqK fun K1 hK1 => ?_
 refine region ?_
 refine s0 (boxV rfl) rfl ?_
 refine s0 assignA rfl ?_
 refine nil ?_
 refine hK1 _ ?_
 clear hK1 K1
 refine seqJH (KeepsT.A (k := 1) KeepsT.nil) (fun (z : Unit) => []) (fun z => H) (fun z => Z44_j2 a0  = some r) ?_ ?_
 ·intro K2 hK2
  refine seqK fun K4 hK4 => ?_
  refine region ?_
  refine s0 assignA rfl ?_
  refine nil ?_
  refine hK4 _ ?_
  clear hK4 K4
  refine block ?_
  refine loopH (KeepsT.A (k := 1) KeepsT.nil) (fun (z : Nat × Nat) => [(3, .a (.d (.int .i64 ((z.2 : Nat) : Int))))]) (fun z => H) (fun z => z.1) (fun z => Z44_l5 a0 (Z44_n n) z.1 z.2 = some r) ((a0.FItems.l.length + 1), 0) hE Weak.toA ?_
  rintro ⟨n5, s3_6⟩ hE K5 hK5
  try dsimp only at hE
  cases n5 with
  | zero => cases hE
  | succ n5 =>
    rw [Z44_l5] at hE
    refine seqK fun K7 hK7 => ?_
    refine seqK fun K8 hK8 => ?_
    refine region ?_
    refine s0 moveA rfl ?_
    refine s0 (fieldVA (TK rfl) rfl rfl (TK rfl) rfl rfl) rfl ?_
    refine s0 (loadV (TK rfl) rfl rfl (congrArg (fun x => some (A.d x)) (TValue.FItemsD_eq _))) rfl ?_
    refine sLen (f := TValue.c) (s := a0.FItems) (TK rfl) rfl rfl rfl rfl fun hL9 => ?_
    refine s0 (binI rfl rfl rfl) rfl ?_
    refine nil ?_
    refine hK8 _ ?_
    clear hK8 K8
    refine condE hE rfl (fun hc10 hE => ?_) (fun hc10 hE => ?_)
    ·try dsimp only at hc10
     have hf10 := of_decide_eq_true hc10
     refine AWp.skip ?_
     refine hK7 _ ?_
     clear hK7 K7
     refine seqK fun K11 hK11 => ?_
     refine block ?_
     refine seqK fun K12 hK12 => ?_
     refine region ?_
     refine s0 (fieldVA (TK rfl) rfl rfl (TK rfl) rfl rfl) rfl ?_
     refine s0 (loadV (TK rfl) rfl rfl (congrArg (fun x => some (A.d x)) (TValue.FItemsD_eq _))) rfl ?_
     refine s0 moveA rfl ?_
     obtain ⟨x13, gx13, hE⟩ := bindO_some hE
     refine s0 (idxMn (f := TValue.c) (n := s3_6) (TK rfl) rfl (TK rfl) rfl rfl rfl gx13) rfl ?_
     refine s0 (loadV (TK rfl) rfl rfl rfl) rfl ?_
     obtain ⟨x14, gx14, hE⟩ := bindO_some hE
     refine s0 (callP rfl rfl (fun H => ih_106 gx14 H)) rfl ?_
     refine s0 (notB rfl) rfl ?_
     refine nil ?_
     refine hK12 _ ?_
     clear hK12 K12
     refine condE hE rfl (fun hc15 hE => ?_) (fun hc15 hE => ?_)
     ·refine seqK fun K16 hK16 => ?_
      refine region ?_
      refine s0 assignA rfl ?_
      refine nil ?_
      refine hK16 _ ?_
      clear hK16 K16
      refine AWp.ret ?_
      repeat (first | refine xBlock_ret ?_ | refine xThen_ret ?_)
      obtain rfl := Option.some.inj hE
      refine retQ.retF H rfl ⟨rfl, rfl⟩ ?_
      exact (fun _ _ h => h)
     refine AWp.skip ?_
     refine hK11 _ ?_
     clear hK11 K11
     refine region ?_
     refine s0 moveA rfl ?_
     refine s0 (addIA rfl rfl) rfl ?_
     refine s0 assignA rfl ?_
     refine nil ?_
     exact hK5 _ (n5, (s3_6 + 1)) Weak.toA hE (Nat.lt_succ_self _)
    refine AWp.exit ?_
    exact hK2 _ () Weak.toA hE
 rintro _ hE
 try dsimp only at hE
 unfold Z44_j2 at hE
 refine seqK fun K3 hK3 => ?_
 refine region ?_
 refine s0 (fieldVA (TK rfl) rfl rfl (TK rfl) rfl rfl) rfl ?_
 refine s0 (loadV (TK rfl) rfl rfl rfl) rfl ?_
 refine s0 (binI rfl rfl rfl) rfl ?_
 refine s0 assignA rfl ?_
 refine nil ?_
 refine hK3 _ ?_
 clear hK3 K3
 refine AWp.ret ?_
 repeat (first | refine xBlock_ret ?_ | refine xThen_ret ?_)
 obtain rfl := Option.some.inj hE
 refine retQ.retF H rfl ⟨rfl, rfl⟩ ?_
 exact (fun _ _ h => h)
theorem Z44_all : ∀ (n : Nat), (∀ {a0 : TValue}   {r : Bool}, Z44_n n a0 = some r → ∀ (H : Heap), ACalls Tryz.prog 106 [.agg (TValue.c a0)] H fun v h' => v = .a (.d (.bool r)) ∧ h' = H)
 | 0 => fun hE => by first | cases hE | (rw [Z44_n] at hE; cases hE)
 | n + 1 => Z44_step n (Z44_all n)
def Z44 (a0 : TValue) : Option Bool := Z44_n F0 a0
theorem Z44_walk {a0 : TValue}   {r : Bool} (hE : Z44 a0 = some r) (H : Heap)  : ACalls Tryz.prog 106 [.agg (TValue.c a0)] H fun v h' => v = .a (.d (.bool r)) ∧ h' = H := (Z44_all F0) hE H 
def Z46_j7   : Option Bool := some true
def Z46_j16 (s3_11 : Nat) (k_next_10 : Nat → Option Bool)  : Option Bool := k_next_10 (s3_11 + 1)
def Z46_l25 (a0 : (Sl TDir)) (s3_11 : Nat) (k_next_10 : Nat → Option Bool) : Nat → Nat → Option Bool
 | 0, _ => none
 | n25 + 1, s4_26 => (a0.l[s3_11]?).bind fun x29 => bif (decide (((s4_26 : Nat) : Int) < ((x29.FArgs.l.length : Nat) : Int))) then ((a0.l[s3_11]?).bind fun x34 => (x34.FArgs.l[s4_26]?).bind fun x35 => (Z21 x35.FName).bind fun x37 => guardO (!(!x37)) (Z27 x35.FValue) false fun x38 => guardO (!((!x37) || (!x38))) (Z44 x35.FValue) false fun x39 => bif (((!x37) || (!x38)) || (!x39)) then (some false) else ((Z46_l25 a0 s3_11 k_next_10 n25) (s4_26 + 1))) else (Z46_j16 s3_11 k_next_10 )
def Z46_l10 (a0 : (Sl TDir))  : Nat → Nat → Option Bool
 | 0, _ => none
 | n10 + 1, s3_11 => bif (decide (((s3_11 : Nat) : Int) < ((a0.l.length : Nat) : Int))) then ((a0.l[s3_11]?).bind fun x19 => (Z21 x19.FName).bind fun x20 => guardO (!(!x20)) (a0.l[s3_11]?) TDir.zero fun x21 => bif ((!x20) || (decide ((16 : Int) < ((x21.FArgs.l.length : Nat) : Int)))) then (some false) else (Z46_l25 a0 s3_11 ((Z46_l10 a0 n10)) (Option.elim (a0.l[s3_11]?) 1 (fun x29 => x29.FArgs.l.length + 1)) 0)) else (Z46_j7   )
def Z46 (a0 : (Sl TDir)) : Option Bool := bif (decide ((16 : Int) < ((a0.l.length : Nat) : Int))) then (some false) else (Z46_l10 a0 (a0.l.length + 1) 0)
theorem Z46_walk {a0 : (Sl TDir)} {w0 : Option Nat}  {r : Bool} (hE : Z46 a0 = some r) (H : Heap)  : ACalls Tryz.prog 76 [.d (Sl.d 2 TDir.c w0 a0)] H fun v h' => v = .a (.d (.bool r)) ∧ h' = H := by
 unfold Z46 at hE
 refine ACalls.of_wp (fn := Tryz.f76) (c := _) Tryz.tab_ok (fun _ _ => Tryz.call76 _ _) Tryz.func76 rfl (n := 65) rfl (rs := [.tmp 2]) rfl rfl ?_
 refine seqK fun K1 hK1 => ?_
 refine region ?_
 refine s0 assignA rfl ?_
 refine nil ?_
 refine hK1 _ ?_
 clear hK1 K1
 refine seqK fun K2 hK2 => ?_
 refine seqK fun K3 hK3 => ?_
 refine region ?_
 refine s0 moveA rfl ?_
 refine sLen (f := TDir.c) (s := a0) (TK rfl) rfl rfl rfl rfl fun hL4 => ?_
 refine s0 (binI rfl rfl rfl) rfl ?_
 refine nil ?_
 refine hK3 _ ?_
 clear hK3 K3
 refine condE hE rfl (fun hc5 hE => ?_) (fun hc5 hE => ?_)
 ·refine seqK fun K6 hK6 => ?_
  refine region ?_
  refine s0 assignA rfl ?_
  refine nil ?_
  refine hK6 _ ?_
  clear hK6 K6
  refine AWp.ret ?_
  repeat (first | refine xBlock_ret ?_ | refine xThen_ret ?_)
  obtain rfl := Option.some.inj hE
  refine retQ.retF H rfl ⟨rfl, rfl⟩ ?_
  exact (fun _ _ h => h)
 refine AWp.skip ?_
 refine hK2 _ ?_
 clear hK2 K2
 refine seqJH KeepsT.nil (fun (z : Unit) => []) (fun z => H) (fun z => Z46_j7  = some r) ?_ ?_
 ·intro K7 hK7
  refine seqK fun K9 hK9 => ?_
  refine region ?_
  refine s0 assignA rfl ?_
  refine nil ?_
  refine hK9 _ ?_
  clear hK9 K9
  refine block ?_
  refine loopH (KeepsT.A (k := 0) KeepsT.nil) (fun (z : Nat × Nat) => [(3, .a (.d (.int .i64 ((z.2 : Nat) : Int))))]) (fun z => H) (fun z => z.1) (fun z => Z46_l10 a0 z.1 z.2 = some r) ((a0.l.length + 1), 0) hE Weak.toA ?_
  rintro ⟨n10, s3_11⟩ hE K10 hK10
  try dsimp only at hE
  cases n10 with
  | zero => cases hE
  | succ n10 =>
    rw [Z46_l10] at hE
    refine seqK fun K12 hK12 => ?_
    refine seqK fun K13 hK13 => ?_
    refine region ?_
    refine s0 moveA rfl ?_
    refine s0 moveA rfl ?_
    refine sLen (f := TDir.c) (s := a0) (TK rfl) rfl rfl rfl rfl fun hL14 => ?_
    refine s0 (binI rfl rfl rfl) rfl ?_
    refine nil ?_
    refine hK13 _ ?_
    clear hK13 K13
    refine condE hE rfl (fun hc15 hE => ?_) (fun hc15 hE => ?_)
    ·try dsimp only at hc15
     have hf15 := of_decide_eq_true hc15
     refine AWp.skip ?_
     refine hK12 _ ?_
     clear hK12 K12
     refine seqJH (KeepsT.A (k := 0) (KeepsT.A (k := 3) KeepsT.nil)) (fun (z : Unit) => []) (fun z => H) (fun z => Z46_j16 s3_11 ((Z46_l10 a0 n10))  = some r) ?_ ?_
     ·intro K16 hK16
      refine block ?_
      refine seqK fun K17 hK17 => ?_
      refine seqK fun K18 hK18 => ?_
      refine region ?_
      refine s0 moveA rfl ?_
      refine s0 moveA rfl ?_
      obtain ⟨x19, gx19, hE⟩ := bindO_some hE
      refine s0 (idxMn (f := TDir.c) (n := s3_11) (TK rfl) rfl (TK rfl) rfl rfl rfl gx19) rfl ?_
      refine s0 (fieldVA (TK rfl) rfl rfl (TK rfl) rfl rfl) rfl ?_
      refine s0 (loadV (TK rfl) rfl rfl rfl) rfl ?_
      obtain ⟨x20, gx20, hE⟩ := bindO_some hE
      refine s0 (callP rfl rfl (fun H => Z21_walk gx20 H)) rfl ?_
      refine s0 (notB rfl) rfl ?_
      refine s0 moveA rfl ?_
      refine gC rfl rfl (fun hC => moveA) rfl ?_
      refine gC rfl rfl (fun hC => moveA) rfl ?_
      obtain ⟨x21, gx21, hE⟩ := guardO_some hE
      refine gC rfl rfl (fun hC => ungdA (k := 23) rfl (ungdA (k := 24) rfl (idxMn (f := TDir.c) (n := s3_11) (TK rfl) rfl (TK rfl) rfl rfl rfl (gx21 hC)))) rfl ?_
      refine gC rfl rfl (fun hC => ungdA (k := 25) rfl (fieldVA (TK rfl) rfl rfl (TK rfl) rfl rfl)) rfl ?_
      refine gC rfl rfl (fun hC => ungdA (k := 26) rfl (loadV (TK rfl) rfl rfl rfl)) rfl ?_
      refine gC rfl rfl (fun hC => ungdA (k := 27) rfl (lenM' (f := TArg.c) (s := x21.FArgs) (TK rfl) rfl rfl rfl)) rfl ?_
      refine gC rfl rfl (fun hC => ungdA (k := 28) rfl (binI rfl rfl rfl)) rfl ?_
      refine s0 (pickOrA rfl rfl rfl) rfl ?_
      refine nil ?_
      refine hK18 _ ?_
      clear hK18 K18
      refine condE hE rfl (fun hc22 hE => ?_) (fun hc22 hE => ?_)
      ·refine seqK fun K23 hK23 => ?_
       refine region ?_
       refine s0 assignA rfl ?_
       refine nil ?_
       refine hK23 _ ?_
       clear hK23 K23
       refine AWp.ret ?_
       repeat (first | refine xBlock_ret ?_ | refine xThen_ret ?_)
       obtain rfl := Option.some.inj hE
       refine retQ.retF H rfl ⟨rfl, rfl⟩ ?_
       exact (fun _ _ h => h)
      refine AWp.skip ?_
      refine hK17 _ ?_
      clear hK17 K17
      refine seqK fun K24 hK24 => ?_
      refine region ?_
      refine s0 assignA rfl ?_
      refine nil ?_
      refine hK24 _ ?_
      clear hK24 K24
      refine block ?_
      refine loopH (KeepsT.A (k := 0) (KeepsT.A (k := 3) KeepsT.nil)) (fun (z : Nat × Nat) => [(4, .a (.d (.int .i64 ((z.2 : Nat) : Int))))]) (fun z => H) (fun z => z.1) (fun z => Z46_l25 a0 s3_11 ((Z46_l10 a0 n10)) z.1 z.2 = some r) ((Option.elim (a0.l[s3_11]?) 1 (fun x29 => x29.FArgs.l.length + 1)), 0) hE Weak.toA ?_
      rintro ⟨n25, s4_26⟩ hE K25 hK25
      try dsimp only at hE
      cases n25 with
      | zero => cases hE
      | succ n25 =>
        rw [Z46_l25] at hE
        refine seqK fun K27 hK27 => ?_
        refine seqK fun K28 hK28 => ?_
        refine region ?_
        refine s0 moveA rfl ?_
        refine s0 moveA rfl ?_
        refine s0 moveA rfl ?_
        obtain ⟨x29, gx29, hE⟩ := bindO_some hE
        refine s0 (idxMn (f := TDir.c) (n := s3_11) (TK rfl) rfl (TK rfl) rfl rfl rfl gx29) rfl ?_
        refine s0 (fieldVA (TK rfl) rfl rfl (TK rfl) rfl rfl) rfl ?_
        refine s0 (loadV (TK rfl) rfl rfl rfl) rfl ?_
        refine sLen (f := TArg.c) (s := x29.FArgs) (TK rfl) rfl rfl rfl rfl fun hL30 => ?_
        refine s0 (binI rfl rfl rfl) rfl ?_
        refine nil ?_
        refine hK28 _ ?_
        clear hK28 K28
        refine condE hE rfl (fun hc31 hE => ?_) (fun hc31 hE => ?_)
        ·try dsimp only at hc31
         have hf31 := of_decide_eq_true hc31
         refine AWp.skip ?_
         refine hK27 _ ?_
         clear hK27 K27
         refine seqK fun K32 hK32 => ?_
         refine block ?_
         refine seqK fun K33 hK33 => ?_
         refine region ?_
         refine s0 moveA rfl ?_
         refine s0 moveA rfl ?_
         obtain ⟨x34, gx34, hE⟩ := bindO_some hE
         refine s0 (idxMn (f := TDir.c) (n := s3_11) (TK rfl) rfl (TK rfl) rfl rfl rfl gx34) rfl ?_
         refine s0 (fieldVA (TK rfl) rfl rfl (TK rfl) rfl rfl) rfl ?_
         refine s0 (loadV (TK rfl) rfl rfl rfl) rfl ?_
         refine s0 moveA rfl ?_
         obtain ⟨x35, gx35, hE⟩ := bindO_some hE
         refine s0 (idxMn (f := TArg.c) (n := s4_26) (TK rfl) rfl (TK rfl) rfl rfl rfl gx35) rfl ?_
         refine s0 (loadV (TK rfl) rfl rfl rfl) rfl ?_
         refine sL (allocLA (TK rfl) rfl) rfl ?_
         refine sLn (storeLFA (TK rfl) rfl rfl rfl rfl rfl) ?_
         refine nil ?_
         refine hK33 _ ?_
         clear hK33 K33
         refine freezeA 5 _ rfl (Keeps.c (k := 0) (by conv => lhs; whnf) (by rfl) (Keeps.c (k := 3) (by conv => lhs; whnf) (by rfl) (Keeps.c (k := 4) (by conv => lhs; whnf) (by rfl) Keeps.nil))) ?_
         refine seqK fun K36 hK36 => ?_
         refine region ?_
         refine s0 (fieldVA (TK rfl) rfl rfl (TK rfl) rfl rfl) rfl ?_
         refine s0 (loadV (TK rfl) rfl rfl rfl) rfl ?_
         obtain ⟨x37, gx37, hE⟩ := bindO_some hE
         refine s0 (callP rfl rfl (fun H => Z21_walk gx37 H)) rfl ?_
         refine s0 (notB rfl) rfl ?_
         refine s0 moveA rfl ?_
         refine gC rfl rfl (fun hC => fieldVA (TK rfl) rfl rfl (TK rfl) rfl rfl) rfl ?_
         refine gC rfl rfl (fun hC => ungdA (k := 54) rfl (loadV (TK rfl) rfl rfl rfl)) rfl ?_
         obtain ⟨x38, gx38, hE⟩ := guardO_some hE
         refine gC rfl rfl (fun hC => ungdA (k := 55) rfl (callP rfl rfl (fun H => Z27_walk (gx38 hC) H))) rfl ?_
         refine gC rfl rfl (fun hC => ungdA (k := 56) rfl (notB rfl)) rfl ?_
         refine s0 (pickOrA rfl rfl rfl) rfl ?_
         refine s0 moveA rfl ?_
         refine gC rfl rfl (fun hC => fieldVA (TK rfl) rfl rfl (TK rfl) rfl rfl) rfl ?_
         refine gC rfl rfl (fun hC => ungdA (k := 60) rfl (loadV (TK rfl) rfl rfl rfl)) rfl ?_
         obtain ⟨x39, gx39, hE⟩ := guardO_some hE
         refine gC rfl rfl (fun hC => ungdA (k := 61) rfl (callP rfl rfl (fun H => Z44_walk (gx39 hC) H))) rfl ?_
         refine gC rfl rfl (fun hC => ungdA (k := 62) rfl (notB rfl)) rfl ?_
         refine s0 (pickOrA rfl rfl rfl) rfl ?_
         refine nil ?_
         refine hK36 _ ?_
         clear hK36 K36
         refine condE hE rfl (fun hc40 hE => ?_) (fun hc40 hE => ?_)
         ·refine seqK fun K41 hK41 => ?_
          refine region ?_
          refine s0 assignA rfl ?_
          refine nil ?_
          refine hK41 _ ?_
          clear hK41 K41
          refine AWp.ret ?_
          repeat (first | refine xBlock_ret ?_ | refine xThen_ret ?_)
          obtain rfl := Option.some.inj hE
          refine retQ.retF H rfl ⟨rfl, rfl⟩ ?_
          exact (fun _ _ h => h)
         refine AWp.skip ?_
         refine hK32 _ ?_
         clear hK32 K32
         refine region ?_
         refine s0 moveA rfl ?_
         refine s0 (addIA rfl rfl) rfl ?_
         refine s0 assignA rfl ?_
         refine nil ?_
         exact hK25 _ (n25, (s4_26 + 1)) Weak.toA hE (Nat.lt_succ_self _)
        refine AWp.exit ?_
        exact hK16 _ () Weak.toA hE
     rintro _ hE
     try dsimp only at hE
     unfold Z46_j16 at hE
     refine region ?_
     refine s0 moveA rfl ?_
     refine s0 (addIA rfl rfl) rfl ?_
     refine s0 assignA rfl ?_
     refine nil ?_
     exact hK10 _ (n10, (s3_11 + 1)) Weak.toA hE (Nat.lt_succ_self _)
    refine AWp.exit ?_
    exact hK7 _ () Weak.toA hE
 rintro _ hE
 try dsimp only at hE
 unfold Z46_j7 at hE
 refine seqK fun K8 hK8 => ?_
 refine region ?_
 refine s0 assignA rfl ?_
 refine nil ?_
 refine hK8 _ ?_
 clear hK8 K8
 refine AWp.ret ?_
 repeat (first | refine xBlock_ret ?_ | refine xThen_ret ?_)
 obtain rfl := Option.some.inj hE
 refine retQ.retF H rfl ⟨rfl, rfl⟩ ?_
 exact (fun _ _ h => h)
def Z40_j7   : Option Bool := some true
def Z40_l10 (a0 : TRef)  : Nat → Nat → Option Bool
 | 0, _ => none
 | n10 + 1, s3_11 => bif (decide (((s3_11 : Nat) : Int) < ((a0.FWraps.l.length : Nat) : Int))) then ((a0.FWraps.l[s3_11]?).bind fun x19 => guardO ((!decide (x19 = (1 : Int)))) (a0.FWraps.l[s3_11]?) (0 : Int) fun x20 => bif ((!decide (x19 = (1 : Int))) && (!decide (x20 = (2 : Int)))) then (some false) else (guardO ((decide ((0 : Int) < ((s3_11 : Nat) : Int)))) (a0.FWraps.l[s3_11]?) (0 : Int) fun x24 => guardO (((decide ((0 : Int) < ((s3_11 : Nat) : Int))) && (decide (x24 = (1 : Int))))) (subC ((s3_11 : Nat) : Int) (1 : Int)) (0 : Int) fun x25 => guardO (((decide ((0 : Int) < ((s3_11 : Nat) : Int))) && (decide (x24 = (1 : Int))))) (idxC a0.FWraps.l x25) (0 : Int) fun x26 => bif (((decide ((0 : Int) < ((s3_11 : Nat) : Int))) && (decide (x24 = (1 : Int)))) && (decide (x26 = (1 : Int)))) then (some false) else ((Z40_l10 a0 n10) (s3_11 + 1)))) else (Z40_j7   )
def Z40 (a0 : TRef) : Option Bool := (Z21 a0.FName).bind fun x4 => bif ((!x4) || (decide ((24 : Int) < ((a0.FWraps.l.length : Nat) : Int)))) then (some false) else (Z40_l10 a0 (a0.FWraps.l.length + 1) 0)
theorem Z40_walk {a0 : TRef}   {r : Bool} (hE : Z40 a0 = some r) (H : Heap)  : ACalls Tryz.prog 26 [.agg (TRef.c a0)] H fun v h' => v = .a (.d (.bool r)) ∧ h' = H := by
 unfold Z40 at hE
 refine ACalls.of_wp (fn := Tryz.f26) (c := _) Tryz.tab_ok (fun _ _ => Tryz.call26 _ _) Tryz.func26 rfl (n := 54) rfl (rs := [.tmp 2]) rfl rfl ?_
 refine seqK fun K1 hK1 => ?_
 refine region ?_
 refine s0 (boxV rfl) rfl ?_
 refine s0 assignA rfl ?_
 refine nil ?_
 refine hK1 _ ?_
 clear hK1 K1
 refine seqK fun K2 hK2 => ?_
 refine seqK fun K3 hK3 => ?_
 refine region ?_
 refine s0 (fieldVA (TK rfl) rfl rfl (TK rfl) rfl rfl) rfl ?_
 refine s0 (loadV (TK rfl) rfl rfl rfl) rfl ?_
 obtain ⟨x4, gx4, hE⟩ := bindO_some hE
 refine s0 (callP rfl rfl (fun H => Z21_walk gx4 H)) rfl ?_
 refine s0 (notB rfl) rfl ?_
 refine s0 moveA rfl ?_
 refine gC rfl rfl (fun hC => fieldVA (TK rfl) rfl rfl (TK rfl) rfl rfl) rfl ?_
 refine gC rfl rfl (fun hC => ungdA (k := 9) rfl (loadV (TK rfl) rfl rfl rfl)) rfl ?_
 refine gC rfl rfl (fun hC => ungdA (k := 10) rfl (lenM' (f := (intE .i64)) (s := a0.FWraps) (TK rfl) rfl rfl rfl)) rfl ?_
 refine gC rfl rfl (fun hC => ungdA (k := 11) rfl (binI rfl rfl rfl)) rfl ?_
 refine s0 (pickOrA rfl rfl rfl) rfl ?_
 refine nil ?_
 refine hK3 _ ?_
 clear hK3 K3
 refine condE hE rfl (fun hc5 hE => ?_) (fun hc5 hE => ?_)
 ·refine seqK fun K6 hK6 => ?_
  refine region ?_
  refine s0 assignA rfl ?_
  refine nil ?_
  refine hK6 _ ?_
  clear hK6 K6
  refine AWp.ret ?_
  repeat (first | refine xBlock_ret ?_ | refine xThen_ret ?_)
  obtain rfl := Option.some.inj hE
  refine retQ.retF H rfl ⟨rfl, rfl⟩ ?_
  exact (fun _ _ h => h)
 refine AWp.skip ?_
 refine hK2 _ ?_
 clear hK2 K2
 refine seqJH KeepsT.nil (fun (z : Unit) => []) (fun z => H) (fun z => Z40_j7  = some r) ?_ ?_
 ·intro K7 hK7
  refine seqK fun K9 hK9 => ?_
  refine region ?_
  refine s0 assignA rfl ?_
  refine nil ?_
  refine hK9 _ ?_
  clear hK9 K9
  refine block ?_
  refine loopH (KeepsT.A (k := 1) KeepsT.nil) (fun (z : Nat × Nat) => [(3, .a (.d (.int .i64 ((z.2 : Nat) : Int))))]) (fun z => H) (fun z => z.1) (fun z => Z40_l10 a0 z.1 z.2 = some r) ((a0.FWraps.l.length + 1), 0) hE Weak.toA ?_
  rintro ⟨n10, s3_11⟩ hE K10 hK10
  try dsimp only at hE
  cases n10 with
  | zero => cases hE
  | succ n10 =>
    rw [Z40_l10] at hE
    refine seqK fun K12 hK12 => ?_
    refine seqK fun K13 hK13 => ?_
    refine region ?_
    refine s0 moveA rfl ?_
    refine s0 (fieldVA (TK rfl) rfl rfl (TK rfl) rfl rfl) rfl ?_
    refine s0 (loadV (TK rfl) rfl rfl rfl) rfl ?_
    refine sLen (f := (intE .i64)) (s := a0.FWraps) (TK rfl) rfl rfl rfl rfl fun hL14 => ?_
    refine s0 (binI rfl rfl rfl) rfl ?_
    refine nil ?_
    refine hK13 _ ?_
    clear hK13 K13
    refine condE hE rfl (fun hc15 hE => ?_) (fun hc15 hE => ?_)
    ·try dsimp only at hc15
     have hf15 := of_decide_eq_true hc15
     refine AWp.skip ?_
     refine hK12 _ ?_
     clear hK12 K12
     refine seqK fun K16 hK16 => ?_
     refine block ?_
     refine seqK fun K17 hK17 => ?_
     refine seqK fun K18 hK18 => ?_
     refine region ?_
     refine s0 (fieldVA (TK rfl) rfl rfl (TK rfl) rfl rfl) rfl ?_
     refine s0 (loadV (TK rfl) rfl rfl rfl) rfl ?_
     refine s0 moveA rfl ?_
     obtain ⟨x19, gx19, hE⟩ := bindO_some hE
     refine s0 (idxMn (f := (intE .i64)) (n := s3_11) (TK rfl) rfl (TK rfl) rfl rfl rfl gx19) rfl ?_
     refine s0 (loadV (TK rfl) rfl rfl rfl) rfl ?_
     refine s0 (binI rfl rfl rfl) rfl ?_
     refine s0 moveA rfl ?_
     refine gC rfl rfl (fun hC => fieldVA (TK rfl) rfl rfl (TK rfl) rfl rfl) rfl ?_
     refine gC rfl rfl (fun hC => ungdA (k := 28) rfl (loadV (TK rfl) rfl rfl rfl)) rfl ?_
     refine gC rfl rfl (fun hC => moveA) rfl ?_
     obtain ⟨x20, gx20, hE⟩ := guardO_some hE
     refine gC rfl rfl (fun hC => ungdA (k := 29) rfl (ungdA (k := 30) rfl (idxMn (f := (intE .i64)) (n := s3_11) (TK rfl) rfl (TK rfl) rfl rfl rfl (gx20 hC)))) rfl ?_
     refine gC rfl rfl (fun hC => ungdA (k := 31) rfl (loadV (TK rfl) rfl rfl rfl)) rfl ?_
     refine gC rfl rfl (fun hC => ungdA (k := 32) rfl (binI rfl rfl rfl)) rfl ?_
     refine s0 (pickAndA rfl rfl rfl) rfl ?_
     refine nil ?_
     refine hK18 _ ?_
     clear hK18 K18
     refine condE hE rfl (fun hc21 hE => ?_) (fun hc21 hE => ?_)
     ·refine seqK fun K22 hK22 => ?_
      refine region ?_
      refine s0 assignA rfl ?_
      refine nil ?_
      refine hK22 _ ?_
      clear hK22 K22
      refine AWp.ret ?_
      repeat (first | refine xBlock_ret ?_ | refine xThen_ret ?_)
      obtain rfl := Option.some.inj hE
      refine retQ.retF H rfl ⟨rfl, rfl⟩ ?_
      exact (fun _ _ h => h)
     refine AWp.skip ?_
     refine hK17 _ ?_
     clear hK17 K17
     refine seqK fun K23 hK23 => ?_
     refine region ?_
     refine s0 moveA rfl ?_
     refine s0 (binI rfl rfl rfl) rfl ?_
     refine s0 moveA rfl ?_
     refine gC rfl rfl (fun hC => fieldVA (TK rfl) rfl rfl (TK rfl) rfl rfl) rfl ?_
     refine gC rfl rfl (fun hC => ungdA (k := 38) rfl (loadV (TK rfl) rfl rfl rfl)) rfl ?_
     refine gC rfl rfl (fun hC => moveA) rfl ?_
     obtain ⟨x24, gx24, hE⟩ := guardO_some hE
     refine gC rfl rfl (fun hC => ungdA (k := 39) rfl (ungdA (k := 40) rfl (idxMn (f := (intE .i64)) (n := s3_11) (TK rfl) rfl (TK rfl) rfl rfl rfl (gx24 hC)))) rfl ?_
     refine gC rfl rfl (fun hC => ungdA (k := 41) rfl (loadV (TK rfl) rfl rfl rfl)) rfl ?_
     refine gC rfl rfl (fun hC => ungdA (k := 42) rfl (binI rfl rfl rfl)) rfl ?_
     refine s0 (pickAndA rfl rfl rfl) rfl ?_
     refine s0 moveA rfl ?_
     refine gC rfl rfl (fun hC => fieldVA (TK rfl) rfl rfl (TK rfl) rfl rfl) rfl ?_
     refine gC rfl rfl (fun hC => ungdA (k := 46) rfl (loadV (TK rfl) rfl rfl rfl)) rfl ?_
     refine gC rfl rfl (fun hC => moveA) rfl ?_
     obtain ⟨x25, gx25, hE⟩ := guardO_some hE
     refine gC rfl rfl (fun hC => ungdA (k := 48) rfl (subM rfl rfl (gx25 hC))) rfl ?_
     obtain ⟨x26, gx26, hE⟩ := guardO_some hE
     refine gC rfl rfl (fun hC => ungdA (k := 47) rfl (ungdA (k := 49) rfl (idxM (f := (intE .i64)) (TK rfl) rfl (TK rfl) rfl rfl rfl (gx26 hC)))) rfl ?_
     refine gC rfl rfl (fun hC => ungdA (k := 50) rfl (loadV (TK rfl) rfl rfl rfl)) rfl ?_
     refine gC rfl rfl (fun hC => ungdA (k := 51) rfl (binI rfl rfl rfl)) rfl ?_
     refine s0 (pickAndA rfl rfl rfl) rfl ?_
     refine nil ?_
     refine hK23 _ ?_
     clear hK23 K23
     refine condE hE rfl (fun hc27 hE => ?_) (fun hc27 hE => ?_)
     ·refine seqK fun K28 hK28 => ?_
      refine region ?_
      refine s0 assignA rfl ?_
      refine nil ?_
      refine hK28 _ ?_
      clear hK28 K28
      refine AWp.ret ?_
      repeat (first | refine xBlock_ret ?_ | refine xThen_ret ?_)
      obtain rfl := Option.some.inj hE
      refine retQ.retF H rfl ⟨rfl, rfl⟩ ?_
      exact (fun _ _ h => h)
     refine AWp.skip ?_
     refine hK16 _ ?_
     clear hK16 K16
     refine region ?_
     refine s0 moveA rfl ?_
     refine s0 (addIA rfl rfl) rfl ?_
     refine s0 assignA rfl ?_
     refine nil ?_
     exact hK10 _ (n10, (s3_11 + 1)) Weak.toA hE (Nat.lt_succ_self _)
    refine AWp.exit ?_
    exact hK7 _ () Weak.toA hE
 rintro _ hE
 try dsimp only at hE
 unfold Z40_j7 at hE
 refine seqK fun K8 hK8 => ?_
 refine region ?_
 refine s0 assignA rfl ?_
 refine nil ?_
 refine hK8 _ ?_
 clear hK8 K8
 refine AWp.ret ?_
 repeat (first | refine xBlock_ret ?_ | refine xThen_ret ?_)
 obtain rfl := Option.some.inj hE
 refine retQ.retF H rfl ⟨rfl, rfl⟩ ?_
 exact (fun _ _ h => h)
def Z50 (a0 : TValue) : Option Bool := some (((((decide (a0.FKind = (0 : Int))) && (decide (a0.FInt = (0 : Int)))) && ((a0.FText == ([] : Bs)))) && (decide (((a0.FItems.l.length : Nat) : Int) = (0 : Int)))) && (decide (((a0.FKeys.l.length : Nat) : Int) = (0 : Int))))
theorem Z50_walk {a0 : TValue}   {r : Bool} (hE : Z50 a0 = some r) (H : Heap)  : ACalls Tryz.prog 107 [.agg (TValue.c a0)] H fun v h' => v = .a (.d (.bool r)) ∧ h' = H := by
 unfold Z50 at hE
 refine ACalls.of_wp (fn := Tryz.f107) (c := _) Tryz.tab_ok (fun _ _ => Tryz.call107 _ _) Tryz.func107 rfl (n := 28) rfl (rs := [.tmp 2]) rfl rfl ?_
 refine seqK fun K1 hK1 => ?_
 refine region ?_
 refine s0 (boxV rfl) rfl ?_
 refine s0 assignA rfl ?_
 refine nil ?_
 refine hK1 _ ?_
 clear hK1 K1
 refine seqK fun K2 hK2 => ?_
 refine region ?_
 refine s0 (fieldVA (TK rfl) rfl rfl (TK rfl) rfl rfl) rfl ?_
 refine s0 (loadV (TK rfl) rfl rfl rfl) rfl ?_
 refine s0 (binI rfl rfl rfl) rfl ?_
 refine s0 moveA rfl ?_
 refine gC rfl rfl (fun hC => fieldVA (TK rfl) rfl rfl (TK rfl) rfl rfl) rfl ?_
 refine gC rfl rfl (fun hC => ungdA (k := 7) rfl (loadV (TK rfl) rfl rfl rfl)) rfl ?_
 refine gC rfl rfl (fun hC => ungdA (k := 8) rfl (binI rfl rfl rfl)) rfl ?_
 refine s0 (pickAndA rfl rfl rfl) rfl ?_
 refine s0 moveA rfl ?_
 refine gC rfl rfl (fun hC => fieldVA (TK rfl) rfl rfl (TK rfl) rfl rfl) rfl ?_
 refine gC rfl rfl (fun hC => ungdA (k := 12) rfl (loadV (TK rfl) rfl rfl rfl)) rfl ?_
 refine gC rfl rfl (fun hC => ungdA (k := 13) rfl (binS rfl rfl rfl)) rfl ?_
 refine s0 (pickAndA rfl rfl rfl) rfl ?_
 refine s0 moveA rfl ?_
 refine gC rfl rfl (fun hC => fieldVA (TK rfl) rfl rfl (TK rfl) rfl rfl) rfl ?_
 refine gC rfl rfl (fun hC => ungdA (k := 17) rfl (loadV (TK rfl) rfl rfl (congrArg (fun x => some (A.d x)) (TValue.FItemsD_eq _)))) rfl ?_
 refine gC rfl rfl (fun hC => ungdA (k := 18) rfl (lenM' (f := TValue.c) (s := a0.FItems) (TK rfl) rfl rfl rfl)) rfl ?_
 refine gC rfl rfl (fun hC => ungdA (k := 19) rfl (binI rfl rfl rfl)) rfl ?_
 refine s0 (pickAndA rfl rfl rfl) rfl ?_
 refine s0 moveA rfl ?_
 refine gC rfl rfl (fun hC => fieldVA (TK rfl) rfl rfl (TK rfl) rfl rfl) rfl ?_
 refine gC rfl rfl (fun hC => ungdA (k := 23) rfl (loadV (TK rfl) rfl rfl rfl)) rfl ?_
 refine gC rfl rfl (fun hC => ungdA (k := 24) rfl (lenM' (f := strE) (s := a0.FKeys) (TK rfl) rfl rfl rfl)) rfl ?_
 refine gC rfl rfl (fun hC => ungdA (k := 25) rfl (binI rfl rfl rfl)) rfl ?_
 refine s0 (pickAndA rfl rfl rfl) rfl ?_
 refine s0 assignA rfl ?_
 refine nil ?_
 refine hK2 _ ?_
 clear hK2 K2
 refine AWp.ret ?_
 repeat (first | refine xBlock_ret ?_ | refine xThen_ret ?_)
 obtain rfl := Option.some.inj hE
 refine retQ.retF H rfl ⟨rfl, rfl⟩ ?_
 exact (fun _ _ h => h)
end Go.Proofs

namespace Go.Proofs
open Go Go.Ab
open AOps Cert AWp
def Z48_j7   : Option Bool := some true
def Z48_l10 (a0 : (Sl TInput))  : Nat → Nat → Option Bool
 | 0, _ => none
 | n10 + 1, s3_11 => bif (decide (((s3_11 : Nat) : Int) < ((a0.l.length : Nat) : Int))) then ((a0.l[s3_11]?).bind fun x18 => (Z21 x18.FName).bind fun x21 => guardO (!(!x21)) (Z40 x18.FType) false fun x22 => guardO (!((!x21) || (!x22))) (Z46 x18.FDirs) false fun x23 => bif (((!x21) || (!x22)) || (!x23)) then (some false) else (guardO (x18.FHas) (Z27 x18.FDefault) false fun x27 => guardO ((x18.FHas && !(!x27))) (Z44 x18.FDefault) false fun x28 => guardO ((!(x18.FHas && ((!x27) || (!x28))) && (!x18.FHas))) (Z50 x18.FDefault) false fun x29 => bif ((x18.FHas && ((!x27) || (!x28))) || ((!x18.FHas) && (!x29))) then (some false) else ((Z48_l10 a0 n10) (s3_11 + 1)))) else (Z48_j7   )
def Z48 (a0 : (Sl TInput)) : Option Bool := bif (decide ((16 : Int) < ((a0.l.length : Nat) : Int))) then (some false) else (Z48_l10 a0 (a0.l.length + 1) 0)
theorem Z48_walk {a0 : (Sl TInput)} {w0 : Option Nat}  {r : Bool} (hE : Z48 a0 = some r) (H : Heap)  : ACalls Tryz.prog 79 [.d (Sl.d 10 TInput.c w0 a0)] H fun v h' => v = .a (.d (.bool r)) ∧ h' = H := by
 unfold Z48 at hE
 refine ACalls.of_wp (fn := Tryz.f79) (c := _) Tryz.tab_ok (fun _ _ => Tryz.call79 _ _) Tryz.func79 rfl (n := 59) rfl (rs := [.tmp 2]) rfl rfl ?_
 refine seqK fun K1 hK1 => ?_
 refine region ?_
 refine s0 assignA rfl ?_
 refine nil ?_
 refine hK1 _ ?_
 clear hK1 K1
 refine seqK fun K2 hK2 => ?_
 refine seqK fun K3 hK3 => ?_
 refine region ?_
 refine s0 moveA rfl ?_
 refine sLen (f := TInput.c) (s := a0) (TK rfl) rfl rfl rfl rfl fun hL4 => ?_
 refine s0 (binI rfl rfl rfl) rfl ?_
 refine nil ?_
 refine hK3 _ ?_
 clear hK3 K3
 refine condE hE rfl (fun hc5 hE => ?_) (fun hc5 hE => ?_)
 ·refine seqK fun K6 hK6 => ?_
  refine region ?_
  refine s0 assignA rfl ?_
  refine nil ?_
  refine hK6 _ ?_
  clear hK6 K6
  refine AWp.ret ?_
  repeat (first | refine xBlock_ret ?_ | refine xThen_ret ?_)
  obtain rfl := Option.some.inj hE
  refine retQ.retF H rfl ⟨rfl, rfl⟩ ?_
  exact (fun _ _ h => h)
 refine AWp.skip ?_
 refine hK2 _ ?_
 clear hK2 K2
 refine seqJH KeepsT.nil (fun (z : Unit) => []) (fun z => H) (fun z => Z48_j7  = some r) ?_ ?_
 ·intro K7 hK7
  refine seqK fun K9 hK9 => ?_
  refine region ?_
  refine s0 assignA rfl ?_
  refine nil ?_
  refine hK9 _ ?_
  clear hK9 K9
  refine block ?_
  refine loopH (KeepsT.A (k := 0) KeepsT.nil) (fun (z : Nat × Nat) => [(3, .a (.d (.int .i64 ((z.2 : Nat) : Int))))]) (fun z => H) (fun z => z.1) (fun z => Z48_l10 a0 z.1 z.2 = some r) ((a0.l.length + 1), 0) hE Weak.toA ?_
  rintro ⟨n10, s3_11⟩ hE K10 hK10
  try dsimp only at hE
  cases n10 with
  | zero => cases hE
  | succ n10 =>
    rw [Z48_l10] at hE
    refine seqK fun K12 hK12 => ?_
    refine seqK fun K13 hK13 => ?_
    refine region ?_
    refine s0 moveA rfl ?_
    refine s0 moveA rfl ?_
    refine sLen (f := TInput.c) (s := a0) (TK rfl) rfl rfl rfl rfl fun hL14 => ?_
    refine s0 (binI rfl rfl rfl) rfl ?_
    refine nil ?_
    refine hK13 _ ?_
    clear hK13 K13
    refine condE hE rfl (fun hc15 hE => ?_) (fun hc15 hE => ?_)
    ·try dsimp only at hc15
     have hf15 := of_decide_eq_true hc15
     refine AWp.skip ?_
     refine hK12 _ ?_
     clear hK12 K12
     refine seqK fun K16 hK16 => ?_
     refine block ?_
     refine seqK fun K17 hK17 => ?_
     refine region ?_
     refine s0 moveA rfl ?_
     refine s0 moveA rfl ?_
     obtain ⟨x18, gx18, hE⟩ := bindO_some hE
     refine s0 (idxMn (f := TInput.c) (n := s3_11) (TK rfl) rfl (TK rfl) rfl rfl rfl gx18) rfl ?_
     refine s0 (loadV (TK rfl) rfl rfl rfl) rfl ?_
     refine sL (allocLA (TK rfl) rfl) rfl ?_
     refine sLn (storeLFA (TK rfl) rfl rfl rfl rfl rfl) ?_
     refine nil ?_
     refine hK17 _ ?_
     clear hK17 K17
     refine freezeA 4 _ rfl (Keeps.c (k := 0) (by conv => lhs; whnf) (by rfl) (Keeps.c (k := 3) (by conv => lhs; whnf) (by rfl) Keeps.nil)) ?_
     refine seqK fun K19 hK19 => ?_
     refine seqK fun K20 hK20 => ?_
     refine region ?_
     refine s0 (fieldVA (TK rfl) rfl rfl (TK rfl) rfl rfl) rfl ?_
     refine s0 (loadV (TK rfl) rfl rfl rfl) rfl ?_
     obtain ⟨x21, gx21, hE⟩ := bindO_some hE
     refine s0 (callP rfl rfl (fun H => Z21_walk gx21 H)) rfl ?_
     refine s0 (notB rfl) rfl ?_
     refine s0 moveA rfl ?_
     refine gC rfl rfl (fun hC => fieldVA (TK rfl) rfl rfl (TK rfl) rfl rfl) rfl ?_
     refine gC rfl rfl (fun hC => ungdA (k := 23) rfl (loadV (TK rfl) rfl rfl rfl)) rfl ?_
     obtain ⟨x22, gx22, hE⟩ := guardO_some hE
     refine gC rfl rfl (fun hC => ungdA (k := 24) rfl (callP rfl rfl (fun H => Z40_walk (gx22 hC) H))) rfl ?_
     refine gC rfl rfl (fun hC => ungdA (k := 25) rfl (notB rfl)) rfl ?_
     refine s0 (pickOrA rfl rfl rfl) rfl ?_
     refine s0 moveA rfl ?_
     refine gC rfl rfl (fun hC => fieldVA (TK rfl) rfl rfl (TK rfl) rfl rfl) rfl ?_
     refine gC rfl rfl (fun hC => ungdA (k := 29) rfl (loadV (TK rfl) rfl rfl rfl)) rfl ?_
     obtain ⟨x23, gx23, hE⟩ := guardO_some hE
     refine gC rfl rfl (fun hC => ungdA (k := 30) rfl (callP rfl rfl (fun H => Z46_walk (gx23 hC) H))) rfl ?_
     refine gC rfl rfl (fun hC => ungdA (k := 31) rfl (notB rfl)) rfl ?_
     refine s0 (pickOrA rfl rfl rfl) rfl ?_
     refine nil ?_
     refine hK20 _ ?_
     clear hK20 K20
     refine condE hE rfl (fun hc24 hE => ?_) (fun hc24 hE => ?_)
     ·refine seqK fun K25 hK25 => ?_
      refine region ?_
      refine s0 assignA rfl ?_
      refine nil ?_
      refine hK25 _ ?_
      clear hK25 K25
      refine AWp.ret ?_
      repeat (first | refine xBlock_ret ?_ | refine xThen_ret ?_)
      obtain rfl := Option.some.inj hE
      refine retQ.retF H rfl ⟨rfl, rfl⟩ ?_
      exact (fun _ _ h => h)
     refine AWp.skip ?_
     refine hK19 _ ?_
     clear hK19 K19
     refine seqK fun K26 hK26 => ?_
     refine region ?_
     refine s0 (fieldVA (TK rfl) rfl rfl (TK rfl) rfl rfl) rfl ?_
     refine s0 (loadV (TK rfl) rfl rfl rfl) rfl ?_
     refine s0 moveA rfl ?_
     refine gC rfl rfl (fun hC => fieldVA (TK rfl) rfl rfl (TK rfl) rfl rfl) rfl ?_
     refine gC rfl rfl (fun hC => ungdA (k := 37) rfl (loadV (TK rfl) rfl rfl rfl)) rfl ?_
     obtain ⟨x27, gx27, hE⟩ := guardO_some hE
     refine gC rfl rfl (fun hC => ungdA (k := 38) rfl (callP rfl rfl (fun H => Z27_walk (gx27 hC) H))) rfl ?_
     refine gC rfl rfl (fun hC => ungdA (k := 39) rfl (notB rfl)) rfl ?_
     refine gC rfl rfl (fun hC => ungdA (k := 40) rfl moveA) rfl ?_
     refine gC rfl rfl (fun hC => fieldVA (TK rfl) rfl rfl (TK rfl) rfl rfl) rfl ?_
     refine gC rfl rfl (fun hC => ungdA (k := 42) rfl (loadV (TK rfl) rfl rfl rfl)) rfl ?_
     obtain ⟨x28, gx28, hE⟩ := guardO_some hE
     refine gC rfl rfl (fun hC => ungdA (k := 43) rfl (callP rfl rfl (fun H => Z44_walk (gx28 hC) H))) rfl ?_
     refine gC rfl rfl (fun hC => ungdA (k := 44) rfl (notB rfl)) rfl ?_
     refine gC rfl rfl (fun hC => ungdA (k := 41) rfl (pickOrA rfl rfl rfl)) rfl ?_
     refine s0 (pickAndA rfl rfl rfl) rfl ?_
     refine s0 moveA rfl ?_
     refine gC rfl rfl (fun hC => fieldVA (TK rfl) rfl rfl (TK rfl) rfl rfl) rfl ?_
     refine gC rfl rfl (fun hC => ungdA (k := 49) rfl (loadV (TK rfl) rfl rfl rfl)) rfl ?_
     refine gC rfl rfl (fun hC => ungdA (k := 50) rfl (notB rfl)) rfl ?_
     refine gC rfl rfl (fun hC => ungdA (k := 51) rfl moveA) rfl ?_
     refine gC rfl rfl (fun hC => fieldVA (TK rfl) rfl rfl (TK rfl) rfl rfl) rfl ?_
     refine gC rfl rfl (fun hC => ungdA (k := 53) rfl (loadV (TK rfl) rfl rfl rfl)) rfl ?_
     obtain ⟨x29, gx29, hE⟩ := guardO_some hE
     refine gC rfl rfl (fun hC => ungdA (k := 54) rfl (callP rfl rfl (fun H => Z50_walk (gx29 hC) H))) rfl ?_
     refine gC rfl rfl (fun hC => ungdA (k := 55) rfl (notB rfl)) rfl ?_
     refine gC rfl rfl (fun hC => ungdA (k := 52) rfl (pickAndA rfl rfl rfl)) rfl ?_
     refine s0 (pickOrA rfl rfl rfl) rfl ?_
     refine nil ?_
     refine hK26 _ ?_
     clear hK26 K26
     refine condE hE rfl (fun hc30 hE => ?_) (fun hc30 hE => ?_)
     ·refine seqK fun K31 hK31 => ?_
      refine region ?_
      refine s0 assignA rfl ?_
      refine nil ?_
      refine hK31 _ ?_
      clear hK31 K31
      refine AWp.ret ?_
      repeat (first | refine xBlock_ret ?_ | refine xThen_ret ?_)
      obtain rfl := Option.some.inj hE
      refine retQ.retF H rfl ⟨rfl, rfl⟩ ?_
      exact (fun _ _ h => h)
     refine AWp.skip ?_
     refine hK16 _ ?_
     clear hK16 K16
     refine region ?_
     refine s0 moveA rfl ?_
     refine s0 (addIA rfl rfl) rfl ?_
     refine s0 assignA rfl ?_
     refine nil ?_
     exact hK10 _ (n10, (s3_11 + 1)) Weak.toA hE (Nat.lt_succ_self _)
    refine AWp.exit ?_
    exact hK7 _ () Weak.toA hE
 rintro _ hE
 try dsimp only at hE
 unfold Z48_j7 at hE
 refine seqK fun K8 hK8 => ?_
 refine region ?_
 refine s0 assignA rfl ?_
 refine nil ?_
 refine hK8 _ ?_
 clear hK8 K8
 refine AWp.ret ?_
 repeat (first | refine xBlock_ret ?_ | refine xThen_ret ?_)
 obtain rfl := Option.some.inj hE
 refine retQ.retF H rfl ⟨rfl, rfl⟩ ?_
 exact (fun _ _ h => h)
def Z47_j7   : Option Bool := some true
def Z47_l10 (a0 : (Sl TField))  : Nat → Nat → Option Bool
 | 0, _ => none
 | n10 + 1, s3_11 => bif (decide (((s3_11 : Nat) : Int) < ((a0.l.length : Nat) : Int))) then ((a0.l[s3_11]?).bind fun x18 => (Z21 x18.FName).bind fun x19 => guardO (!(!x19)) (a0.l[s3_11]?) TField.zero fun x20 => guardO (!(!x19)) (Z48 x20.FArgs) false fun x21 => guardO (!((!x19) || (!x21))) (a0.l[s3_11]?) TField.zero fun x22 => guardO (!((!x19) || (!x21))) (Z40 x22.FType) false fun x23 => guardO (!(((!x19) || (!x21)) || (!x23))) (a0.l[s3_11]?) TField.zero fun x24 => guardO (!(((!x19) || (!x21)) || (!x23))) (Z46 x24.FDirs) false fun x25 => bif ((((!x19) || (!x21)) || (!x23)) || (!x25)) then (some false) else ((Z47_l10 a0 n10) (s3_11 + 1))) else (Z47_j7   )
def Z47 (a0 : (Sl TField)) : Option Bool := bif ((decide (((a0.l.length : Nat) : Int) < (1 : Int))) || (decide ((64 : Int) < ((a0.l.length : Nat) : Int)))) then (some false) else (Z47_l10 a0 (a0.l.length + 1) 0)
theorem Z47_walk {a0 : (Sl TField)} {w0 : Option Nat}  {r : Bool} (hE : Z47 a0 = some r) (H : Heap)  : ACalls Tryz.prog 77 [.d (Sl.d 5 TField.c w0 a0)] H fun v h' => v = .a (.d (.bool r)) ∧ h' = H := by
 unfold Z47 at hE
 refine ACalls.of_wp (fn := Tryz.f77) (c := _) Tryz.tab_ok (fun _ _ => Tryz.call77 _ _) Tryz.func77 rfl (n := 52) rfl (rs := [.tmp 2]) rfl rfl ?_
 refine seqK fun K1 hK1 => ?_
 refine region ?_
 refine s0 assignA rfl ?_
 refine nil ?_
 refine hK1 _ ?_
 clear hK1 K1
 refine seqK fun K2 hK2 => ?_
 refine seqK fun K3 hK3 => ?_
 refine region ?_
 refine s0 moveA rfl ?_
 refine sLen (f := TField.c) (s := a0) (TK rfl) rfl rfl rfl rfl fun hL4 => ?_
 refine s0 (binI rfl rfl rfl) rfl ?_
 refine s0 moveA rfl ?_
 refine gC rfl rfl (fun hC => moveA) rfl ?_
 refine gC rfl rfl (fun hC => ungdA (k := 8) rfl (lenM' (f := TField.c) (s := a0) (TK rfl) rfl rfl rfl)) rfl ?_
 refine gC rfl rfl (fun hC => ungdA (k := 9) rfl (binI rfl rfl rfl)) rfl ?_
 refine s0 (pickOrA rfl rfl rfl) rfl ?_
 refine nil ?_
 refine hK3 _ ?_
 clear hK3 K3
 refine condE hE rfl (fun hc5 hE => ?_) (fun hc5 hE => ?_)
 ·refine seqK fun K6 hK6 => ?_
  refine region ?_
  refine s0 assignA rfl ?_
  refine nil ?_
  refine hK6 _ ?_
  clear hK6 K6
  refine AWp.ret ?_
  repeat (first | refine xBlock_ret ?_ | refine xThen_ret ?_)
  obtain rfl := Option.some.inj hE
  refine retQ.retF H rfl ⟨rfl, rfl⟩ ?_
  exact (fun _ _ h => h)
 refine AWp.skip ?_
 refine hK2 _ ?_
 clear hK2 K2
 refine seqJH KeepsT.nil (fun (z : Unit) => []) (fun z => H) (fun z => Z47_j7  = some r) ?_ ?_
 ·intro K7 hK7
  refine seqK fun K9 hK9 => ?_
  refine region ?_
  refine s0 assignA rfl ?_
  refine nil ?_
  refine hK9 _ ?_
  clear hK9 K9
  refine block ?_
  refine loopH (KeepsT.A (k := 0) KeepsT.nil) (fun (z : Nat × Nat) => [(3, .a (.d (.int .i64 ((z.2 : Nat) : Int))))]) (fun z => H) (fun z => z.1) (fun z => Z47_l10 a0 z.1 z.2 = some r) ((a0.l.length + 1), 0) hE Weak.toA ?_
  rintro ⟨n10, s3_11⟩ hE K10 hK10
  try dsimp only at hE
  cases n10 with
  | zero => cases hE
  | succ n10 =>
    rw [Z47_l10] at hE
    refine seqK fun K12 hK12 => ?_
    refine seqK fun K13 hK13 => ?_
    refine region ?_
    refine s0 moveA rfl ?_
    refine s0 moveA rfl ?_
    refine sLen (f := TField.c) (s := a0) (TK rfl) rfl rfl rfl rfl fun hL14 => ?_
    refine s0 (binI rfl rfl rfl) rfl ?_
    refine nil ?_
    refine hK13 _ ?_
    clear hK13 K13
    refine condE hE rfl (fun hc15 hE => ?_) (fun hc15 hE => ?_)
    ·try dsimp only at hc15
     have hf15 := of_decide_eq_true hc15
     refine AWp.skip ?_
     refine hK12 _ ?_
     clear hK12 K12
     refine seqK fun K16 hK16 => ?_
     refine block ?_
     refine seqK fun K17 hK17 => ?_
     refine region ?_
     refine s0 moveA rfl ?_
     refine s0 moveA rfl ?_
     obtain ⟨x18, gx18, hE⟩ := bindO_some hE
     refine s0 (idxMn (f := TField.c) (n := s3_11) (TK rfl) rfl (TK rfl) rfl rfl rfl gx18) rfl ?_
     refine s0 (fieldVA (TK rfl) rfl rfl (TK rfl) rfl rfl) rfl ?_
     refine s0 (loadV (TK rfl) rfl rfl rfl) rfl ?_
     obtain ⟨x19, gx19, hE⟩ := bindO_some hE
     refine s0 (callP rfl rfl (fun H => Z21_walk gx19 H)) rfl ?_
     refine s0 (notB rfl) rfl ?_
     refine s0 moveA rfl ?_
     refine gC rfl rfl (fun hC => moveA) rfl ?_
     refine gC rfl rfl (fun hC => moveA) rfl ?_
     obtain ⟨x20, gx20, hE⟩ := guardO_some hE
     refine gC rfl rfl (fun hC => ungdA (k := 26) rfl (ungdA (k := 27) rfl (idxMn (f := TField.c) (n := s3_11) (TK rfl) rfl (TK rfl) rfl rfl rfl (gx20 hC)))) rfl ?_
     refine gC rfl rfl (fun hC => ungdA (k := 28) rfl (fieldVA (TK rfl) rfl rfl (TK rfl) rfl rfl)) rfl ?_
     refine gC rfl rfl (fun hC => ungdA (k := 29) rfl (loadV (TK rfl) rfl rfl rfl)) rfl ?_
     obtain ⟨x21, gx21, hE⟩ := guardO_some hE
     refine gC rfl rfl (fun hC => ungdA (k := 30) rfl (callP rfl rfl (fun H => Z48_walk (gx21 hC) H))) rfl ?_
     refine gC rfl rfl (fun hC => ungdA (k := 31) rfl (notB rfl)) rfl ?_
     refine s0 (pickOrA rfl rfl rfl) rfl ?_
     refine s0 moveA rfl ?_
     refine gC rfl rfl (fun hC => moveA) rfl ?_
     refine gC rfl rfl (fun hC => moveA) rfl ?_
     obtain ⟨x22, gx22, hE⟩ := guardO_some hE
     refine gC rfl rfl (fun hC => ungdA (k := 35) rfl (ungdA (k := 36) rfl (idxMn (f := TField.c) (n := s3_11) (TK rfl) rfl (TK rfl) rfl rfl rfl (gx22 hC)))) rfl ?_
     refine gC rfl rfl (fun hC => ungdA (k := 37) rfl (fieldVA (TK rfl) rfl rfl (TK rfl) rfl rfl)) rfl ?_
     refine gC rfl rfl (fun hC => ungdA (k := 38) rfl (loadV (TK rfl) rfl rfl rfl)) rfl ?_
     obtain ⟨x23, gx23, hE⟩ := guardO_some hE
     refine gC rfl rfl (fun hC => ungdA (k := 39) rfl (callP rfl rfl (fun H => Z40_walk (gx23 hC) H))) rfl ?_
     refine gC rfl rfl (fun hC => ungdA (k := 40) rfl (notB rfl)) rfl ?_
     refine s0 (pickOrA rfl rfl rfl) rfl ?_
     refine s0 moveA rfl ?_
     refine gC rfl rfl (fun hC => moveA) rfl ?_
     refine gC rfl rfl (fun hC => moveA) rfl ?_
     obtain ⟨x24, gx24, hE⟩ := guardO_some hE
     refine gC rfl rfl (fun hC => ungdA (k := 44) rfl (ungdA (k := 45) rfl (idxMn (f := TField.c) (n := s3_11) (TK rfl) rfl (TK rfl) rfl rfl rfl (gx24 hC)))) rfl ?_
     refine gC rfl rfl (fun hC => ungdA (k := 46) rfl (fieldVA (TK rfl) rfl rfl (TK rfl) rfl rfl)) rfl ?_
     refine gC rfl rfl (fun hC => ungdA (k := 47) rfl (loadV (TK rfl) rfl rfl rfl)) rfl ?_
     obtain ⟨x25, gx25, hE⟩ := guardO_some hE
     refine gC rfl rfl (fun hC => ungdA (k := 48) rfl (callP rfl rfl (fun H => Z46_walk (gx25 hC) H))) rfl ?_
     refine gC rfl rfl (fun hC => ungdA (k := 49) rfl (notB rfl)) rfl ?_
     refine s0 (pickOrA rfl rfl rfl) rfl ?_
     refine nil ?_
     refine hK17 _ ?_
     clear hK17 K17
     refine condE hE rfl (fun hc26 hE => ?_) (fun hc26 hE => ?_)
     ·refine seqK fun K27 hK27 => ?_
      refine region ?_
      refine s0 assignA rfl ?_
      refine nil ?_
      refine hK27 _ ?_
      clear hK27 K27
      refine AWp.ret ?_
      repeat (first | refine xBlock_ret ?_ | refine xThen_ret ?_)
      obtain rfl := Option.some.inj hE
      refine retQ.retF H rfl ⟨rfl, rfl⟩ ?_
      exact (fun _ _ h => h)
     refine AWp.skip ?_
     refine hK16 _ ?_
     clear hK16 K16
     refine region ?_
     refine s0 moveA rfl ?_
     refine s0 (addIA rfl rfl) rfl ?_
     refine s0 assignA rfl ?_
     refine nil ?_
     exact hK10 _ (n10, (s3_11 + 1)) Weak.toA hE (Nat.lt_succ_self _)
    refine AWp.exit ?_
    exact hK7 _ () Weak.toA hE
 rintro _ hE
 try dsimp only at hE
 unfold Z47_j7 at hE
 refine seqK fun K8 hK8 => ?_
 refine region ?_
 refine s0 assignA rfl ?_
 refine nil ?_
 refine hK8 _ ?_
 clear hK8 K8
 refine AWp.ret ?_
 repeat (first | refine xBlock_ret ?_ | refine xThen_ret ?_)
 obtain rfl := Option.some.inj hE
 refine retQ.retF H rfl ⟨rfl, rfl⟩ ?_
 exact (fun _ _ h => h)
def Z49_j7   : Option Bool := some true
def Z49_l10 (a0 : (Sl TMember)) (a1 : Bool)  : Nat → Nat → Option Bool
 | 0, _ => none
 | n10 + 1, s5_11 => bif (decide (((s5_11 : Nat) : Int) < ((a0.l.length : Nat) : Int))) then ((a0.l[s5_11]?).bind fun x18 => (Z21 x18.FName).bind fun x19 => guardO (!(!x19)) (a0.l[s5_11]?) TMember.zero fun x20 => guardO (!(!x19)) (Z46 x20.FDirs) false fun x21 => guardO ((!((!x19) || (!x21)) && a1)) (a0.l[s5_11]?) TMember.zero fun x22 => bif (((!x19) || (!x21)) || (a1 && (decide ((0 : Int) < ((x22.FDirs.l.length : Nat) : Int))))) then (some false) else ((Z49_l10 a0 a1 n10) (s5_11 + 1))) else (Z49_j7   )
def Z49 (a0 : (Sl TMember)) (a1 : Bool) : Option Bool := bif ((decide (((a0.l.length : Nat) : Int) < (1 : Int))) || (decide ((64 : Int) < ((a0.l.length : Nat) : Int)))) then (some false) else (Z49_l10 a0 a1 (a0.l.length + 1) 0)
theorem Z49_walk {a0 : (Sl TMember)} {a1 : Bool} {w0 : Option Nat}  {r : Bool} (hE : Z49 a0 a1 = some r) (H : Heap)  : ACalls Tryz.prog 78 [.d (Sl.d 2 TMember.c w0 a0), .d (.bool a1)] H fun v h' => v = .a (.d (.bool r)) ∧ h' = H := by
 unfold Z49 at hE
 refine ACalls.of_wp (fn := Tryz.f78) (c := _) Tryz.tab_ok (fun _ _ => Tryz.call78 _ _) Tryz.func78 rfl (n := 48) rfl (rs := [.tmp 4]) rfl rfl ?_
 refine seqK fun K1 hK1 => ?_
 refine region ?_
 refine s0 assignA rfl ?_
 refine nil ?_
 refine hK1 _ ?_
 clear hK1 K1
 refine seqK fun K2 hK2 => ?_
 refine seqK fun K3 hK3 => ?_
 refine region ?_
 refine s0 moveA rfl ?_
 refine sLen (f := TMember.c) (s := a0) (TK rfl) rfl rfl rfl rfl fun hL4 => ?_
 refine s0 (binI rfl rfl rfl) rfl ?_
 refine s0 moveA rfl ?_
 refine gC rfl rfl (fun hC => moveA) rfl ?_
 refine gC rfl rfl (fun hC => ungdA (k := 10) rfl (lenM' (f := TMember.c) (s := a0) (TK rfl) rfl rfl rfl)) rfl ?_
 refine gC rfl rfl (fun hC => ungdA (k := 11) rfl (binI rfl rfl rfl)) rfl ?_
 refine s0 (pickOrA rfl rfl rfl) rfl ?_
 refine nil ?_
 refine hK3 _ ?_
 clear hK3 K3
 refine condE hE rfl (fun hc5 hE => ?_) (fun hc5 hE => ?_)
 ·refine seqK fun K6 hK6 => ?_
  refine region ?_
  refine s0 assignA rfl ?_
  refine nil ?_
  refine hK6 _ ?_
  clear hK6 K6
  refine AWp.ret ?_
  repeat (first | refine xBlock_ret ?_ | refine xThen_ret ?_)
  obtain rfl := Option.some.inj hE
  refine retQ.retF H rfl ⟨rfl, rfl⟩ ?_
  exact (fun _ _ h => h)
 refine AWp.skip ?_
 refine hK2 _ ?_
 clear hK2 K2
 refine seqJH KeepsT.nil (fun (z : Unit) => []) (fun z => H) (fun z => Z49_j7  = some r) ?_ ?_
 ·intro K7 hK7
  refine seqK fun K9 hK9 => ?_
  refine region ?_
  refine s0 assignA rfl ?_
  refine nil ?_
  refine hK9 _ ?_
  clear hK9 K9
  refine block ?_
  refine loopH (KeepsT.A (k := 0) (KeepsT.A (k := 1) KeepsT.nil)) (fun (z : Nat × Nat) => [(5, .a (.d (.int .i64 ((z.2 : Nat) : Int))))]) (fun z => H) (fun z => z.1) (fun z => Z49_l10 a0 a1 z.1 z.2 = some r) ((a0.l.length + 1), 0) hE Weak.toA ?_
  rintro ⟨n10, s5_11⟩ hE K10 hK10
  try dsimp only at hE
  cases n10 with
  | zero => cases hE
  | succ n10 =>
    rw [Z49_l10] at hE
    refine seqK fun K12 hK12 => ?_
    refine seqK fun K13 hK13 => ?_
    refine region ?_
    refine s0 moveA rfl ?_
    refine s0 moveA rfl ?_
    refine sLen (f := TMember.c) (s := a0) (TK rfl) rfl rfl rfl rfl fun hL14 => ?_
    refine s0 (binI rfl rfl rfl) rfl ?_
    refine nil ?_
    refine hK13 _ ?_
    clear hK13 K13
    refine condE hE rfl (fun hc15 hE => ?_) (fun hc15 hE => ?_)
    ·try dsimp only at hc15
     have hf15 := of_decide_eq_true hc15
     refine AWp.skip ?_
     refine hK12 _ ?_
     clear hK12 K12
     refine seqK fun K16 hK16 => ?_
     refine block ?_
     refine seqK fun K17 hK17 => ?_
     refine region ?_
     refine s0 moveA rfl ?_
     refine s0 moveA rfl ?_
     obtain ⟨x18, gx18, hE⟩ := bindO_some hE
     refine s0 (idxMn (f := TMember.c) (n := s5_11) (TK rfl) rfl (TK rfl) rfl rfl rfl gx18) rfl ?_
     refine s0 (fieldVA (TK rfl) rfl rfl (TK rfl) rfl rfl) rfl ?_
     refine s0 (loadV (TK rfl) rfl rfl rfl) rfl ?_
     obtain ⟨x19, gx19, hE⟩ := bindO_some hE
     refine s0 (callP rfl rfl (fun H => Z21_walk gx19 H)) rfl ?_
     refine s0 (notB rfl) rfl ?_
     refine s0 moveA rfl ?_
     refine gC rfl rfl (fun hC => moveA) rfl ?_
     refine gC rfl rfl (fun hC => moveA) rfl ?_
     obtain ⟨x20, gx20, hE⟩ := guardO_some hE
     refine gC rfl rfl (fun hC => ungdA (k := 28) rfl (ungdA (k := 29) rfl (idxMn (f := TMember.c) (n := s5_11) (TK rfl) rfl (TK rfl) rfl rfl rfl (gx20 hC)))) rfl ?_
     refine gC rfl rfl (fun hC => ungdA (k := 30) rfl (fieldVA (TK rfl) rfl rfl (TK rfl) rfl rfl)) rfl ?_
     refine gC rfl rfl (fun hC => ungdA (k := 31) rfl (loadV (TK rfl) rfl rfl rfl)) rfl ?_
     obtain ⟨x21, gx21, hE⟩ := guardO_some hE
     refine gC rfl rfl (fun hC => ungdA (k := 32) rfl (callP rfl rfl (fun H => Z46_walk (gx21 hC) H))) rfl ?_
     refine gC rfl rfl (fun hC => ungdA (k := 33) rfl (notB rfl)) rfl ?_
     refine s0 (pickOrA rfl rfl rfl) rfl ?_
     refine s0 moveA rfl ?_
     refine gC rfl rfl (fun hC => moveA) rfl ?_
     refine gC rfl rfl (fun hC => ungdA (k := 37) rfl moveA) rfl ?_
     refine gC rfl rfl (fun hC => moveA) rfl ?_
     refine gC rfl rfl (fun hC => moveA) rfl ?_
     obtain ⟨x22, gx22, hE⟩ := guardO_some hE
     refine gC rfl rfl (fun hC => ungdA (k := 39) rfl (ungdA (k := 40) rfl (idxMn (f := TMember.c) (n := s5_11) (TK rfl) rfl (TK rfl) rfl rfl rfl (gx22 hC)))) rfl ?_
     refine gC rfl rfl (fun hC => ungdA (k := 41) rfl (fieldVA (TK rfl) rfl rfl (TK rfl) rfl rfl)) rfl ?_
     refine gC rfl rfl (fun hC => ungdA (k := 42) rfl (loadV (TK rfl) rfl rfl rfl)) rfl ?_
     refine gC rfl rfl (fun hC => ungdA (k := 43) rfl (lenM' (f := TDir.c) (s := x22.FDirs) (TK rfl) rfl rfl rfl)) rfl ?_
     refine gC rfl rfl (fun hC => ungdA (k := 44) rfl (binI rfl rfl rfl)) rfl ?_
     refine gC rfl rfl (fun hC => ungdA (k := 38) rfl (pickAndA rfl rfl rfl)) rfl ?_
     refine s0 (pickOrA rfl rfl rfl) rfl ?_
     refine nil ?_
     refine hK17 _ ?_
     clear hK17 K17
     refine condE hE rfl (fun hc23 hE => ?_) (fun hc23 hE => ?_)
     ·refine seqK fun K24 hK24 => ?_
      refine region ?_
      refine s0 assignA rfl ?_
      refine nil ?_
      refine hK24 _ ?_
      clear hK24 K24
      refine AWp.ret ?_
      repeat (first | refine xBlock_ret ?_ | refine xThen_ret ?_)
      obtain rfl := Option.some.inj hE
      refine retQ.retF H rfl ⟨rfl, rfl⟩ ?_
      exact (fun _ _ h => h)
     refine AWp.skip ?_
     refine hK16 _ ?_
     clear hK16 K16
     refine region ?_
     refine s0 moveA rfl ?_
     refine s0 (addIA rfl rfl) rfl ?_
     refine s0 assignA rfl ?_
     refine nil ?_
     exact hK10 _ (n10, (s5_11 + 1)) Weak.toA hE (Nat.lt_succ_self _)
    refine AWp.exit ?_
    exact hK7 _ () Weak.toA hE
 rintro _ hE
 try dsimp only at hE
 unfold Z49_j7 at hE
 refine seqK fun K8 hK8 => ?_
 refine region ?_
 refine s0 assignA rfl ?_
 refine nil ?_
 refine hK8 _ ?_
 clear hK8 K8
 refine AWp.ret ?_
 repeat (first | refine xBlock_ret ?_ | refine xThen_ret ?_)
 obtain rfl := Option.some.inj hE
 refine retQ.retF H rfl ⟨rfl, rfl⟩ ?_
 exact (fun _ _ h => h)
def Z45_j8 (a0 : TDef)   : Option Bool := bif (decide (a0.FKind = (1 : Int))) then ((Z47 a0.FFields).bind fun x15 => some ((x15 && (decide (((a0.FMembers.l.length : Nat) : Int) = (0 : Int)))) && (decide (((a0.FInputs.l.length : Nat) : Int) = (0 : Int))))) else (bif (decide (a0.FKind = (2 : Int))) then (guardO ((decide (((a0.FImplements.l.length : Nat) : Int) = (0 : Int)))) (Z47 a0.FFields) false fun x19 => some ((((decide (((a0.FImplements.l.length : Nat) : Int) = (0 : Int))) && x19) && (decide (((a0.FMembers.l.length : Nat) : Int) = (0 : Int)))) && (decide (((a0.FInputs.l.length : Nat) : Int) = (0 : Int))))) else (bif (decide (a0.FKind = (3 : Int))) then (guardO (((decide (((a0.FImplements.l.length : Nat) : Int) = (0 : Int))) && (decide (((a0.FFields.l.length : Nat) : Int) = (0 : Int))))) (Z49 a0.FMembers true) false fun x23 => some ((((decide (((a0.FImplements.l.length : Nat) : Int) = (0 : Int))) && (decide (((a0.FFields.l.length : Nat) : Int) = (0 : Int)))) && x23) && (decide (((a0.FInputs.l.length : Nat) : Int) = (0 : Int))))) else (bif (decide (a0.FKind = (4 : Int))) then (guardO (((decide (((a0.FImplements.l.length : Nat) : Int) = (0 : Int))) && (decide (((a0.FFields.l.length : Nat) : Int) = (0 : Int))))) (Z49 a0.FMembers false) false fun x27 => some ((((decide (((a0.FImplements.l.length : Nat) : Int) = (0 : Int))) && (decide (((a0.FFields.l.length : Nat) : Int) = (0 : Int)))) && x27) && (decide (((a0.FInputs.l.length : Nat) : Int) = (0 : Int))))) else (bif (decide (a0.FKind = (5 : Int))) then (guardO (((((decide (((a0.FImplements.l.length : Nat) : Int) = (0 : Int))) && (decide (((a0.FFields.l.length : Nat) : Int) = (0 : Int)))) && (decide (((a0.FMembers.l.length : Nat) : Int) = (0 : Int)))) && (decide ((0 : Int) < ((a0.FInputs.l.length : Nat) : Int))))) (Z48 a0.FInputs) false fun x31 => some (((((decide (((a0.FImplements.l.length : Nat) : Int) = (0 : Int))) && (decide (((a0.FFields.l.length : Nat) : Int) = (0 : Int)))) && (decide (((a0.FMembers.l.length : Nat) : Int) = (0 : Int)))) && (decide ((0 : Int) < ((a0.FInputs.l.length : Nat) : Int)))) && x31)) else (some false)))))
def Z45_l34 (a0 : TDef)  : Nat → Nat → Option Bool
 | 0, _ => none
 | n34 + 1, s3_35 => bif (decide (((s3_35 : Nat) : Int) < ((a0.FImplements.l.length : Nat) : Int))) then ((a0.FImplements.l[s3_35]?).bind fun x42 => (Z21 x42).bind fun x43 => bif (!x43) then (some false) else ((Z45_l34 a0 n34) (s3_35 + 1))) else (Z45_j8 a0  )
def Z45 (a0 : TDef) : Option Bool := (Z21 a0.FName).bind fun x4 => guardO (!(!x4)) (Z46 a0.FDirs) false fun x5 => bif (((!x4) || (!x5)) || (decide ((64 : Int) < ((a0.FImplements.l.length : Nat) : Int)))) then (some false) else (Z45_l34 a0 (a0.FImplements.l.length + 1) 0)
theorem Z45_walk {a0 : TDef}   {r : Bool} (hE : Z45 a0 = some r) (H : Heap)  : ACalls Tryz.prog 52 [.agg (TDef.c a0)] H fun v h' => v = .a (.d (.bool r)) ∧ h' = H := by
 unfold Z45 at hE
 refine ACalls.of_wp (fn := Tryz.f52) (c := _) Tryz.tab_ok (fun _ _ => Tryz.call52 _ _) Tryz.func52 rfl (n := 129) rfl (rs := [.tmp 2]) rfl rfl ?_
 refine seqK fun K1 hK1 => ?_
 refine region ?_
 refine s0 (boxV rfl) rfl ?_
 refine s0 assignA rfl ?_
 refine nil ?_
 refine hK1 _ ?_
 clear hK1 K1
 refine seqK fun K2 hK2 => ?_
 refine seqK fun K3 hK3 => ?_
 refine region ?_
 refine s0 (fieldVA (TK rfl) rfl rfl (TK rfl) rfl rfl) rfl ?_
 refine s0 (loadV (TK rfl) rfl rfl rfl) rfl ?_
 obtain ⟨x4, gx4, hE⟩ := bindO_some hE
 refine s0 (callP rfl rfl (fun H => Z21_walk gx4 H)) rfl ?_
 refine s0 (notB rfl) rfl ?_
 refine s0 moveA rfl ?_
 refine gC rfl rfl (fun hC => fieldVA (TK rfl) rfl rfl (TK rfl) rfl rfl) rfl ?_
 refine gC rfl rfl (fun hC => ungdA (k := 13) rfl (loadV (TK rfl) rfl rfl rfl)) rfl ?_
 obtain ⟨x5, gx5, hE⟩ := guardO_some hE
 refine gC rfl rfl (fun hC => ungdA (k := 14) rfl (callP rfl rfl (fun H => Z46_walk (gx5 hC) H))) rfl ?_
 refine gC rfl rfl (fun hC => ungdA (k := 15) rfl (notB rfl)) rfl ?_
 refine s0 (pickOrA rfl rfl rfl) rfl ?_
 refine s0 moveA rfl ?_
 refine gC rfl rfl (fun hC => fieldVA (TK rfl) rfl rfl (TK rfl) rfl rfl) rfl ?_
 refine gC rfl rfl (fun hC => ungdA (k := 19) rfl (loadV (TK rfl) rfl rfl rfl)) rfl ?_
 refine gC rfl rfl (fun hC => ungdA (k := 20) rfl (lenM' (f := strE) (s := a0.FImplements) (TK rfl) rfl rfl rfl)) rfl ?_
 refine gC rfl rfl (fun hC => ungdA (k := 21) rfl (binI rfl rfl rfl)) rfl ?_
 refine s0 (pickOrA rfl rfl rfl) rfl ?_
 refine nil ?_
 refine hK3 _ ?_
 clear hK3 K3
 refine condE hE rfl (fun hc6 hE => ?_) (fun hc6 hE => ?_)
 ·refine seqK fun K7 hK7 => ?_
  refine region ?_
  refine s0 assignA rfl ?_
  refine nil ?_
  refine hK7 _ ?_
  clear hK7 K7
  refine AWp.ret ?_
  repeat (first | refine xBlock_ret ?_ | refine xThen_ret ?_)
  obtain rfl := Option.some.inj hE
  refine retQ.retF H rfl ⟨rfl, rfl⟩ ?_
  exact (fun _ _ h => h)
 refine AWp.skip ?_
 refine hK2 _ ?_
 clear hK2 K2
 refine seqJH (KeepsT.A (k := 1) KeepsT.nil) (fun (z : Unit) => []) (fun z => H) (fun z => Z45_j8 a0  = some r) ?_ ?_
 ·intro K8 hK8
  refine seqK fun K33 hK33 => ?_
  refine region ?_
  refine s0 assignA rfl ?_
  refine nil ?_
  refine hK33 _ ?_
  clear hK33 K33
  refine block ?_
  refine loopH (KeepsT.A (k := 1) KeepsT.nil) (fun (z : Nat × Nat) => [(3, .a (.d (.int .i64 ((z.2 : Nat) : Int))))]) (fun z => H) (fun z => z.1) (fun z => Z45_l34 a0 z.1 z.2 = some r) ((a0.FImplements.l.length + 1), 0) hE Weak.toA ?_
  rintro ⟨n34, s3_35⟩ hE K34 hK34
  try dsimp only at hE
  cases n34 with
  | zero => cases hE
  | succ n34 =>
    rw [Z45_l34] at hE
    refine seqK fun K36 hK36 => ?_
    refine seqK fun K37 hK37 => ?_
    refine region ?_
    refine s0 moveA rfl ?_
    refine s0 (fieldVA (TK rfl) rfl rfl (TK rfl) rfl rfl) rfl ?_
    refine s0 (loadV (TK rfl) rfl rfl rfl) rfl ?_
    refine sLen (f := strE) (s := a0.FImplements) (TK rfl) rfl rfl rfl rfl fun hL38 => ?_
    refine s0 (binI rfl rfl rfl) rfl ?_
    refine nil ?_
    refine hK37 _ ?_
    clear hK37 K37
    refine condE hE rfl (fun hc39 hE => ?_) (fun hc39 hE => ?_)
    ·try dsimp only at hc39
     have hf39 := of_decide_eq_true hc39
     refine AWp.skip ?_
     refine hK36 _ ?_
     clear hK36 K36
     refine seqK fun K40 hK40 => ?_
     refine block ?_
     refine seqK fun K41 hK41 => ?_
     refine region ?_
     refine s0 (fieldVA (TK rfl) rfl rfl (TK rfl) rfl rfl) rfl ?_
     refine s0 (loadV (TK rfl) rfl rfl rfl) rfl ?_
     refine s0 moveA rfl ?_
     obtain ⟨x42, gx42, hE⟩ := bindO_some hE
     refine s0 (idxMn (f := strE) (n := s3_35) (TK rfl) rfl (TK rfl) rfl rfl rfl gx42) rfl ?_
     refine s0 (loadV (TK rfl) rfl rfl rfl) rfl ?_
     obtain ⟨x43, gx43, hE⟩ := bindO_some hE
     refine s0 (callP rfl rfl (fun H => Z21_walk gx43 H)) rfl ?_
     refine s0 (notB rfl) rfl ?_
     refine nil ?_
     refine hK41 _ ?_
     clear hK41 K41
     refine condE hE rfl (fun hc44 hE => ?_) (fun hc44 hE => ?_)
     ·refine seqK fun K45 hK45 => ?_
      refine region ?_
      refine s0 assignA rfl ?_
      refine nil ?_
      refine hK45 _ ?_
      clear hK45 K45
      refine AWp.ret ?_
      repeat (first | refine xBlock_ret ?_ | refine xThen_ret ?_)
      obtain rfl := Option.some.inj hE
      refine retQ.retF H rfl ⟨rfl, rfl⟩ ?_
      exact (fun _ _ h => h)
     refine AWp.skip ?_
     refine hK40 _ ?_
     clear hK40 K40
     refine region ?_
     refine s0 moveA rfl ?_
     refine s0 (addIA rfl rfl) rfl ?_
     refine s0 assignA rfl ?_
     refine nil ?_
     exact hK34 _ (n34, (s3_35 + 1)) Weak.toA hE (Nat.lt_succ_self _)
    refine AWp.exit ?_
    exact hK8 _ () Weak.toA hE
 rintro _ hE
 try dsimp only at hE
 unfold Z45_j8 at hE
 refine seqK fun K9 hK9 => ?_
 refine AWp.draw rfl ?_
 refine DOps.s0 (fieldVA (TK rfl) rfl rfl (TK rfl) rfl rfl) rfl ?_
 refine DOps.s0 (loadV (TK rfl) rfl rfl rfl) rfl ?_
 refine DOps.s0 (lenM' (f := strE) (s := a0.FImplements) (TK rfl) rfl rfl rfl) rfl ?_
 refine DOps.s0 (binI rfl rfl rfl) rfl ?_
 refine DOps.s0 (fieldVA (TK rfl) rfl rfl (TK rfl) rfl rfl) rfl ?_
 refine DOps.s0 (loadV (TK rfl) rfl rfl rfl) rfl ?_
 refine DOps.s0 (lenM' (f := TField.c) (s := a0.FFields) (TK rfl) rfl rfl rfl) rfl ?_
 refine DOps.s0 (binI rfl rfl rfl) rfl ?_
 refine DOps.s0 (fieldVA (TK rfl) rfl rfl (TK rfl) rfl rfl) rfl ?_
 refine DOps.s0 (loadV (TK rfl) rfl rfl rfl) rfl ?_
 refine DOps.s0 (lenM' (f := TMember.c) (s := a0.FMembers) (TK rfl) rfl rfl rfl) rfl ?_
 refine DOps.s0 (binI rfl rfl rfl) rfl ?_
 refine DOps.s0 (fieldVA (TK rfl) rfl rfl (TK rfl) rfl rfl) rfl ?_
 refine DOps.s0 (loadV (TK rfl) rfl rfl rfl) rfl ?_
 refine DOps.s0 (lenM' (f := TInput.c) (s := a0.FInputs) (TK rfl) rfl rfl rfl) rfl ?_
 refine DOps.s0 (binI rfl rfl rfl) rfl ?_
 refine DOps.s0 assignA rfl ?_
 refine DOps.s0 assignA rfl ?_
 refine DOps.s0 assignA rfl ?_
 refine DOps.s0 assignA rfl ?_
 refine DOps.nil (by decide +kernel) ?_
 refine hK9 _ ?_
 clear hK9 K9
 refine seqK fun K10 hK10 => ?_
 refine seqK fun K11 hK11 => ?_
 refine region ?_
 refine s0 (fieldVA (TK rfl) rfl rfl (TK rfl) rfl rfl) rfl ?_
 refine s0 (loadV (TK rfl) rfl rfl rfl) rfl ?_
 refine nil ?_
 refine hK11 _ ?_
 clear hK11 K11
 refine block ?_
 refine seqK fun K12 hK12 => ?_
 refine region ?_
 refine s0 (binI rfl rfl rfl) rfl ?_
 refine s0 assignA rfl ?_
 refine nil ?_
 refine hK12 _ ?_
 clear hK12 K12
 refine condE hE rfl (fun hc13 hE => ?_) (fun hc13 hE => ?_)
 ·refine seqK fun K14 hK14 => ?_
  refine region ?_
  refine s0 (fieldVA (TK rfl) rfl rfl (TK rfl) rfl rfl) rfl ?_
  refine s0 (loadV (TK rfl) rfl rfl rfl) rfl ?_
  obtain ⟨x15, gx15, hE⟩ := bindO_some hE
  refine s0 (callP rfl rfl (fun H => Z47_walk gx15 H)) rfl ?_
  refine s0 moveA rfl ?_
  refine gC rfl rfl (fun hC => moveA) rfl ?_
  refine s0 (pickAndA rfl rfl rfl) rfl ?_
  refine s0 moveA rfl ?_
  refine gC rfl rfl (fun hC => moveA) rfl ?_
  refine s0 (pickAndA rfl rfl rfl) rfl ?_
  refine s0 assignA rfl ?_
  refine nil ?_
  refine hK14 _ ?_
  clear hK14 K14
  refine AWp.ret ?_
  repeat (first | refine xBlock_ret ?_ | refine xThen_ret ?_)
  obtain rfl := Option.some.inj hE
  refine retQ.retF H rfl ⟨rfl, rfl⟩ ?_
  exact (fun _ _ h => h)
 refine seqK fun K16 hK16 => ?_
 refine region ?_
 refine s0 (binI rfl rfl rfl) rfl ?_
 refine s0 assignA rfl ?_
 refine nil ?_
 refine hK16 _ ?_
 clear hK16 K16
 refine condE hE rfl (fun hc17 hE => ?_) (fun hc17 hE => ?_)
 ·refine seqK fun K18 hK18 => ?_
  refine region ?_
  refine s0 moveA rfl ?_
  refine s0 moveA rfl ?_
  refine gC rfl rfl (fun hC => fieldVA (TK rfl) rfl rfl (TK rfl) rfl rfl) rfl ?_
  refine gC rfl rfl (fun hC => ungdA (k := 71) rfl (loadV (TK rfl) rfl rfl rfl)) rfl ?_
  obtain ⟨x19, gx19, hE⟩ := guardO_some hE
  refine gC rfl rfl (fun hC => ungdA (k := 72) rfl (callP rfl rfl (fun H => Z47_walk (gx19 hC) H))) rfl ?_
  refine s0 (pickAndA rfl rfl rfl) rfl ?_
  refine s0 moveA rfl ?_
  refine gC rfl rfl (fun hC => moveA) rfl ?_
  refine s0 (pickAndA rfl rfl rfl) rfl ?_
  refine s0 moveA rfl ?_
  refine gC rfl rfl (fun hC => moveA) rfl ?_
  refine s0 (pickAndA rfl rfl rfl) rfl ?_
  refine s0 assignA rfl ?_
  refine nil ?_
  refine hK18 _ ?_
  clear hK18 K18
  refine AWp.ret ?_
  repeat (first | refine xBlock_ret ?_ | refine xThen_ret ?_)
  obtain rfl := Option.some.inj hE
  refine retQ.retF H rfl ⟨rfl, rfl⟩ ?_
  exact (fun _ _ h => h)
 refine seqK fun K20 hK20 => ?_
 refine region ?_
 refine s0 (binI rfl rfl rfl) rfl ?_
 refine s0 assignA rfl ?_
 refine nil ?_
 refine hK20 _ ?_
 clear hK20 K20
 refine condE hE rfl (fun hc21 hE => ?_) (fun hc21 hE => ?_)
 ·refine seqK fun K22 hK22 => ?_
  refine region ?_
  refine s0 moveA rfl ?_
  refine s0 moveA rfl ?_
  refine gC rfl rfl (fun hC => moveA) rfl ?_
  refine s0 (pickAndA rfl rfl rfl) rfl ?_
  refine s0 moveA rfl ?_
  refine gC rfl rfl (fun hC => fieldVA (TK rfl) rfl rfl (TK rfl) rfl rfl) rfl ?_
  refine gC rfl rfl (fun hC => ungdA (k := 88) rfl (loadV (TK rfl) rfl rfl rfl)) rfl ?_
  obtain ⟨x23, gx23, hE⟩ := guardO_some hE
  refine gC rfl rfl (fun hC => ungdA (k := 89) rfl (callP rfl rfl (fun H => Z49_walk (gx23 hC) H))) rfl ?_
  refine s0 (pickAndA rfl rfl rfl) rfl ?_
  refine s0 moveA rfl ?_
  refine gC rfl rfl (fun hC => moveA) rfl ?_
  refine s0 (pickAndA rfl rfl rfl) rfl ?_
  refine s0 assignA rfl ?_
  refine nil ?_
  refine hK22 _ ?_
  clear hK22 K22
  refine AWp.ret ?_
  repeat (first | refine xBlock_ret ?_ | refine xThen_ret ?_)
  obtain rfl := Option.some.inj hE
  refine retQ.retF H rfl ⟨rfl, rfl⟩ ?_
  exact (fun _ _ h => h)
 refine seqK fun K24 hK24 => ?_
 refine region ?_
 refine s0 (binI rfl rfl rfl) rfl ?_
 refine s0 assignA rfl ?_
 refine nil ?_
 refine hK24 _ ?_
 clear hK24 K24
 refine condE hE rfl (fun hc25 hE => ?_) (fun hc25 hE => ?_)
 ·refine seqK fun K26 hK26 => ?_
  refine region ?_
  refine s0 moveA rfl ?_
  refine s0 moveA rfl ?_
  refine gC rfl rfl (fun hC => moveA) rfl ?_
  refine s0 (pickAndA rfl rfl rfl) rfl ?_
  refine s0 moveA rfl ?_
  refine gC rfl rfl (fun hC => fieldVA (TK rfl) rfl rfl (TK rfl) rfl rfl) rfl ?_
  refine gC rfl rfl (fun hC => ungdA (k := 102) rfl (loadV (TK rfl) rfl rfl rfl)) rfl ?_
  obtain ⟨x27, gx27, hE⟩ := guardO_some hE
  refine gC rfl rfl (fun hC => ungdA (k := 103) rfl (callP rfl rfl (fun H => Z49_walk (gx27 hC) H))) rfl ?_
  refine s0 (pickAndA rfl rfl rfl) rfl ?_
  refine s0 moveA rfl ?_
  refine gC rfl rfl (fun hC => moveA) rfl ?_
  refine s0 (pickAndA rfl rfl rfl) rfl ?_
  refine s0 assignA rfl ?_
  refine nil ?_
  refine hK26 _ ?_
  clear hK26 K26
  refine AWp.ret ?_
  repeat (first | refine xBlock_ret ?_ | refine xThen_ret ?_)
  obtain rfl := Option.some.inj hE
  refine retQ.retF H rfl ⟨rfl, rfl⟩ ?_
  exact (fun _ _ h => h)
 refine seqK fun K28 hK28 => ?_
 refine region ?_
 refine s0 (binI rfl rfl rfl) rfl ?_
 refine s0 assignA rfl ?_
 refine nil ?_
 refine hK28 _ ?_
 clear hK28 K28
 refine condE hE rfl (fun hc29 hE => ?_) (fun hc29 hE => ?_)
 ·refine seqK fun K30 hK30 => ?_
  refine region ?_
  refine s0 moveA rfl ?_
  refine s0 moveA rfl ?_
  refine gC rfl rfl (fun hC => moveA) rfl ?_
  refine s0 (pickAndA rfl rfl rfl) rfl ?_
  refine s0 moveA rfl ?_
  refine gC rfl rfl (fun hC => moveA) rfl ?_
  refine s0 (pickAndA rfl rfl rfl) rfl ?_
  refine s0 moveA rfl ?_
  refine gC rfl rfl (fun hC => fieldVA (TK rfl) rfl rfl (TK rfl) rfl rfl) rfl ?_
  refine gC rfl rfl (fun hC => ungdA (k := 119) rfl (loadV (TK rfl) rfl rfl rfl)) rfl ?_
  refine gC rfl rfl (fun hC => ungdA (k := 120) rfl (lenM' (f := TInput.c) (s := a0.FInputs) (TK rfl) rfl rfl rfl)) rfl ?_
  refine gC rfl rfl (fun hC => ungdA (k := 121) rfl (binI rfl rfl rfl)) rfl ?_
  refine s0 (pickAndA rfl rfl rfl) rfl ?_
  refine s0 moveA rfl ?_
  refine gC rfl rfl (fun hC => fieldVA (TK rfl) rfl rfl (TK rfl) rfl rfl) rfl ?_
  refine gC rfl rfl (fun hC => ungdA (k := 125) rfl (loadV (TK rfl) rfl rfl rfl)) rfl ?_
  obtain ⟨x31, gx31, hE⟩ := guardO_some hE
  refine gC rfl rfl (fun hC => ungdA (k := 126) rfl (callP rfl rfl (fun H => Z48_walk (gx31 hC) H))) rfl ?_
  refine s0 (pickAndA rfl rfl rfl) rfl ?_
  refine s0 assignA rfl ?_
  refine nil ?_
  refine hK30 _ ?_
  clear hK30 K30
  refine AWp.ret ?_
  repeat (first | refine xBlock_ret ?_ | refine xThen_ret ?_)
  obtain rfl := Option.some.inj hE
  refine retQ.retF H rfl ⟨rfl, rfl⟩ ?_
  exact (fun _ _ h => h)
 refine AWp.skip ?_
 refine hK10 _ ?_
 clear hK10 K10
 refine seqK fun K32 hK32 => ?_
 refine region ?_
 refine s0 assignA rfl ?_
 refine nil ?_
 refine hK32 _ ?_
 clear hK32 K32
 refine AWp.ret ?_
 repeat (first | refine xBlock_ret ?_ | refine xThen_ret ?_)
 obtain rfl := Option.some.inj hE
 refine retQ.retF H rfl ⟨rfl, rfl⟩ ?_
 exact (fun _ _ h => h)
end Go.Proofs
