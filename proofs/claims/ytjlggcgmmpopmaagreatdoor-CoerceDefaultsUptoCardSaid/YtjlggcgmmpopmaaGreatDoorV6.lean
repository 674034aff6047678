import Derived.Test.YtjlggcgmmpopmaaGreatDoorV5
set_option maxRecDepth 100000
set_option maxHeartbeats 2000000
set_option linter.unusedVariables false
set_option linter.unusedSimpArgs false
namespace Go.Proofs
open Go Go.Ab
open AOps Cert AWp
variable {lou : Lou}
def Z47_j7   : Option Bool := some true
def Z47_l10 (a0 : (Sl TMember)) (a1 : Bool)  : Nat → Nat → Option Bool
 | 0, _ => none
 | n10 + 1, s5_11 => bif (decide (((s5_11 : Nat) : Int) < ((a0.l.length : Nat) : Int))) then ((a0.l[s5_11]?).bind fun x18 => (Z21 x18.FName).bind fun x19 => guardO (!(!x19)) (a0.l[s5_11]?) TMember.zero fun x20 => guardO (!(!x19)) (Z44 x20.FDirs) false fun x21 => guardO ((!((!x19) || (!x21)) && a1)) (a0.l[s5_11]?) TMember.zero fun x22 => bif (((!x19) || (!x21)) || (a1 && (decide ((0 : Int) < ((x22.FDirs.l.length : Nat) : Int))))) then (some false) else ((Z47_l10 a0 a1 n10) (s5_11 + 1))) else (Z47_j7   )
def Z47 (a0 : (Sl TMember)) (a1 : Bool) : Option Bool := bif ((decide (((a0.l.length : Nat) : Int) < (1 : Int))) || (decide ((64 : Int) < ((a0.l.length : Nat) : Int)))) then (some false) else (Z47_l10 a0 a1 (a0.l.length + 1) 0)
theorem Z47_walk {a0 : (Sl TMember)} {a1 : Bool} {w0 : Option Nat}  {r : Bool} (hE : Z47 a0 a1 = some r) (H : Heap)  : ACalls Tryz.prog 78 [.d (Sl.d 2 TMember.c w0 a0), .d (.bool a1)] H fun v h' => v = .a (.d (.bool r)) ∧ h' = H := by
 unfold Z47 at hE
 refine ACalls.of_wp (fn := Tryz.f78) (c := _) Tryz.tab_ok (fun _ _ => Tryz.call78 _ _) Tryz.func78 rfl (n := 48) rfl (rs := [.tmp 4]) rfl rfl ?_
 refine seqK fun K1 hK1 => ?_
 refine region ?_
 refine s0 assignA rfl ?_
 refine nil ?_
 refine hK1 _ ?_
 clear hK1 K1
 refine seqK fun K2 hK2 => ?_
 refine seqK fun K3 hK3 => ?_
 refine region ?_
 refine s0 moveA rfl ?_
 refine sLen (f := TMember.c) (s := a0) (TK rfl) rfl rfl rfl rfl fun hL4 => ?_
 refine s0 (binI rfl rfl rfl) rfl ?_
 refine s0 moveA rfl ?_
 refine gC rfl rfl (fun hC => moveA) rfl ?_
 refine gC rfl rfl (fun hC => ungdA (k := 10) rfl (lenM' (f := TMember.c) (s := a0) (TK rfl) rfl rfl rfl)) rfl ?_
 refine gC rfl rfl (fun hC => ungdA (k := 11) rfl (binI rfl rfl rfl)) rfl ?_
 refine s0 (pickOrA rfl rfl rfl) rfl ?_
 refine nil ?_
 refine hK3 _ ?_
 clear hK3 K3
 refine condE hE rfl (fun hc5 hE => ?_) (fun hc5 hE => ?_)
 ·refine seqK fun K6 hK6 => ?_
  refine region ?_
  refine s0 assignA rfl ?_
  refine nil ?_
  refine hK6 _ ?_
  clear hK6 K6
  refine AWp.ret ?_
  repeat (first | refine xBlock_ret ?_ | refine xThen_ret ?_)
  obtain rfl := Option.some.inj hE
  refine retQ.retF H rfl ⟨rfl, rfl⟩ ?_
  exact (fun _ _ h => h)
 refine AWp.skip ?_
 refine hK2 _ ?_
 clear hK2 K2
 refine seqJH KeepsT.nil (fun (z : Unit) => []) (fun z => H) (fun z => Z47_j7  = some r) ?_ ?_
 ·intro K7 hK7
  refine seqK fun K9 hK9 => ?_
  refine region ?_
  refine s0 assignA rfl ?_
  refine nil ?_
  refine hK9 _ ?_
  clear hK9 K9
  refine block ?_
  refine loopH (KeepsT.A (k := 0) (KeepsT.A (k := 1) KeepsT.nil)) (fun (z : Nat × Nat) => [(5, .a (.d (.int .i64 ((z.2 : Nat) : Int))))]) (fun z => H) (fun z => z.1) (fun z => Z47_l10 a0 a1 z.1 z.2 = some r) ((a0.l.length + 1), 0) hE Weak.toA ?_
  rintro ⟨n10, s5_11⟩ hE K10 hK10
  try dsimp only at hE
  cases n10 with
  | zero => cases hE
  | succ n10 =>
    rw [Z47_l10] at hE
    refine seqK fun K12 hK12 => ?_
    refine seqK fun K13 hK13 => ?_
    refine region ?_
    refine s0 moveA rfl ?_
    refine s0 moveA rfl ?_
    refine sLen (f := TMember.c) (s := a0) (TK rfl) rfl rfl rfl rfl fun hL14 => ?_
    refine s0 (binI rfl rfl rfl) rfl ?_
    refine nil ?_
    refine hK13 _ ?_
    clear hK13 K13
    refine condE hE rfl (fun hc15 hE => ?_) (fun hc15 hE => ?_)
    ·try dsimp only at hc15
     have hf15 := of_decide_eq_true hc15
     refine AWp.skip ?_
     refine hK12 _ ?_
     clear hK12 K12
     refine seqK fun K16 hK16 => ?_
     refine block ?_
     refine seqK fun K17 hK17 => ?_
     refine region ?_
     refine s0 moveA rfl ?_
     refine s0 moveA rfl ?_
     obtain ⟨x18, gx18, hE⟩ := bindO_some hE
     refine s0 (idxMn (f := TMember.c) (n := s5_11) (TK rfl) rfl (TK rfl) rfl rfl rfl gx18) rfl ?_
     refine s0 (fieldVA (TK rfl) rfl rfl (TK rfl) rfl rfl) rfl ?_
     refine s0 (loadV (TK rfl) rfl rfl rfl) rfl ?_
     obtain ⟨x19, gx19, hE⟩ := bindO_some hE
     refine s0 (callP rfl rfl (fun H => Z21_walk gx19 H)) rfl ?_
     refine s0 (notB rfl) rfl ?_
     refine s0 moveA rfl ?_
     refine gC rfl rfl (fun hC => moveA) rfl ?_
     refine gC rfl rfl (fun hC => moveA) rfl ?_
     obtain ⟨x20, gx20, hE⟩ := guardO_some hE
     refine gC rfl rfl (fun hC => ungdA (k := 28) rfl (ungdA (k := 29) rfl (idxMn (f := TMember.c) (n := s5_11) (TK rfl) rfl (TK rfl) rfl rfl rfl (gx20 hC)))) rfl ?_
     refine gC rfl rfl (fun hC => ungdA (k := 30) rfl (fieldVA (TK rfl) rfl rfl (TK rfl) rfl rfl)) rfl ?_
     refine gC rfl rfl (fun hC => ungdA (k := 31) rfl (loadV (TK rfl) rfl rfl rfl)) rfl ?_
     obtain ⟨x21, gx21, hE⟩ := guardO_some hE
     refine gC rfl rfl (fun hC => ungdA (k := 32) rfl (callP rfl rfl (fun H => Z44_walk (gx21 hC) H))) rfl ?_
     refine gC rfl rfl (fun hC => ungdA (k := 33) rfl (notB rfl)) rfl ?_
     refine s0 (pickOrA rfl rfl rfl) rfl ?_
     refine s0 moveA rfl ?_
     refine gC rfl rfl (fun hC => moveA) rfl ?_
     refine gC rfl rfl (fun hC => ungdA (k := 37) rfl moveA) rfl ?_
     refine gC rfl rfl (fun hC => moveA) rfl ?_
     refine gC rfl rfl (fun hC => moveA) rfl ?_
     obtain ⟨x22, gx22, hE⟩ := guardO_some hE
     refine gC rfl rfl (fun hC => ungdA (k := 39) rfl (ungdA (k := 40) rfl (idxMn (f := TMember.c) (n := s5_11) (TK rfl) rfl (TK rfl) rfl rfl rfl (gx22 hC)))) rfl ?_
     refine gC rfl rfl (fun hC => ungdA (k := 41) rfl (fieldVA (TK rfl) rfl rfl (TK rfl) rfl rfl)) rfl ?_
     refine gC rfl rfl (fun hC => ungdA (k := 42) rfl (loadV (TK rfl) rfl rfl rfl)) rfl ?_
     refine gC rfl rfl (fun hC => ungdA (k := 43) rfl (lenM' (f := TDir.c) (s := x22.FDirs) (TK rfl) rfl rfl rfl)) rfl ?_
     refine gC rfl rfl (fun hC => ungdA (k := 44) rfl (binI rfl rfl rfl)) rfl ?_
     refine gC rfl rfl (fun hC => ungdA (k := 38) rfl (pickAndA rfl rfl rfl)) rfl ?_
     refine s0 (pickOrA rfl rfl rfl) rfl ?_
     refine nil ?_
     refine hK17 _ ?_
     clear hK17 K17
     refine condE hE rfl (fun hc23 hE => ?_) (fun hc23 hE => ?_)
     ·refine seqK fun K24 hK24 => ?_
      refine region ?_
      refine s0 assignA rfl ?_
      refine nil ?_
      refine hK24 _ ?_
      clear hK24 K24
      refine AWp.ret ?_
      repeat (first | refine xBlock_ret ?_ | refine xThen_ret ?_)
      obtain rfl := Option.some.inj hE
      refine retQ.retF H rfl ⟨rfl, rfl⟩ ?_
      exact (fun _ _ h => h)
     refine AWp.skip ?_
     refine hK16 _ ?_
     clear hK16 K16
     refine region ?_
     refine s0 moveA rfl ?_
     refine s0 (addIA rfl rfl) rfl ?_
     refine s0 assignA rfl ?_
     refine nil ?_
     exact hK10 _ (n10, (s5_11 + 1)) Weak.toA hE (Nat.lt_succ_self _)
    refine AWp.exit ?_
    exact hK7 _ () Weak.toA hE
 rintro _ hE
 try dsimp only at hE
 unfold Z47_j7 at hE
 refine seqK fun K8 hK8 => ?_
 refine region ?_
 refine s0 assignA rfl ?_
 refine nil ?_
 refine hK8 _ ?_
 clear hK8 K8
 refine AWp.ret ?_
 repeat (first | refine xBlock_ret ?_ | refine xThen_ret ?_)
 obtain rfl := Option.some.inj hE
 refine retQ.retF H rfl ⟨rfl, rfl⟩ ?_
 exact (fun _ _ h => h)
def Z43_j8 (a0 : TDef)   : Option Bool := bif (decide (a0.FKind = (1 : Int))) then ((Z45 a0.FFields).bind fun x15 => some ((x15 && (decide (((a0.FMembers.l.length : Nat) : Int) = (0 : Int)))) && (decide (((a0.FInputs.l.length : Nat) : Int) = (0 : Int))))) else (bif (decide (a0.FKind = (2 : Int))) then (guardO ((decide (((a0.FImplements.l.length : Nat) : Int) = (0 : Int)))) (Z45 a0.FFields) false fun x19 => some ((((decide (((a0.FImplements.l.length : Nat) : Int) = (0 : Int))) && x19) && (decide (((a0.FMembers.l.length : Nat) : Int) = (0 : Int)))) && (decide (((a0.FInputs.l.length : Nat) : Int) = (0 : Int))))) else (bif (decide (a0.FKind = (3 : Int))) then (guardO (((decide (((a0.FImplements.l.length : Nat) : Int) = (0 : Int))) && (decide (((a0.FFields.l.length : Nat) : Int) = (0 : Int))))) (Z47 a0.FMembers true) false fun x23 => some ((((decide (((a0.FImplements.l.length : Nat) : Int) = (0 : Int))) && (decide (((a0.FFields.l.length : Nat) : Int) = (0 : Int)))) && x23) && (decide (((a0.FInputs.l.length : Nat) : Int) = (0 : Int))))) else (bif (decide (a0.FKind = (4 : Int))) then (guardO (((decide (((a0.FImplements.l.length : Nat) : Int) = (0 : Int))) && (decide (((a0.FFields.l.length : Nat) : Int) = (0 : Int))))) (Z47 a0.FMembers false) false fun x27 => some ((((decide (((a0.FImplements.l.length : Nat) : Int) = (0 : Int))) && (decide (((a0.FFields.l.length : Nat) : Int) = (0 : Int)))) && x27) && (decide (((a0.FInputs.l.length : Nat) : Int) = (0 : Int))))) else (bif (decide (a0.FKind = (5 : Int))) then (guardO (((((decide (((a0.FImplements.l.length : Nat) : Int) = (0 : Int))) && (decide (((a0.FFields.l.length : Nat) : Int) = (0 : Int)))) && (decide (((a0.FMembers.l.length : Nat) : Int) = (0 : Int)))) && (decide ((0 : Int) < ((a0.FInputs.l.length : Nat) : Int))))) (Z46 a0.FInputs) false fun x31 => some (((((decide (((a0.FImplements.l.length : Nat) : Int) = (0 : Int))) && (decide (((a0.FFields.l.length : Nat) : Int) = (0 : Int)))) && (decide (((a0.FMembers.l.length : Nat) : Int) = (0 : Int)))) && (decide ((0 : Int) < ((a0.FInputs.l.length : Nat) : Int)))) && x31)) else (some false)))))
def Z43_l34 (a0 : TDef)  : Nat → Nat → Option Bool
 | 0, _ => none
 | n34 + 1, s3_35 => bif (decide (((s3_35 : Nat) : Int) < ((a0.FImplements.l.length : Nat) : Int))) then ((a0.FImplements.l[s3_35]?).bind fun x42 => (Z21 x42).bind fun x43 => bif (!x43) then (some false) else ((Z43_l34 a0 n34) (s3_35 + 1))) else (Z43_j8 a0  )
def Z43 (a0 : TDef) : Option Bool := (Z21 a0.FName).bind fun x4 => guardO (!(!x4)) (Z44 a0.FDirs) false fun x5 => bif (((!x4) || (!x5)) || (decide ((64 : Int) < ((a0.FImplements.l.length : Nat) : Int)))) then (some false) else (Z43_l34 a0 (a0.FImplements.l.length + 1) 0)
theorem Z43_walk {a0 : TDef}   {r : Bool} (hE : Z43 a0 = some r) (H : Heap)  : ACalls Tryz.prog 52 [.agg (TDef.c a0)] H fun v h' => v = .a (.d (.bool r)) ∧ h' = H := by
 unfold Z43 at hE
 refine ACalls.of_wp (fn := Tryz.f52) (c := _) Tryz.tab_ok (fun _ _ => Tryz.call52 _ _) Tryz.func52 rfl (n := 129) rfl (rs := [.tmp 2]) rfl rfl ?_
 refine seqK fun K1 hK1 => ?_
 refine region ?_
 refine s0 (boxV rfl) rfl ?_
 refine s0 assignA rfl ?_
 refine nil ?_
 refine hK1 _ ?_
 clear hK1 K1
 refine seqK fun K2 hK2 => ?_
 refine seqK fun K3 hK3 => ?_
 refine region ?_
 refine s0 (fieldVA (TK rfl) rfl rfl (TK rfl) rfl rfl) rfl ?_
 refine s0 (loadV (TK rfl) rfl rfl rfl) rfl ?_
 obtain ⟨x4, gx4, hE⟩ := bindO_some hE
 refine s0 (callP rfl rfl (fun H => Z21_walk gx4 H)) rfl ?_
 refine s0 (notB rfl) rfl ?_
 refine s0 moveA rfl ?_
 refine gC rfl rfl (fun hC => fieldVA (TK rfl) rfl rfl (TK rfl) rfl rfl) rfl ?_
 refine gC rfl rfl (fun hC => ungdA (k := 13) rfl (loadV (TK rfl) rfl rfl rfl)) rfl ?_
 obtain ⟨x5, gx5, hE⟩ := guardO_some hE
 refine gC rfl rfl (fun hC => ungdA (k := 14) rfl (callP rfl rfl (fun H => Z44_walk (gx5 hC) H))) rfl ?_
 refine gC rfl rfl (fun hC => ungdA (k := 15) rfl (notB rfl)) rfl ?_
 refine s0 (pickOrA rfl rfl rfl) rfl ?_
 refine s0 moveA rfl ?_
 refine gC rfl rfl (fun hC => fieldVA (TK rfl) rfl rfl (TK rfl) rfl rfl) rfl ?_
 refine gC rfl rfl (fun hC => ungdA (k := 19) rfl (loadV (TK rfl) rfl rfl rfl)) rfl ?_
 refine gC rfl rfl (fun hC => ungdA (k := 20) rfl (lenM' (f := strE) (s := a0.FImplements) (TK rfl) rfl rfl rfl)) rfl ?_
 refine gC rfl rfl (fun hC => ungdA (k := 21) rfl (binI rfl rfl rfl)) rfl ?_
 refine s0 (pickOrA rfl rfl rfl) rfl ?_
 refine nil ?_
 refine hK3 _ ?_
 clear hK3 K3
 refine condE hE rfl (fun hc6 hE => ?_) (fun hc6 hE => ?_)
 ·refine seqK fun K7 hK7 => ?_
  refine region ?_
  refine s0 assignA rfl ?_
  refine nil ?_
  refine hK7 _ ?_
  clear hK7 K7
  refine AWp.ret ?_
  repeat (first | refine xBlock_ret ?_ | refine xThen_ret ?_)
  obtain rfl := Option.some.inj hE
  refine retQ.retF H rfl ⟨rfl, rfl⟩ ?_
  exact (fun _ _ h => h)
 refine AWp.skip ?_
 refine hK2 _ ?_
 clear hK2 K2
 refine seqJH (KeepsT.A (k := 1) KeepsT.nil) (fun (z : Unit) => []) (fun z => H) (fun z => Z43_j8 a0  = some r) ?_ ?_
 ·intro K8 hK8
  refine seqK fun K33 hK33 => ?_
  refine region ?_
  refine s0 assignA rfl ?_
  refine nil ?_
  refine hK33 _ ?_
  clear hK33 K33
  refine block ?_
  refine loopH (KeepsT.A (k := 1) KeepsT.nil) (fun (z : Nat × Nat) => [(3, .a (.d (.int .i64 ((z.2 : Nat) : Int))))]) (fun z => H) (fun z => z.1) (fun z => Z43_l34 a0 z.1 z.2 = some r) ((a0.FImplements.l.length + 1), 0) hE Weak.toA ?_
  rintro ⟨n34, s3_35⟩ hE K34 hK34
  try dsimp only at hE
  cases n34 with
  | zero => cases hE
  | succ n34 =>
    rw [Z43_l34] at hE
    refine seqK fun K36 hK36 => ?_
    refine seqK fun K37 hK37 => ?_
    refine region ?_
    refine s0 moveA rfl ?_
    refine s0 (fieldVA (TK rfl) rfl rfl (TK rfl) rfl rfl) rfl ?_
    refine s0 (loadV (TK rfl) rfl rfl rfl) rfl ?_
    refine sLen (f := strE) (s := a0.FImplements) (TK rfl) rfl rfl rfl rfl fun hL38 => ?_
    refine s0 (binI rfl rfl rfl) rfl ?_
    refine nil ?_
    refine hK37 _ ?_
    clear hK37 K37
    refine condE hE rfl (fun hc39 hE => ?_) (fun hc39 hE => ?_)
    ·try dsimp only at hc39
     have hf39 := of_decide_eq_true hc39
     refine AWp.skip ?_
     refine hK36 _ ?_
     clear hK36 K36
     refine seqK fun K40 hK40 => ?_
     refine block ?_
     refine seqK fun K41 hK41 => ?_
     refine region ?_
     refine s0 (fieldVA (TK rfl) rfl rfl (TK rfl) rfl rfl) rfl ?_
     refine s0 (loadV (TK rfl) rfl rfl rfl) rfl ?_
     refine s0 moveA rfl ?_
     obtain ⟨x42, gx42, hE⟩ := bindO_some hE
     refine s0 (idxMn (f := strE) (n := s3_35) (TK rfl) rfl (TK rfl) rfl rfl rfl gx42) rfl ?_
     refine s0 (loadV (TK rfl) rfl rfl rfl) rfl ?_
     obtain ⟨x43, gx43, hE⟩ := bindO_some hE
     refine s0 (callP rfl rfl (fun H => Z21_walk gx43 H)) rfl ?_
     refine s0 (notB rfl) rfl ?_
     refine nil ?_
     refine hK41 _ ?_
     clear hK41 K41
     refine condE hE rfl (fun hc44 hE => ?_) (fun hc44 hE => ?_)
     ·refine seqK fun K45 hK45 => ?_
      refine region ?_
      refine s0 assignA rfl ?_
      refine nil ?_
      refine hK45 _ ?_
      clear hK45 K45
      refine AWp.ret ?_
      repeat (first | refine xBlock_ret ?_ | refine xThen_ret ?_)
      obtain rfl := Option.some.inj hE
      refine retQ.retF H rfl ⟨rfl, rfl⟩ ?_
      exact (fun _ _ h => h)
     refine AWp.skip ?_
     refine hK40 _ ?_
     clear hK40 K40
     refine region ?_
     refine s0 moveA rfl ?_
     refine s0 (addIA rfl rfl) rfl ?_
     refine s0 assignA rfl ?_
     refine nil ?_
     exact hK34 _ (n34, (s3_35 + 1)) Weak.toA hE (Nat.lt_succ_self _)
    refine AWp.exit ?_
    exact hK8 _ () Weak.toA hE
 rintro _ hE
 try dsimp only at hE
 unfold Z43_j8 at hE
 refine seqK fun K9 hK9 => ?_
 refine AWp.draw rfl ?_
 refine DOps.s0 (fieldVA (TK rfl) rfl rfl (TK rfl) rfl rfl) rfl ?_
 refine DOps.s0 (loadV (TK rfl) rfl rfl rfl) rfl ?_
 refine DOps.s0 (lenM' (f := strE) (s := a0.FImplements) (TK rfl) rfl rfl rfl) rfl ?_
 refine DOps.s0 (binI rfl rfl rfl) rfl ?_
 refine DOps.s0 (fieldVA (TK rfl) rfl rfl (TK rfl) rfl rfl) rfl ?_
 refine DOps.s0 (loadV (TK rfl) rfl rfl rfl) rfl ?_
 refine DOps.s0 (lenM' (f := TField.c) (s := a0.FFields) (TK rfl) rfl rfl rfl) rfl ?_
 refine DOps.s0 (binI rfl rfl rfl) rfl ?_
 refine DOps.s0 (fieldVA (TK rfl) rfl rfl (TK rfl) rfl rfl) rfl ?_
 refine DOps.s0 (loadV (TK rfl) rfl rfl rfl) rfl ?_
 refine DOps.s0 (lenM' (f := TMember.c) (s := a0.FMembers) (TK rfl) rfl rfl rfl) rfl ?_
 refine DOps.s0 (binI rfl rfl rfl) rfl ?_
 refine DOps.s0 (fieldVA (TK rfl) rfl rfl (TK rfl) rfl rfl) rfl ?_
 refine DOps.s0 (loadV (TK rfl) rfl rfl rfl) rfl ?_
 refine DOps.s0 (lenM' (f := TInput.c) (s := a0.FInputs) (TK rfl) rfl rfl rfl) rfl ?_
 refine DOps.s0 (binI rfl rfl rfl) rfl ?_
 refine DOps.s0 assignA rfl ?_
 refine DOps.s0 assignA rfl ?_
 refine DOps.s0 assignA rfl ?_
 refine DOps.s0 assignA rfl ?_
 refine DOps.nil (by decide +kernel) ?_
 refine hK9 _ ?_
 clear hK9 K9
 refine seqK fun K10 hK10 => ?_
 refine seqK fun K11 hK11 => ?_
 refine region ?_
 refine s0 (fieldVA (TK rfl) rfl rfl (TK rfl) rfl rfl) rfl ?_
 refine s0 (loadV (TK rfl) rfl rfl rfl) rfl ?_
 refine nil ?_
 refine hK11 _ ?_
 clear hK11 K11
 refine block ?_
 refine seqK fun K12 hK12 => ?_
 refine region ?_
 refine s0 (binI rfl rfl rfl) rfl ?_
 refine s0 assignA rfl ?_
 refine nil ?_
 refine hK12 _ ?_
 clear hK12 K12
 refine condE hE rfl (fun hc13 hE => ?_) (fun hc13 hE => ?_)
 ·refine seqK fun K14 hK14 => ?_
  refine region ?_
  refine s0 (fieldVA (TK rfl) rfl rfl (TK rfl) rfl rfl) rfl ?_
  refine s0 (loadV (TK rfl) rfl rfl rfl) rfl ?_
  obtain ⟨x15, gx15, hE⟩ := bindO_some hE
  refine s0 (callP rfl rfl (fun H => Z45_walk gx15 H)) rfl ?_
  refine s0 moveA rfl ?_
  refine gC rfl rfl (fun hC => moveA) rfl ?_
  refine s0 (pickAndA rfl rfl rfl) rfl ?_
  refine s0 moveA rfl ?_
  refine gC rfl rfl (fun hC => moveA) rfl ?_
  refine s0 (pickAndA rfl rfl rfl) rfl ?_
  refine s0 assignA rfl ?_
  refine nil ?_
  refine hK14 _ ?_
  clear hK14 K14
  refine AWp.ret ?_
  repeat (first | refine xBlock_ret ?_ | refine xThen_ret ?_)
  obtain rfl := Option.some.inj hE
  refine retQ.retF H rfl ⟨rfl, rfl⟩ ?_
  exact (fun _ _ h => h)
 refine seqK fun K16 hK16 => ?_
 refine region ?_
 refine s0 (binI rfl rfl rfl) rfl ?_
 refine s0 assignA rfl ?_
 refine nil ?_
 refine hK16 _ ?_
 clear hK16 K16
 refine condE hE rfl (fun hc17 hE => ?_) (fun hc17 hE => ?_)
 ·refine seqK fun K18 hK18 => ?_
  refine region ?_
  refine s0 moveA rfl ?_
  refine s0 moveA rfl ?_
  refine gC rfl rfl (fun hC => fieldVA (TK rfl) rfl rfl (TK rfl) rfl rfl) rfl ?_
  refine gC rfl rfl (fun hC => ungdA (k := 71) rfl (loadV (TK rfl) rfl rfl rfl)) rfl ?_
  obtain ⟨x19, gx19, hE⟩ := guardO_some hE
  refine gC rfl rfl (fun hC => ungdA (k := 72) rfl (callP rfl rfl (fun H => Z45_walk (gx19 hC) H))) rfl ?_
  refine s0 (pickAndA rfl rfl rfl) rfl ?_
  refine s0 moveA rfl ?_
  refine gC rfl rfl (fun hC => moveA) rfl ?_
  refine s0 (pickAndA rfl rfl rfl) rfl ?_
  refine s0 moveA rfl ?_
  refine gC rfl rfl (fun hC => moveA) rfl ?_
  refine s0 (pickAndA rfl rfl rfl) rfl ?_
  refine s0 assignA rfl ?_
  refine nil ?_
  refine hK18 _ ?_
  clear hK18 K18
  refine AWp.ret ?_
  repeat (first | refine xBlock_ret ?_ | refine xThen_ret ?_)
  obtain rfl := Option.some.inj hE
  refine retQ.retF H rfl ⟨rfl, rfl⟩ ?_
  exact (fun _ _ h => h)
 refine seqK fun K20 hK20 => ?_
 refine region ?_
 refine s0 (binI rfl rfl rfl) rfl ?_
 refine s0 assignA rfl ?_
 refine nil ?_
 refine hK20 _ ?_
 clear hK20 K20
 refine condE hE rfl (fun hc21 hE => ?_) (fun hc21 hE => ?_)
 ·refine seqK fun K22 hK22 => ?_
  refine region ?_
  refine s0 moveA rfl ?_
  refine s0 moveA rfl ?_
  refine gC rfl rfl (fun hC => moveA) rfl ?_
  refine s0 (pickAndA rfl rfl rfl) rfl ?_
  refine s0 moveA rfl ?_
  refine gC rfl rfl (fun hC => fieldVA (TK rfl) rfl rfl (TK rfl) rfl rfl) rfl ?_
  refine gC rfl rfl (fun hC => ungdA (k := 88) rfl (loadV (TK rfl) rfl rfl rfl)) rfl ?_
  obtain ⟨x23, gx23, hE⟩ := guardO_some hE
  refine gC rfl rfl (fun hC => ungdA (k := 89) rfl (callP rfl rfl (fun H => Z47_walk (gx23 hC) H))) rfl ?_
  refine s0 (pickAndA rfl rfl rfl) rfl ?_
  refine s0 moveA rfl ?_
  refine gC rfl rfl (fun hC => moveA) rfl ?_
  refine s0 (pickAndA rfl rfl rfl) rfl ?_
  refine s0 assignA rfl ?_
  refine nil ?_
  refine hK22 _ ?_
  clear hK22 K22
  refine AWp.ret ?_
  repeat (first | refine xBlock_ret ?_ | refine xThen_ret ?_)
  obtain rfl := Option.some.inj hE
  refine retQ.retF H rfl ⟨rfl, rfl⟩ ?_
  exact (fun _ _ h => h)
 refine seqK fun K24 hK24 => ?_
 refine region ?_
 refine s0 (binI rfl rfl rfl) rfl ?_
 refine s0 assignA rfl ?_
 refine nil ?_
 refine hK24 _ ?_
 clear hK24 K24
 refine condE hE rfl (fun hc25 hE => ?_) (fun hc25 hE => ?_)
 ·refine seqK fun K26 hK26 => ?_
  refine region ?_
  refine s0 moveA rfl ?_
  refine s0 moveA rfl ?_
  refine gC rfl rfl (fun hC => moveA) rfl ?_
  refine s0 (pickAndA rfl rfl rfl) rfl ?_
  refine s0 moveA rfl ?_
  refine gC rfl rfl (fun hC => fieldVA (TK rfl) rfl rfl (TK rfl) rfl rfl) rfl ?_
  refine gC rfl rfl (fun hC => ungdA (k := 102) rfl (loadV (TK rfl) rfl rfl rfl)) rfl ?_
  obtain ⟨x27, gx27, hE⟩ := guardO_some hE
  refine gC rfl rfl (fun hC => ungdA (k := 103) rfl (callP rfl rfl (fun H => Z47_walk (gx27 hC) H))) rfl ?_
  refine s0 (pickAndA rfl rfl rfl) rfl ?_
  refine s0 moveA rfl ?_
  refine gC rfl rfl (fun hC => moveA) rfl ?_
  refine s0 (pickAndA rfl rfl rfl) rfl ?_
  refine s0 assignA rfl ?_
  refine nil ?_
  refine hK26 _ ?_
  clear hK26 K26
  refine AWp.ret ?_
  repeat (first | refine xBlock_ret ?_ | refine xThen_ret ?_)
  obtain rfl := Option.some.inj hE
  refine retQ.retF H rfl ⟨rfl, rfl⟩ ?_
  exact (fun _ _ h => h)
 refine seqK fun K28 hK28 => ?_
 refine region ?_
 refine s0 (binI rfl rfl rfl) rfl ?_
 refine s0 assignA rfl ?_
 refine nil ?_
 refine hK28 _ ?_
 clear hK28 K28
 refine condE hE rfl (fun hc29 hE => ?_) (fun hc29 hE => ?_)
 ·refine seqK fun K30 hK30 => ?_
  refine region ?_
  refine s0 moveA rfl ?_
  refine s0 moveA rfl ?_
  refine gC rfl rfl (fun hC => moveA) rfl ?_
  refine s0 (pickAndA rfl rfl rfl) rfl ?_
  refine s0 moveA rfl ?_
  refine gC rfl rfl (fun hC => moveA) rfl ?_
  refine s0 (pickAndA rfl rfl rfl) rfl ?_
  refine s0 moveA rfl ?_
  refine gC rfl rfl (fun hC => fieldVA (TK rfl) rfl rfl (TK rfl) rfl rfl) rfl ?_
  refine gC rfl rfl (fun hC => ungdA (k := 119) rfl (loadV (TK rfl) rfl rfl rfl)) rfl ?_
  refine gC rfl rfl (fun hC => ungdA (k := 120) rfl (lenM' (f := TInput.c) (s := a0.FInputs) (TK rfl) rfl rfl rfl)) rfl ?_
  refine gC rfl rfl (fun hC => ungdA (k := 121) rfl (binI rfl rfl rfl)) rfl ?_
  refine s0 (pickAndA rfl rfl rfl) rfl ?_
  refine s0 moveA rfl ?_
  refine gC rfl rfl (fun hC => fieldVA (TK rfl) rfl rfl (TK rfl) rfl rfl) rfl ?_
  refine gC rfl rfl (fun hC => ungdA (k := 125) rfl (loadV (TK rfl) rfl rfl rfl)) rfl ?_
  obtain ⟨x31, gx31, hE⟩ := guardO_some hE
  refine gC rfl rfl (fun hC => ungdA (k := 126) rfl (callP rfl rfl (fun H => Z46_walk (gx31 hC) H))) rfl ?_
  refine s0 (pickAndA rfl rfl rfl) rfl ?_
  refine s0 assignA rfl ?_
  refine nil ?_
  refine hK30 _ ?_
  clear hK30 K30
  refine AWp.ret ?_
  repeat (first | refine xBlock_ret ?_ | refine xThen_ret ?_)
  obtain rfl := Option.some.inj hE
  refine retQ.retF H rfl ⟨rfl, rfl⟩ ?_
  exact (fun _ _ h => h)
 refine AWp.skip ?_
 refine hK10 _ ?_
 clear hK10 K10
 refine seqK fun K32 hK32 => ?_
 refine region ?_
 refine s0 assignA rfl ?_
 refine nil ?_
 refine hK32 _ ?_
 clear hK32 K32
 refine AWp.ret ?_
 repeat (first | refine xBlock_ret ?_ | refine xThen_ret ?_)
 obtain rfl := Option.some.inj hE
 refine retQ.retF H rfl ⟨rfl, rfl⟩ ?_
 exact (fun _ _ h => h)
def Z40_j7   : Option Bool := some true
def Z40_l10 (a0 : TDoc)  : Nat → Nat → Option Bool
 | 0, _ => none
 | n10 + 1, s3_11 => bif (decide (((s3_11 : Nat) : Int) < ((a0.FDefs.l.length : Nat) : Int))) then ((a0.FDefs.l[s3_11]?).bind fun x18 => (Z43 x18).bind fun x19 => bif (!x19) then (some false) else ((Z40_l10 a0 n10) (s3_11 + 1))) else (Z40_j7   )
def Z40 (a0 : TDoc) : Option Bool := bif ((decide (((a0.FDefs.l.length : Nat) : Int) < (1 : Int))) || (decide ((64 : Int) < ((a0.FDefs.l.length : Nat) : Int)))) then (some false) else (Z40_l10 a0 (a0.FDefs.l.length + 1) 0)
theorem Z40_walk {a0 : TDoc}   {r : Bool} (hE : Z40 a0 = some r) (H : Heap)  : ACalls Tryz.prog 23 [.agg (TDoc.c a0)] H fun v h' => v = .a (.d (.bool r)) ∧ h' = H := by
 unfold Z40 at hE
 refine ACalls.of_wp (fn := Tryz.f23) (c := _) Tryz.tab_ok (fun _ _ => Tryz.call23 _ _) Tryz.func23 rfl (n := 28) rfl (rs := [.tmp 2]) rfl rfl ?_
 refine seqK fun K1 hK1 => ?_
 refine region ?_
 refine s0 (boxV rfl) rfl ?_
 refine s0 assignA rfl ?_
 refine nil ?_
 refine hK1 _ ?_
 clear hK1 K1
 refine seqK fun K2 hK2 => ?_
 refine seqK fun K3 hK3 => ?_
 refine region ?_
 refine s0 (fieldVA (TK rfl) rfl rfl (TK rfl) rfl rfl) rfl ?_
 refine s0 (loadV (TK rfl) rfl rfl rfl) rfl ?_
 refine sLen (f := TDef.c) (s := a0.FDefs) (TK rfl) rfl rfl rfl rfl fun hL4 => ?_
 refine s0 (binI rfl rfl rfl) rfl ?_
 refine s0 moveA rfl ?_
 refine gC rfl rfl (fun hC => fieldVA (TK rfl) rfl rfl (TK rfl) rfl rfl) rfl ?_
 refine gC rfl rfl (fun hC => ungdA (k := 9) rfl (loadV (TK rfl) rfl rfl rfl)) rfl ?_
 refine gC rfl rfl (fun hC => ungdA (k := 10) rfl (lenM' (f := TDef.c) (s := a0.FDefs) (TK rfl) rfl rfl rfl)) rfl ?_
 refine gC rfl rfl (fun hC => ungdA (k := 11) rfl (binI rfl rfl rfl)) rfl ?_
 refine s0 (pickOrA rfl rfl rfl) rfl ?_
 refine nil ?_
 refine hK3 _ ?_
 clear hK3 K3
 refine condE hE rfl (fun hc5 hE => ?_) (fun hc5 hE => ?_)
 ·refine seqK fun K6 hK6 => ?_
  refine region ?_
  refine s0 assignA rfl ?_
  refine nil ?_
  refine hK6 _ ?_
  clear hK6 K6
  refine AWp.ret ?_
  repeat (first | refine xBlock_ret ?_ | refine xThen_ret ?_)
  obtain rfl := Option.some.inj hE
  refine retQ.retF H rfl ⟨rfl, rfl⟩ ?_
  exact (fun _ _ h => h)
 refine AWp.skip ?_
 refine hK2 _ ?_
 clear hK2 K2
 refine seqJH KeepsT.nil (fun (z : Unit) => []) (fun z => H) (fun z => Z40_j7  = some r) ?_ ?_
 ·intro K7 hK7
  refine seqK fun K9 hK9 => ?_
  refine region ?_
  refine s0 assignA rfl ?_
  refine nil ?_
  refine hK9 _ ?_
  clear hK9 K9
  refine block ?_
  refine loopH (KeepsT.A (k := 1) KeepsT.nil) (fun (z : Nat × Nat) => [(3, .a (.d (.int .i64 ((z.2 : Nat) : Int))))]) (fun z => H) (fun z => z.1) (fun z => Z40_l10 a0 z.1 z.2 = some r) ((a0.FDefs.l.length + 1), 0) hE Weak.toA ?_
  rintro ⟨n10, s3_11⟩ hE K10 hK10
  try dsimp only at hE
  cases n10 with
  | zero => cases hE
  | succ n10 =>
    rw [Z40_l10] at hE
    refine seqK fun K12 hK12 => ?_
    refine seqK fun K13 hK13 => ?_
    refine region ?_
    refine s0 moveA rfl ?_
    refine s0 (fieldVA (TK rfl) rfl rfl (TK rfl) rfl rfl) rfl ?_
    refine s0 (loadV (TK rfl) rfl rfl rfl) rfl ?_
    refine sLen (f := TDef.c) (s := a0.FDefs) (TK rfl) rfl rfl rfl rfl fun hL14 => ?_
    refine s0 (binI rfl rfl rfl) rfl ?_
    refine nil ?_
    refine hK13 _ ?_
    clear hK13 K13
    refine condE hE rfl (fun hc15 hE => ?_) (fun hc15 hE => ?_)
    ·try dsimp only at hc15
     have hf15 := of_decide_eq_true hc15
     refine AWp.skip ?_
     refine hK12 _ ?_
     clear hK12 K12
     refine seqK fun K16 hK16 => ?_
     refine block ?_
     refine seqK fun K17 hK17 => ?_
     refine region ?_
     refine s0 (fieldVA (TK rfl) rfl rfl (TK rfl) rfl rfl) rfl ?_
     refine s0 (loadV (TK rfl) rfl rfl rfl) rfl ?_
     refine s0 moveA rfl ?_
     obtain ⟨x18, gx18, hE⟩ := bindO_some hE
     refine s0 (idxMn (f := TDef.c) (n := s3_11) (TK rfl) rfl (TK rfl) rfl rfl rfl gx18) rfl ?_
     refine s0 (loadV (TK rfl) rfl rfl rfl) rfl ?_
     obtain ⟨x19, gx19, hE⟩ := bindO_some hE
     refine s0 (callP rfl rfl (fun H => Z43_walk gx19 H)) rfl ?_
     refine s0 (notB rfl) rfl ?_
     refine nil ?_
     refine hK17 _ ?_
     clear hK17 K17
     refine condE hE rfl (fun hc20 hE => ?_) (fun hc20 hE => ?_)
     ·refine seqK fun K21 hK21 => ?_
      refine region ?_
      refine s0 assignA rfl ?_
      refine nil ?_
      refine hK21 _ ?_
      clear hK21 K21
      refine AWp.ret ?_
      repeat (first | refine xBlock_ret ?_ | refine xThen_ret ?_)
      obtain rfl := Option.some.inj hE
      refine retQ.retF H rfl ⟨rfl, rfl⟩ ?_
      exact (fun _ _ h => h)
     refine AWp.skip ?_
     refine hK16 _ ?_
     clear hK16 K16
     refine region ?_
     refine s0 moveA rfl ?_
     refine s0 (addIA rfl rfl) rfl ?_
     refine s0 assignA rfl ?_
     refine nil ?_
     exact hK10 _ (n10, (s3_11 + 1)) Weak.toA hE (Nat.lt_succ_self _)
    refine AWp.exit ?_
    exact hK7 _ () Weak.toA hE
 rintro _ hE
 try dsimp only at hE
 unfold Z40_j7 at hE
 refine seqK fun K8 hK8 => ?_
 refine region ?_
 refine s0 assignA rfl ?_
 refine nil ?_
 refine hK8 _ ?_
 clear hK8 K8
 refine AWp.ret ?_
 repeat (first | refine xBlock_ret ?_ | refine xThen_ret ?_)
 obtain rfl := Option.some.inj hE
 refine retQ.retF H rfl ⟨rfl, rfl⟩ ?_
 exact (fun _ _ h => h)
def Z2 (a0 : TInput) (a1 : Bs) (a2 : TDoc) (a3 : (Sl TFault)) : Option (Sl TFault) := bif (!a0.FHas) then (some a3) else ((Z4 a2 a0.FType a0.FDefault (TValue.mk (0 : Int) (0 : Int) ([] : Bs) true ([]) (Sl.nil : Sl Bs))).bind fun x6 => bif (!decide (x6.2 = (0 : Int))) then ((appC 24 a3 (⟨false, [(TFault.mk (23 : Int) a1)]⟩ : Sl TFault)).bind fun x9 => some x9) else (some a3))
theorem Z2_walk {a0 : TInput} {a1 : Bs} {a2 : TDoc} {a3 : (Sl TFault)} {oT : Ab.Obj} {c3 : Nat} {c3_g : Nat} {gT : Nat} {r : (Sl TFault)} (hE : Z2 a0 a1 a2 a3 = some r) (H : Heap) (hc3 : H c3 = some (.cells [Sl.d 2 TFault.c (some c3_g) a3])) (ht3 : H c3_g = some (.tok 2 a3.l.length)) (hgT : H gT = some oT) (hoT : IsTab Tryz.prog oT) : ACalls Tryz.prog 53 [.agg (TInput.c a0), .d (.str a1), .d (.view (TDoc.c a2)), .d (.ptr c3 0)] H fun v h' => v = .tup [] ∧ h' = ((H.set c3_g (some (.tok 2 r.l.length))).set c3 (some (.cells [Sl.d 2 TFault.c (some c3_g) r]))) := by
 unfold Z2 at hE
 refine ACalls.of_wp (fn := Tryz.f53) (c := _) Tryz.tab_ok (fun _ _ => Tryz.call53 _ _) Tryz.func53 rfl (n := 28) rfl (rs := []) rfl rfl ?_
 have ne_c3_c3_g : c3 ≠ c3_g := fun e_ => by subst e_; simp_all
 have ne_gT_c3_g : gT ≠ c3_g := fun e_ => by subst e_; obtain ⟨_, _, _, e2_, _⟩ := hoT; simp_all
 have ne_gT_c3 : gT ≠ c3 := fun e_ => by subst e_; obtain ⟨_, _, _, e2_, _⟩ := hoT; simp_all
 refine AWp.heqA (h' := ((H.set c3_g (some (.tok 2 a3.l.length))).set c3 (some (.cells ([Sl.d 2 TFault.c (some c3_g) a3]))))) (by funext n_; simp only [Heap.set]; (repeat' split) <;> simp_all) ?_
 refine seqK fun K1 hK1 => ?_
 refine region ?_
 refine s0 (boxV rfl) rfl ?_
 refine nil ?_
 refine hK1 _ ?_
 clear hK1 K1
 refine seqK fun K2 hK2 => ?_
 refine seqK fun K3 hK3 => ?_
 refine region ?_
 refine s0 (fieldVA (TK rfl) rfl rfl (TK rfl) rfl rfl) rfl ?_
 refine s0 (loadV (TK rfl) rfl rfl rfl) rfl ?_
 refine s0 (notB rfl) rfl ?_
 refine nil ?_
 refine hK3 _ ?_
 clear hK3 K3
 refine condE hE rfl (fun hc4 hE => ?_) (fun hc4 hE => ?_)
 ·refine AWp.ret ?_
  repeat (first | refine xBlock_ret ?_ | refine xThen_ret ?_)
  obtain rfl := Option.some.inj hE
  refine retQ.retF ((H.set c3_g (some (.tok 2 a3.l.length))).set c3 (some (.cells ([Sl.d 2 TFault.c (some c3_g) a3])))) (xs := []) rfl ⟨rfl, rfl⟩ ?_
  exact (fun _ _ h => h)
 refine AWp.skip ?_
 refine hK2 _ ?_
 clear hK2 K2
 refine seqK fun K5 hK5 => ?_
 refine region ?_
 refine s0 (loadV (TK rfl) rfl rfl rfl) rfl ?_
 refine s0 (fieldVA (TK rfl) rfl rfl (TK rfl) rfl rfl) rfl ?_
 refine s0 (loadV (TK rfl) rfl rfl rfl) rfl ?_
 refine s0 (fieldVA (TK rfl) rfl rfl (TK rfl) rfl rfl) rfl ?_
 refine s0 (loadV (TK rfl) rfl rfl rfl) rfl ?_
 refine s0 (build Tryz.tab_ok rfl rfl rfl rfl rfl rfl) rfl ?_
 obtain ⟨x6, gx6, hE⟩ := bindO_some hE
 refine s0 (callR rfl rfl (Z4_walk (gT := gT) (oT := oT) gx6 _ hpG (by assumption))) rfl ?_
 refine s0 moveA rfl ?_
 refine s0 (extract rfl rfl) rfl ?_
 refine s0 (extract rfl rfl) rfl ?_
 refine sL (allocLA (TK rfl) rfl) rfl ?_
 refine sLn (storeLFA (TK rfl) rfl rfl rfl rfl rfl) ?_
 refine s0 assignA rfl ?_
 refine nil ?_
 refine hK5 _ ?_
 clear hK5 K5
 refine freezeA 6 _ rfl (Keeps.c (k := 1) (by conv => lhs; whnf) (by rfl) (Keeps.c (k := 3) (by conv => lhs; whnf) (by rfl) (Keeps.c (k := 7) (by conv => lhs; whnf) (by rfl) Keeps.nil))) ?_
 refine seqK fun K7 hK7 => ?_
 refine region ?_
 refine s0 moveA rfl ?_
 refine s0 (binI rfl rfl rfl) rfl ?_
 refine nil ?_
 refine hK7 _ ?_
 clear hK7 K7
 refine condE hE rfl (fun hc8 hE => ?_) (fun hc8 hE => ?_)
 ·refine region ?_
  refine s0 (loadP (TK rfl) rfl rfl hpG rfl) rfl ?_
  refine s0 moveA rfl ?_
  refine s0 (build Tryz.tab_ok rfl rfl rfl rfl rfl rfl) rfl ?_
  refine s0 (buildSlice (TK rfl) rfl (TK rfl) rfl rfl rfl rfl rfl rfl) rfl ?_
  obtain ⟨x9, gx9, hE⟩ := bindO_some hE
  refine sH (appM (f := TFault.c) (TK rfl) rfl (TK rfl) (TK rfl) ⟨_, rfl⟩ rfl rfl (by decide) rfl rfl rfl rfl hpG rfl gx9) rfl ?_
  refine AOps.heq (h' := ((H.set c3_g (some (.tok 2 x9.l.length))).set c3 (some (.cells ([Sl.d 2 TFault.c (some c3_g) a3]))))) (by first | rfl | (rw [Heap.set_set]; rfl) | (funext n_; simp only [Heap.set]; (repeat' split) <;> first | rfl | (exfalso; simp_all; done) | (simp_all; done))) ?_
  refine sHn (storeP1 (TK rfl) rfl rfl hpG rfl (by repeat (first | exact SetAt.zero | apply SetAt.succ))) rfl rfl ?_
  refine AOps.heq (h' := ((H.set c3_g (some (.tok 2 x9.l.length))).set c3 (some (.cells ([Sl.d 2 TFault.c (some c3_g) x9]))))) (by first | rfl | (rw [Heap.set_set]; rfl) | (funext n_; simp only [Heap.set]; (repeat' split) <;> first | rfl | (exfalso; simp_all; done) | (simp_all; done))) ?_
  refine nil ?_
  repeat (first | refine xBlock_normal ?_ | refine xThen_exit ?_ | refine xBlock_exit ?_)
  obtain rfl := Option.some.inj hE
  refine retQ.normalF ((H.set c3_g (some (.tok 2 x9.l.length))).set c3 (some (.cells ([Sl.d 2 TFault.c (some c3_g) x9])))) (xs := []) rfl ⟨rfl, rfl⟩ ?_
  exact (fun _ _ h => h)
 refine AWp.skip ?_
 repeat (first | refine xBlock_normal ?_ | refine xThen_exit ?_ | refine xBlock_exit ?_)
 obtain rfl := Option.some.inj hE
 refine retQ.normalF ((H.set c3_g (some (.tok 2 a3.l.length))).set c3 (some (.cells ([Sl.d 2 TFault.c (some c3_g) a3])))) (xs := []) rfl ⟨rfl, rfl⟩ ?_
 exact (fun _ _ h => h)
end Go.Proofs

namespace Go.Proofs
open Go Go.Ab
open AOps Cert AWp
variable {lou : Lou}
def Z1_j6  (y7_id3_3 : (Sl TFault)) : Option (Sl TFault) := some y7_id3_3
def Z1_j17 (s17_12 : Nat) (k_next_11 : Nat → (Sl TFault) → Option (Sl TFault)) (y18_id3_3 : (Sl TFault)) : Option (Sl TFault) := k_next_11 (s17_12 + 1) y18_id3_3
def Z1_l25 (a0 : TDoc) (s17_12 : Nat) (x20 : TDef) (k_next_11 : Nat → (Sl TFault) → Option (Sl TFault)) : Nat → Nat → (Sl TFault) → Option (Sl TFault)
 | 0, _, _ => none
 | n25 + 1, s54_26, y27_id3_3 => bif (decide (((s54_26 : Nat) : Int) < ((x20.FInputs.l.length : Nat) : Int))) then ((x20.FInputs.l[s54_26]?).bind fun x33 => (catC x20.FName ([46] : Bs)).bind fun x34 => (catC x34 x33.FName).bind fun x35 => (Z2 x33 x35 a0 y27_id3_3).bind fun x36 => (Z1_l25 a0 s17_12 x20 k_next_11 n25) (s54_26 + 1) x36) else (Z1_j17 s17_12 k_next_11 y27_id3_3)
def Z1_j21 (a0 : TDoc) (s17_12 : Nat) (x20 : TDef) (k_next_11 : Nat → (Sl TFault) → Option (Sl TFault)) (y22_id3_3 : (Sl TFault)) : Option (Sl TFault) := Z1_l25 a0 s17_12 x20 k_next_11 (x20.FInputs.l.length + 1) 0 y22_id3_3
def Z1_j45 (s24_40 : Nat) (k_next_39 : Nat → (Sl TFault) → Option (Sl TFault)) (y46_id3_3 : (Sl TFault)) : Option (Sl TFault) := k_next_39 (s24_40 + 1) y46_id3_3
def Z1_l51 (a0 : TDoc) (x20 : TDef) (s24_40 : Nat) (x48 : TField) (k_next_39 : Nat → (Sl TFault) → Option (Sl TFault)) : Nat → Nat → (Sl TFault) → Option (Sl TFault)
 | 0, _, _ => none
 | n51 + 1, s31_52, y53_id3_3 => bif (decide (((s31_52 : Nat) : Int) < ((x48.FArgs.l.length : Nat) : Int))) then ((x48.FArgs.l[s31_52]?).bind fun x59 => (catC x20.FName ([46] : Bs)).bind fun x60 => (catC x60 x48.FName).bind fun x61 => (catC x61 ([40] : Bs)).bind fun x62 => (catC x62 x59.FName).bind fun x63 => (catC x63 ([41] : Bs)).bind fun x64 => (Z2 x59 x64 a0 y53_id3_3).bind fun x65 => (Z1_l51 a0 x20 s24_40 x48 k_next_39 n51) (s31_52 + 1) x65) else (Z1_j45 s24_40 k_next_39 y53_id3_3)
def Z1_l39 (a0 : TDoc) (s17_12 : Nat) (x20 : TDef) (k_next_11 : Nat → (Sl TFault) → Option (Sl TFault)) : Nat → Nat → (Sl TFault) → Option (Sl TFault)
 | 0, _, _ => none
 | n39 + 1, s24_40, y41_id3_3 => bif (decide (((s24_40 : Nat) : Int) < ((x20.FFields.l.length : Nat) : Int))) then ((x20.FFields.l[s24_40]?).bind fun x48 => Z1_l51 a0 x20 s24_40 x48 ((Z1_l39 a0 s17_12 x20 k_next_11 n39)) (x48.FArgs.l.length + 1) 0 y41_id3_3) else (Z1_j21 a0 s17_12 x20 k_next_11 y41_id3_3)
def Z1_l11 (a0 : TDoc)  : Nat → Nat → (Sl TFault) → Option (Sl TFault)
 | 0, _, _ => none
 | n11 + 1, s17_12, y13_id3_3 => bif (decide (((s17_12 : Nat) : Int) < ((a0.FDefs.l.length : Nat) : Int))) then ((a0.FDefs.l[s17_12]?).bind fun x20 => Z1_l39 a0 s17_12 x20 ((Z1_l11 a0 n11)) (x20.FFields.l.length + 1) 0 y13_id3_3) else (Z1_j6   y13_id3_3)
def Z1 (a0 : TDoc) : Option (Sl TFault) := Z1_l11 a0 (a0.FDefs.l.length + 1) 0 (Sl.nil : Sl TFault)
theorem Z1_walk {a0 : TDoc} {oT : Ab.Obj} {gT : Nat} {r : (Sl TFault)} (hE : Z1 a0 = some r) (H : Heap) (hgT : H gT = some oT) (hoT : IsTab Tryz.prog oT) : ACalls Tryz.prog 24 [.agg (TDoc.c a0)] H fun v h' => v = .a (.d (Sl.d 2 TFault.c none r)) ∧ h' = H := by
 unfold Z1 at hE
 refine ACalls.of_wp (fn := Tryz.f24) (c := _) Tryz.tab_ok (fun _ _ => Tryz.call24 _ _) Tryz.func24 rfl (n := 70) rfl (rs := [.tmp 2]) rfl rfl ?_
 refine seqK fun K1 hK1 => ?_
 refine region ?_
 refine s0 (boxV rfl) rfl ?_
 refine s0 (assignNil (k' := 2) rfl) rfl ?_
 refine nil ?_
 refine hK1 _ ?_
 clear hK1 K1
 refine seqK fun K2 hK2 => ?_
 refine region ?_
 refine AOps.tok 2 fun tk3_4 htk3_4 => ?_
 have ne_tk3_4_gT : tk3_4 ≠ gT := fun e_ => by subst e_; simp_all
 refine sE (StepE.allocO (TK rfl) rfl) rfl (fun _ _ _ ⟨id3_3, hid3_3, e1, e2, e3⟩ => ?_); subst e1 e2 e3
 obtain ⟨ne_id3_3_tk3_4, hid3_3⟩ := Heap.set_fresh hid3_3
 have ne_id3_3_gT : id3_3 ≠ gT := fun e_ => by subst e_; simp_all
 refine AOps.recell id3_3 _ hpG (fun j w cs hh hx => tok_cell 0 2 2 hh (t := tk3_4) hpG hx rfl) ?_
 refine AOps.heq (h' := ((H.set tk3_4 (some (.tok 2 0))).set id3_3 (some (.cells ([Sl.d 2 TFault.c (some tk3_4) (Sl.nil : Sl TFault)]))))) (by first | rfl | (rw [Heap.set_set]; rfl) | (funext n_; simp only [Heap.set]; (repeat' split) <;> first | rfl | (exfalso; simp_all; done) | (simp_all; done))) ?_
 refine nil ?_
 refine hK2 _ ?_
 clear hK2 K2
 refine seqK fun K5 hK5 => ?_
 refine region ?_
 refine s0 (makeFunc rfl) rfl ?_
 refine s0 assignA rfl ?_
 refine nil ?_
 refine hK5 _ ?_
 clear hK5 K5
 refine seqJH (KeepsT.A (k := 3) KeepsT.nil) (fun (z : (Sl TFault)) => []) (fun z => ((H.set tk3_4 (some (.tok 2 z.l.length))).set id3_3 (some (.cells ([Sl.d 2 TFault.c (some tk3_4) z]))))) (fun z => Z1_j6 z = some r) ?_ ?_
 ·intro K6 hK6
  refine seqK fun K9 hK9 => ?_
  refine region ?_
  refine s0 (fieldVA (TK rfl) rfl rfl (TK rfl) rfl rfl) rfl ?_
  refine s0 (loadV (TK rfl) rfl rfl rfl) rfl ?_
  refine sLen (f := TDef.c) (s := a0.FDefs) (TK rfl) rfl rfl rfl rfl fun hL10 => ?_
  refine s0 moveA rfl ?_
  refine nil ?_
  refine hK9 _ ?_
  clear hK9 K9
  refine block ?_
  refine loopH (KeepsT.A (k := 3) (KeepsT.A (k := 4) (KeepsT.A (k := 15) (KeepsT.A (k := 16) KeepsT.nil)))) (fun (z : Nat × Nat × (Sl TFault)) => [(17, .a (.d (.int .i64 ((z.2.1 : Nat) : Int))))]) (fun z => ((H.set tk3_4 (some (.tok 2 z.2.2.l.length))).set id3_3 (some (.cells ([Sl.d 2 TFault.c (some tk3_4) z.2.2]))))) (fun z => z.1) (fun z => Z1_l11 a0 z.1 z.2.1 z.2.2 = some r) ((a0.FDefs.l.length + 1), 0, (Sl.nil : Sl TFault)) hE Weak.toA ?_
  rintro ⟨n11, s17_12, y13_id3_3⟩ hE K11 hK11
  try dsimp only at hE
  cases n11 with
  | zero => cases hE
  | succ n11 =>
    rw [Z1_l11] at hE
    refine seqK fun K14 hK14 => ?_
    refine region ?_
    refine s0 (binI rfl rfl rfl) rfl ?_
    refine nil ?_
    refine hK14 _ ?_
    clear hK14 K14
    refine seqK fun K15 hK15 => ?_
    refine condE hE rfl (fun hc16 hE => ?_) (fun hc16 hE => ?_)
    ·try dsimp only at hc16
     have hf16 := of_decide_eq_true hc16
     refine AWp.skip ?_
     refine hK15 _ ?_
     clear hK15 K15
     refine seqJH (KeepsT.A (k := 3) (KeepsT.A (k := 4) (KeepsT.A (k := 15) (KeepsT.A (k := 16) (KeepsT.A (k := 17) KeepsT.nil))))) (fun (z : (Sl TFault)) => []) (fun z => ((H.set tk3_4 (some (.tok 2 z.l.length))).set id3_3 (some (.cells ([Sl.d 2 TFault.c (some tk3_4) z]))))) (fun z => Z1_j17 s17_12 ((Z1_l11 a0 n11)) z = some r) ?_ ?_
     ·intro K17 hK17
      refine block ?_
      refine seqK fun K19 hK19 => ?_
      refine region ?_
      obtain ⟨x20, gx20, hE⟩ := bindO_some hE
      refine s0 (idxMn (f := TDef.c) (n := s17_12) (TK rfl) rfl (TK rfl) rfl rfl rfl gx20) rfl ?_
      refine s0 (loadV (TK rfl) rfl rfl rfl) rfl ?_
      refine sL (allocLA (TK rfl) rfl) rfl ?_
      refine sLn (storeLFA (TK rfl) rfl rfl rfl rfl rfl) ?_
      refine nil ?_
      refine hK19 _ ?_
      clear hK19 K19
      refine freezeA 6 _ rfl (Keeps.c (k := 3) (by conv => lhs; whnf) (by rfl) (Keeps.c (k := 4) (by conv => lhs; whnf) (by rfl) (Keeps.c (k := 15) (by conv => lhs; whnf) (by rfl) (Keeps.c (k := 16) (by conv => lhs; whnf) (by rfl) (Keeps.c (k := 17) (by conv => lhs; whnf) (by rfl) Keeps.nil))))) ?_
      refine seqJH (KeepsT.A (k := 3) (KeepsT.A (k := 4) (KeepsT.A (k := 6) (KeepsT.A (k := 15) (KeepsT.A (k := 16) (KeepsT.A (k := 17) KeepsT.nil)))))) (fun (z : (Sl TFault)) => []) (fun z => ((H.set tk3_4 (some (.tok 2 z.l.length))).set id3_3 (some (.cells ([Sl.d 2 TFault.c (some tk3_4) z]))))) (fun z => Z1_j21 a0 s17_12 x20 ((Z1_l11 a0 n11)) z = some r) ?_ ?_
      ·intro K21 hK21
       refine seqK fun K37 hK37 => ?_
       refine region ?_
       refine s0 (fieldVA (TK rfl) rfl rfl (TK rfl) rfl rfl) rfl ?_
       refine s0 (loadV (TK rfl) rfl rfl rfl) rfl ?_
       refine sLen (f := TField.c) (s := x20.FFields) (TK rfl) rfl rfl rfl rfl fun hL38 => ?_
       refine s0 moveA rfl ?_
       refine nil ?_
       refine hK37 _ ?_
       clear hK37 K37
       refine block ?_
       refine loopH (KeepsT.A (k := 3) (KeepsT.A (k := 4) (KeepsT.A (k := 6) (KeepsT.A (k := 15) (KeepsT.A (k := 16) (KeepsT.A (k := 17) (KeepsT.A (k := 22) (KeepsT.A (k := 23) KeepsT.nil)))))))) (fun (z : Nat × Nat × (Sl TFault)) => [(24, .a (.d (.int .i64 ((z.2.1 : Nat) : Int))))]) (fun z => ((H.set tk3_4 (some (.tok 2 z.2.2.l.length))).set id3_3 (some (.cells ([Sl.d 2 TFault.c (some tk3_4) z.2.2]))))) (fun z => z.1) (fun z => Z1_l39 a0 s17_12 x20 ((Z1_l11 a0 n11)) z.1 z.2.1 z.2.2 = some r) ((x20.FFields.l.length + 1), 0, y13_id3_3) hE Weak.toA ?_
       rintro ⟨n39, s24_40, y41_id3_3⟩ hE K39 hK39
       try dsimp only at hE
       cases n39 with
       | zero => cases hE
       | succ n39 =>
         rw [Z1_l39] at hE
         refine seqK fun K42 hK42 => ?_
         refine region ?_
         refine s0 (binI rfl rfl rfl) rfl ?_
         refine nil ?_
         refine hK42 _ ?_
         clear hK42 K42
         refine seqK fun K43 hK43 => ?_
         refine condE hE rfl (fun hc44 hE => ?_) (fun hc44 hE => ?_)
         ·try dsimp only at hc44
          have hf44 := of_decide_eq_true hc44
          refine AWp.skip ?_
          refine hK43 _ ?_
          clear hK43 K43
          refine seqJH (KeepsT.A (k := 3) (KeepsT.A (k := 4) (KeepsT.A (k := 6) (KeepsT.A (k := 15) (KeepsT.A (k := 16) (KeepsT.A (k := 17) (KeepsT.A (k := 22) (KeepsT.A (k := 23) (KeepsT.A (k := 24) KeepsT.nil))))))))) (fun (z : (Sl TFault)) => []) (fun z => ((H.set tk3_4 (some (.tok 2 z.l.length))).set id3_3 (some (.cells ([Sl.d 2 TFault.c (some tk3_4) z]))))) (fun z => Z1_j45 s24_40 ((Z1_l39 a0 s17_12 x20 ((Z1_l11 a0 n11)) n39)) z = some r) ?_ ?_
          ·intro K45 hK45
           refine block ?_
           refine seqK fun K47 hK47 => ?_
           refine region ?_
           obtain ⟨x48, gx48, hE⟩ := bindO_some hE
           refine s0 (idxMn (f := TField.c) (n := s24_40) (TK rfl) rfl (TK rfl) rfl rfl rfl gx48) rfl ?_
           refine s0 (loadV (TK rfl) rfl rfl rfl) rfl ?_
           refine sL (allocLA (TK rfl) rfl) rfl ?_
           refine sLn (storeLFA (TK rfl) rfl rfl rfl rfl rfl) ?_
           refine nil ?_
           refine hK47 _ ?_
           clear hK47 K47
           refine freezeA 8 _ rfl (Keeps.c (k := 3) (by conv => lhs; whnf) (by rfl) (Keeps.c (k := 4) (by conv => lhs; whnf) (by rfl) (Keeps.c (k := 6) (by conv => lhs; whnf) (by rfl) (Keeps.c (k := 15) (by conv => lhs; whnf) (by rfl) (Keeps.c (k := 16) (by conv => lhs; whnf) (by rfl) (Keeps.c (k := 17) (by conv => lhs; whnf) (by rfl) (Keeps.c (k := 22) (by conv => lhs; whnf) (by rfl) (Keeps.c (k := 23) (by conv => lhs; whnf) (by rfl) (Keeps.c (k := 24) (by conv => lhs; whnf) (by rfl) Keeps.nil))))))))) ?_
           refine seqK fun K49 hK49 => ?_
           refine region ?_
           refine s0 (fieldVA (TK rfl) rfl rfl (TK rfl) rfl rfl) rfl ?_
           refine s0 (loadV (TK rfl) rfl rfl rfl) rfl ?_
           refine sLen (f := TInput.c) (s := x48.FArgs) (TK rfl) rfl rfl rfl rfl fun hL50 => ?_
           refine s0 moveA rfl ?_
           refine nil ?_
           refine hK49 _ ?_
           clear hK49 K49
           refine block ?_
           refine loopH (KeepsT.A (k := 3) (KeepsT.A (k := 4) (KeepsT.A (k := 6) (KeepsT.A (k := 8) (KeepsT.A (k := 15) (KeepsT.A (k := 16) (KeepsT.A (k := 17) (KeepsT.A (k := 22) (KeepsT.A (k := 23) (KeepsT.A (k := 24) (KeepsT.A (k := 29) (KeepsT.A (k := 30) KeepsT.nil)))))))))))) (fun (z : Nat × Nat × (Sl TFault)) => [(31, .a (.d (.int .i64 ((z.2.1 : Nat) : Int))))]) (fun z => ((H.set tk3_4 (some (.tok 2 z.2.2.l.length))).set id3_3 (some (.cells ([Sl.d 2 TFault.c (some tk3_4) z.2.2]))))) (fun z => z.1) (fun z => Z1_l51 a0 x20 s24_40 x48 ((Z1_l39 a0 s17_12 x20 ((Z1_l11 a0 n11)) n39)) z.1 z.2.1 z.2.2 = some r) ((x48.FArgs.l.length + 1), 0, y41_id3_3) hE Weak.toA ?_
           rintro ⟨n51, s31_52, y53_id3_3⟩ hE K51 hK51
           try dsimp only at hE
           cases n51 with
           | zero => cases hE
           | succ n51 =>
             rw [Z1_l51] at hE
             refine seqK fun K54 hK54 => ?_
             refine region ?_
             refine s0 (binI rfl rfl rfl) rfl ?_
             refine nil ?_
             refine hK54 _ ?_
             clear hK54 K54
             refine seqK fun K55 hK55 => ?_
             refine condE hE rfl (fun hc56 hE => ?_) (fun hc56 hE => ?_)
             ·try dsimp only at hc56
              have hf56 := of_decide_eq_true hc56
              refine AWp.skip ?_
              refine hK55 _ ?_
              clear hK55 K55
              refine seqK fun K57 hK57 => ?_
              refine block ?_
              refine seqK fun K58 hK58 => ?_
              refine region ?_
              obtain ⟨x59, gx59, hE⟩ := bindO_some hE
              refine s0 (idxMn (f := TInput.c) (n := s31_52) (TK rfl) rfl (TK rfl) rfl rfl rfl gx59) rfl ?_
              refine s0 (loadV (TK rfl) rfl rfl rfl) rfl ?_
              refine sL (allocLA (TK rfl) rfl) rfl ?_
              refine sLn (storeLFA (TK rfl) rfl rfl rfl rfl rfl) ?_
              refine nil ?_
              refine hK58 _ ?_
              clear hK58 K58
              refine freezeA 10 _ rfl (Keeps.c (k := 3) (by conv => lhs; whnf) (by rfl) (Keeps.c (k := 4) (by conv => lhs; whnf) (by rfl) (Keeps.c (k := 6) (by conv => lhs; whnf) (by rfl) (Keeps.c (k := 8) (by conv => lhs; whnf) (by rfl) (Keeps.c (k := 15) (by conv => lhs; whnf) (by rfl) (Keeps.c (k := 16) (by conv => lhs; whnf) (by rfl) (Keeps.c (k := 17) (by conv => lhs; whnf) (by rfl) (Keeps.c (k := 22) (by conv => lhs; whnf) (by rfl) (Keeps.c (k := 23) (by conv => lhs; whnf) (by rfl) (Keeps.c (k := 24) (by conv => lhs; whnf) (by rfl) (Keeps.c (k := 29) (by conv => lhs; whnf) (by rfl) (Keeps.c (k := 30) (by conv => lhs; whnf) (by rfl) (Keeps.c (k := 31) (by conv => lhs; whnf) (by rfl) Keeps.nil))))))))))))) ?_
              refine region ?_
              refine s0 moveA rfl ?_
              refine s0 (loadV (TK rfl) rfl rfl rfl) rfl ?_
              refine s0 (fieldVA (TK rfl) rfl rfl (TK rfl) rfl rfl) rfl ?_
              refine s0 (loadV (TK rfl) rfl rfl rfl) rfl ?_
              obtain ⟨x60, gx60, hE⟩ := bindO_some hE
              refine s0 (catM rfl rfl gx60) rfl ?_
              refine s0 (fieldVA (TK rfl) rfl rfl (TK rfl) rfl rfl) rfl ?_
              refine s0 (loadV (TK rfl) rfl rfl rfl) rfl ?_
              obtain ⟨x61, gx61, hE⟩ := bindO_some hE
              refine s0 (catM rfl rfl gx61) rfl ?_
              obtain ⟨x62, gx62, hE⟩ := bindO_some hE
              refine s0 (catM rfl rfl gx62) rfl ?_
              refine s0 (fieldVA (TK rfl) rfl rfl (TK rfl) rfl rfl) rfl ?_
              refine s0 (loadV (TK rfl) rfl rfl rfl) rfl ?_
              obtain ⟨x63, gx63, hE⟩ := bindO_some hE
              refine s0 (catM rfl rfl gx63) rfl ?_
              obtain ⟨x64, gx64, hE⟩ := bindO_some hE
              refine s0 (catM rfl rfl gx64) rfl ?_
              obtain ⟨x65, gx65, hE⟩ := bindO_some hE
              refine sH (callH rfl rfl (Z2_walk (gT := gT) (oT := oT) gx65 _ hpG hpG hpG (by assumption))) rfl ?_
              refine AOps.heq (h' := ((H.set tk3_4 (some (.tok 2 x65.l.length))).set id3_3 (some (.cells ([Sl.d 2 TFault.c (some tk3_4) x65]))))) (by first | rfl | (rw [Heap.set_set]; rfl) | (funext n_; simp only [Heap.set]; (repeat' split) <;> first | rfl | (exfalso; simp_all; done) | (simp_all; done))) ?_
              refine nil ?_
              refine hK57 _ ?_
              clear hK57 K57
              refine region ?_
              refine s0 (addIA rfl rfl) rfl ?_
              refine s0 moveA rfl ?_
              refine nil ?_
              exact hK51 _ (n51, (s31_52 + 1), x65) Weak.toA hE (Nat.lt_succ_self _)
             refine AWp.exit ?_
             exact hK45 _ y53_id3_3 Weak.toA hE
          rintro y46_id3_3 hE
          try dsimp only at hE
          unfold Z1_j45 at hE
          refine region ?_
          refine s0 (addIA rfl rfl) rfl ?_
          refine s0 moveA rfl ?_
          refine nil ?_
          exact hK39 _ (n39, (s24_40 + 1), y46_id3_3) Weak.toA hE (Nat.lt_succ_self _)
         refine AWp.exit ?_
         exact hK21 _ y41_id3_3 Weak.toA hE
      rintro y22_id3_3 hE
      try dsimp only at hE
      unfold Z1_j21 at hE
      refine seqK fun K23 hK23 => ?_
      refine region ?_
      refine s0 (fieldVA (TK rfl) rfl rfl (TK rfl) rfl rfl) rfl ?_
      refine s0 (loadV (TK rfl) rfl rfl rfl) rfl ?_
      refine sLen (f := TInput.c) (s := x20.FInputs) (TK rfl) rfl rfl rfl rfl fun hL24 => ?_
      refine s0 moveA rfl ?_
      refine nil ?_
      refine hK23 _ ?_
      clear hK23 K23
      refine block ?_
      refine loopH (KeepsT.A (k := 3) (KeepsT.A (k := 4) (KeepsT.A (k := 6) (KeepsT.A (k := 15) (KeepsT.A (k := 16) (KeepsT.A (k := 17) (KeepsT.A (k := 52) (KeepsT.A (k := 53) KeepsT.nil)))))))) (fun (z : Nat × Nat × (Sl TFault)) => [(54, .a (.d (.int .i64 ((z.2.1 : Nat) : Int))))]) (fun z => ((H.set tk3_4 (some (.tok 2 z.2.2.l.length))).set id3_3 (some (.cells ([Sl.d 2 TFault.c (some tk3_4) z.2.2]))))) (fun z => z.1) (fun z => Z1_l25 a0 s17_12 x20 ((Z1_l11 a0 n11)) z.1 z.2.1 z.2.2 = some r) ((x20.FInputs.l.length + 1), 0, y22_id3_3) hE Weak.toA ?_
      rintro ⟨n25, s54_26, y27_id3_3⟩ hE K25 hK25
      try dsimp only at hE
      cases n25 with
      | zero => cases hE
      | succ n25 =>
        rw [Z1_l25] at hE
        refine seqK fun K28 hK28 => ?_
        refine region ?_
        refine s0 (binI rfl rfl rfl) rfl ?_
        refine nil ?_
        refine hK28 _ ?_
        clear hK28 K28
        refine seqK fun K29 hK29 => ?_
        refine condE hE rfl (fun hc30 hE => ?_) (fun hc30 hE => ?_)
        ·try dsimp only at hc30
         have hf30 := of_decide_eq_true hc30
         refine AWp.skip ?_
         refine hK29 _ ?_
         clear hK29 K29
         refine seqK fun K31 hK31 => ?_
         refine block ?_
         refine seqK fun K32 hK32 => ?_
         refine region ?_
         obtain ⟨x33, gx33, hE⟩ := bindO_some hE
         refine s0 (idxMn (f := TInput.c) (n := s54_26) (TK rfl) rfl (TK rfl) rfl rfl rfl gx33) rfl ?_
         refine s0 (loadV (TK rfl) rfl rfl rfl) rfl ?_
         refine sL (allocLA (TK rfl) rfl) rfl ?_
         refine sLn (storeLFA (TK rfl) rfl rfl rfl rfl rfl) ?_
         refine nil ?_
         refine hK32 _ ?_
         clear hK32 K32
         refine freezeA 12 _ rfl (Keeps.c (k := 3) (by conv => lhs; whnf) (by rfl) (Keeps.c (k := 4) (by conv => lhs; whnf) (by rfl) (Keeps.c (k := 6) (by conv => lhs; whnf) (by rfl) (Keeps.c (k := 15) (by conv => lhs; whnf) (by rfl) (Keeps.c (k := 16) (by conv => lhs; whnf) (by rfl) (Keeps.c (k := 17) (by conv => lhs; whnf) (by rfl) (Keeps.c (k := 52) (by conv => lhs; whnf) (by rfl) (Keeps.c (k := 53) (by conv => lhs; whnf) (by rfl) (Keeps.c (k := 54) (by conv => lhs; whnf) (by rfl) Keeps.nil))))))))) ?_
         refine region ?_
         refine s0 moveA rfl ?_
         refine s0 (loadV (TK rfl) rfl rfl rfl) rfl ?_
         refine s0 (fieldVA (TK rfl) rfl rfl (TK rfl) rfl rfl) rfl ?_
         refine s0 (loadV (TK rfl) rfl rfl rfl) rfl ?_
         obtain ⟨x34, gx34, hE⟩ := bindO_some hE
         refine s0 (catM rfl rfl gx34) rfl ?_
         refine s0 (fieldVA (TK rfl) rfl rfl (TK rfl) rfl rfl) rfl ?_
         refine s0 (loadV (TK rfl) rfl rfl rfl) rfl ?_
         obtain ⟨x35, gx35, hE⟩ := bindO_some hE
         refine s0 (catM rfl rfl gx35) rfl ?_
         obtain ⟨x36, gx36, hE⟩ := bindO_some hE
         refine sH (callH rfl rfl (Z2_walk (gT := gT) (oT := oT) gx36 _ hpG hpG hpG (by assumption))) rfl ?_
         refine AOps.heq (h' := ((H.set tk3_4 (some (.tok 2 x36.l.length))).set id3_3 (some (.cells ([Sl.d 2 TFault.c (some tk3_4) x36]))))) (by first | rfl | (rw [Heap.set_set]; rfl) | (funext n_; simp only [Heap.set]; (repeat' split) <;> first | rfl | (exfalso; simp_all; done) | (simp_all; done))) ?_
         refine nil ?_
         refine hK31 _ ?_
         clear hK31 K31
         refine region ?_
         refine s0 (addIA rfl rfl) rfl ?_
         refine s0 moveA rfl ?_
         refine nil ?_
         exact hK25 _ (n25, (s54_26 + 1), x36) Weak.toA hE (Nat.lt_succ_self _)
        refine AWp.exit ?_
        exact hK17 _ y27_id3_3 Weak.toA hE
     rintro y18_id3_3 hE
     try dsimp only at hE
     unfold Z1_j17 at hE
     refine region ?_
     refine s0 (addIA rfl rfl) rfl ?_
     refine s0 moveA rfl ?_
     refine nil ?_
     exact hK11 _ (n11, (s17_12 + 1), y18_id3_3) Weak.toA hE (Nat.lt_succ_self _)
    refine AWp.exit ?_
    exact hK6 _ y13_id3_3 Weak.toA hE
 rintro y7_id3_3 hE
 try dsimp only at hE
 unfold Z1_j6 at hE
 refine seqK fun K8 hK8 => ?_
 refine region ?_
 refine s0 (loadP (TK rfl) rfl rfl hpG rfl) rfl ?_
 refine s0 assignA rfl ?_
 refine nil ?_
 refine hK8 _ ?_
 clear hK8 K8
 refine AWp.dropTok 2 rfl ?_
 refine AWp.ret ?_
 repeat (first | refine xBlock_ret ?_ | refine xThen_ret ?_)
 obtain rfl := Option.some.inj hE
 refine retQ.retF H rfl ⟨rfl, rfl⟩ ?_
 intro id_ o_ he_
 have e_tk3_4 : id_ ≠ tk3_4 := fun e_ => by subst e_; simp_all [Heap.set]
 have e_id3_3 : id_ ≠ id3_3 := fun e_ => by subst e_; simp_all [Heap.set]
 rw [← he_]
 simp only [Heap.set] at he_ ⊢
 (repeat' split) <;> simp_all
def Z51_j2  (y3_l0 : TDef) : Option (TDef × Bool) := some ((TDef.mk (0 : Int) ([] : Bs) (Sl.nil : Sl Bs) (Sl.nil : Sl TDir) (Sl.nil : Sl TField) (Sl.nil : Sl TMember) (Sl.nil : Sl TInput)), false)
def Z51_l6 (a0 : TDoc) (a1 : Bs)  : Nat → Nat → TDef → Option (TDef × Bool)
 | 0, _, _ => none
 | n6 + 1, s6_7, y8_l0 => bif (decide (((s6_7 : Nat) : Int) < ((a0.FDefs.l.length : Nat) : Int))) then ((a0.FDefs.l[s6_7]?).bind fun x15 => bif ((x15.FName == a1)) then ((a0.FDefs.l[s6_7]?).bind fun x18 => some (x18, true)) else ((Z51_l6 a0 a1 n6) (s6_7 + 1) y8_l0)) else (Z51_j2   y8_l0)
def Z51 (a0 : TDoc) (a1 : Bs) : Option (TDef × Bool) := Z51_l6 a0 a1 (a0.FDefs.l.length + 1) 0 TDef.zero
theorem Z51_walk {a0 : TDoc} {a1 : Bs}   {r : (TDef × Bool)} (hE : Z51 a0 a1 = some r) (H : Heap)  : ACalls Tryz.prog 69 [.agg (TDoc.c a0), .d (.str a1)] H fun v h' => v = .tup [.agg (TDef.c r.1), .d (.bool r.2)] ∧ h' = H := by
 unfold Z51 at hE
 refine ACalls.of_wp (fn := Tryz.f69) (c := _) Tryz.tab_ok (fun _ _ => Tryz.call69 _ _) Tryz.func69 rfl (n := 28) rfl (rs := [.cell 4 73, .tmp 5]) rfl rfl ?_
 refine seqK fun K1 hK1 => ?_
 refine region ?_
 refine s0 (boxV rfl) rfl ?_
 refine sL (allocLA (TK rfl) rfl) rfl ?_
 refine s0 assignA rfl ?_
 refine nil ?_
 refine hK1 _ ?_
 clear hK1 K1
 refine seqJ (KeepsT.A (k := 4) KeepsT.nil) (fun (z : TDef) => []) (fun z => [TDef.c z]) (fun z => H) (fun z => Z51_j2 z = some r) ?_ ?_
 ·intro K2 hK2
  refine seqK fun K5 hK5 => ?_
  refine region ?_
  refine s0 assignA rfl ?_
  refine nil ?_
  refine hK5 _ ?_
  clear hK5 K5
  refine block ?_
  refine loopO (KeepsT.A (k := 1) (KeepsT.A (k := 2) (KeepsT.A (k := 4) KeepsT.nil))) (fun (z : Nat × Nat × TDef) => [(6, .a (.d (.int .i64 ((z.2.1 : Nat) : Int))))]) (fun z => [TDef.c z.2.2]) (fun z => H) (fun z => z.1) (fun z => Z51_l6 a0 a1 z.1 z.2.1 z.2.2 = some r) ((a0.FDefs.l.length + 1), 0, TDef.zero) hE Weak.toA ?_
  rintro ⟨n6, s6_7, y8_l0⟩ hE K6 hK6
  try dsimp only at hE
  cases n6 with
  | zero => cases hE
  | succ n6 =>
    rw [Z51_l6] at hE
    refine seqK fun K9 hK9 => ?_
    refine seqK fun K10 hK10 => ?_
    refine region ?_
    refine s0 moveA rfl ?_
    refine s0 (fieldVA (TK rfl) rfl rfl (TK rfl) rfl rfl) rfl ?_
    refine s0 (loadV (TK rfl) rfl rfl rfl) rfl ?_
    refine sLen (f := TDef.c) (s := a0.FDefs) (TK rfl) rfl rfl rfl rfl fun hL11 => ?_
    refine s0 (binI rfl rfl rfl) rfl ?_
    refine nil ?_
    refine hK10 _ ?_
    clear hK10 K10
    refine condE hE rfl (fun hc12 hE => ?_) (fun hc12 hE => ?_)
    ·try dsimp only at hc12
     have hf12 := of_decide_eq_true hc12
     refine AWp.skip ?_
     refine hK9 _ ?_
     clear hK9 K9
     refine seqK fun K13 hK13 => ?_
     refine block ?_
     refine seqK fun K14 hK14 => ?_
     refine region ?_
     refine s0 (fieldVA (TK rfl) rfl rfl (TK rfl) rfl rfl) rfl ?_
     refine s0 (loadV (TK rfl) rfl rfl rfl) rfl ?_
     refine s0 moveA rfl ?_
     obtain ⟨x15, gx15, hE⟩ := bindO_some hE
     refine s0 (idxMn (f := TDef.c) (n := s6_7) (TK rfl) rfl (TK rfl) rfl rfl rfl gx15) rfl ?_
     refine s0 (fieldVA (TK rfl) rfl rfl (TK rfl) rfl rfl) rfl ?_
     refine s0 (loadV (TK rfl) rfl rfl rfl) rfl ?_
     refine s0 moveA rfl ?_
     refine s0 (binS rfl rfl rfl) rfl ?_
     refine nil ?_
     refine hK14 _ ?_
     clear hK14 K14
     refine condE hE rfl (fun hc16 hE => ?_) (fun hc16 hE => ?_)
     ·refine seqK fun K17 hK17 => ?_
      refine region ?_
      refine s0 (fieldVA (TK rfl) rfl rfl (TK rfl) rfl rfl) rfl ?_
      refine s0 (loadV (TK rfl) rfl rfl rfl) rfl ?_
      refine s0 moveA rfl ?_
      obtain ⟨x18, gx18, hE⟩ := bindO_some hE
      refine s0 (idxMn (f := TDef.c) (n := s6_7) (TK rfl) rfl (TK rfl) rfl rfl rfl gx18) rfl ?_
      refine s0 (loadV (TK rfl) rfl rfl rfl) rfl ?_
      refine sLn (storeLFA (TK rfl) rfl rfl rfl rfl rfl) ?_
      refine s0 assignA rfl ?_
      refine nil ?_
      refine hK17 _ ?_
      clear hK17 K17
      refine AWp.ret ?_
      repeat (first | refine xBlock_ret ?_ | refine xThen_ret ?_)
      obtain rfl := Option.some.inj hE
      refine retQ.retF H rfl ⟨rfl, rfl⟩ ?_
      exact (fun _ _ h => h)
     refine AWp.skip ?_
     refine hK13 _ ?_
     clear hK13 K13
     refine region ?_
     refine s0 moveA rfl ?_
     refine s0 (addIA rfl rfl) rfl ?_
     refine s0 assignA rfl ?_
     refine nil ?_
     exact hK6 _ (n6, (s6_7 + 1), y8_l0) Weak.toA hE (Nat.lt_succ_self _)
    refine AWp.exit ?_
    exact hK2 _ y8_l0 Weak.toA hE
 rintro y3_l0 hE
 try dsimp only at hE
 unfold Z51_j2 at hE
 refine seqK fun K4 hK4 => ?_
 refine region ?_
 refine s0 (build Tryz.tab_ok rfl rfl rfl rfl rfl rfl) rfl ?_
 refine sLn (storeLFA (TK rfl) rfl rfl rfl rfl rfl) ?_
 refine s0 assignA rfl ?_
 refine nil ?_
 refine hK4 _ ?_
 clear hK4 K4
 refine AWp.ret ?_
 repeat (first | refine xBlock_ret ?_ | refine xThen_ret ?_)
 obtain rfl := Option.some.inj hE
 refine retQ.retF H rfl ⟨rfl, rfl⟩ ?_
 exact (fun _ _ h => h)
def Z55 (a0 : Bs) : Option Bool := some (((((a0 == ([73, 110, 116] : Bs))) || ((a0 == ([83, 116, 114, 105, 110, 103] : Bs)))) || ((a0 == ([66, 111, 111, 108, 101, 97, 110] : Bs)))) || ((a0 == ([73, 68] : Bs))))
theorem Z55_walk {a0 : Bs}   {r : Bool} (hE : Z55 a0 = some r) (H : Heap)  : ACalls Tryz.prog 95 [.d (.str a0)] H fun v h' => v = .a (.d (.bool r)) ∧ h' = H := by
 unfold Z55 at hE
 refine ACalls.of_wp (fn := Tryz.f95) (c := _) Tryz.tab_ok (fun _ _ => Tryz.call95 _ _) Tryz.func95 rfl (n := 17) rfl (rs := [.tmp 2]) rfl rfl ?_
 refine seqK fun K1 hK1 => ?_
 refine region ?_
 refine s0 assignA rfl ?_
 refine nil ?_
 refine hK1 _ ?_
 clear hK1 K1
 refine seqK fun K2 hK2 => ?_
 refine region ?_
 refine s0 moveA rfl ?_
 refine s0 (binS rfl rfl rfl) rfl ?_
 refine s0 moveA rfl ?_
 refine gC rfl rfl (fun hC => moveA) rfl ?_
 refine gC rfl rfl (fun hC => ungdA (k := 6) rfl (binS rfl rfl rfl)) rfl ?_
 refine s0 (pickOrA rfl rfl rfl) rfl ?_
 refine s0 moveA rfl ?_
 refine gC rfl rfl (fun hC => moveA) rfl ?_
 refine gC rfl rfl (fun hC => ungdA (k := 10) rfl (binS rfl rfl rfl)) rfl ?_
 refine s0 (pickOrA rfl rfl rfl) rfl ?_
 refine s0 moveA rfl ?_
 refine gC rfl rfl (fun hC => moveA) rfl ?_
 refine gC rfl rfl (fun hC => ungdA (k := 14) rfl (binS rfl rfl rfl)) rfl ?_
 refine s0 (pickOrA rfl rfl rfl) rfl ?_
 refine s0 assignA rfl ?_
 refine nil ?_
 refine hK2 _ ?_
 clear hK2 K2
 refine AWp.ret ?_
 repeat (first | refine xBlock_ret ?_ | refine xThen_ret ?_)
 obtain rfl := Option.some.inj hE
 refine retQ.retF H rfl ⟨rfl, rfl⟩ ?_
 exact (fun _ _ h => h)
def Z54 (a0 : TDoc) (a1 : Bs) : Option Bool := (Z51 a0 a1).bind fun x3 => (Z55 a1).bind fun x5 => some (x5 || (x3.2 && (decide (x3.1.FKind = (4 : Int)))))
theorem Z54_walk {a0 : TDoc} {a1 : Bs}   {r : Bool} (hE : Z54 a0 a1 = some r) (H : Heap)  : ACalls Tryz.prog 70 [.agg (TDoc.c a0), .d (.str a1)] H fun v h' => v = .a (.d (.bool r)) ∧ h' = H := by
 unfold Z54 at hE
 refine ACalls.of_wp (fn := Tryz.f70) (c := _) Tryz.tab_ok (fun _ _ => Tryz.call70 _ _) Tryz.func70 rfl (n := 23) rfl (rs := [.tmp 4]) rfl rfl ?_
 refine seqK fun K1 hK1 => ?_
 refine region ?_
 refine s0 (boxV rfl) rfl ?_
 refine s0 assignA rfl ?_
 refine nil ?_
 refine hK1 _ ?_
 clear hK1 K1
 refine seqK fun K2 hK2 => ?_
 refine region ?_
 refine s0 (loadV (TK rfl) rfl rfl rfl) rfl ?_
 refine s0 moveA rfl ?_
 obtain ⟨x3, gx3, hE⟩ := bindO_some hE
 refine s0 (callP rfl rfl (fun H => Z51_walk gx3 H)) rfl ?_
 refine s0 moveA rfl ?_
 refine s0 (extract rfl rfl) rfl ?_
 refine s0 (extract rfl rfl) rfl ?_
 refine sL (allocLA (TK rfl) rfl) rfl ?_
 refine sLn (storeLFA (TK rfl) rfl rfl rfl rfl rfl) ?_
 refine s0 assignA rfl ?_
 refine nil ?_
 refine hK2 _ ?_
 clear hK2 K2
 refine freezeA 5 _ rfl (Keeps.c (k := 1) (by conv => lhs; whnf) (by rfl) (Keeps.c (k := 6) (by conv => lhs; whnf) (by rfl) Keeps.nil)) ?_
 refine seqK fun K4 hK4 => ?_
 refine region ?_
 refine s0 moveA rfl ?_
 obtain ⟨x5, gx5, hE⟩ := bindO_some hE
 refine s0 (callP rfl rfl (fun H => Z55_walk gx5 H)) rfl ?_
 refine s0 moveA rfl ?_
 refine gC rfl rfl (fun hC => moveA) rfl ?_
 refine gC rfl rfl (fun hC => ungdA (k := 16) rfl moveA) rfl ?_
 refine gC rfl rfl (fun hC => fieldVA (TK rfl) rfl rfl (TK rfl) rfl rfl) rfl ?_
 refine gC rfl rfl (fun hC => ungdA (k := 18) rfl (loadV (TK rfl) rfl rfl rfl)) rfl ?_
 refine gC rfl rfl (fun hC => ungdA (k := 19) rfl (binI rfl rfl rfl)) rfl ?_
 refine gC rfl rfl (fun hC => ungdA (k := 17) rfl (pickAndA rfl rfl rfl)) rfl ?_
 refine s0 (pickOrA rfl rfl rfl) rfl ?_
 refine s0 assignA rfl ?_
 refine nil ?_
 refine hK4 _ ?_
 clear hK4 K4
 refine AWp.ret ?_
 repeat (first | refine xBlock_ret ?_ | refine xThen_ret ?_)
 obtain rfl := Option.some.inj hE
 refine retQ.retF H rfl ⟨rfl, rfl⟩ ?_
 exact (fun _ _ h => h)
def Z53 (a0 : TDoc) (a1 : Bs) : Option Bool := (Z51 a0 a1).bind fun x3 => (Z54 a0 a1).bind fun x5 => some (x5 || (x3.2 && (decide (x3.1.FKind = (5 : Int)))))
theorem Z53_walk {a0 : TDoc} {a1 : Bs}   {r : Bool} (hE : Z53 a0 a1 = some r) (H : Heap)  : ACalls Tryz.prog 33 [.agg (TDoc.c a0), .d (.str a1)] H fun v h' => v = .a (.d (.bool r)) ∧ h' = H := by
 unfold Z53 at hE
 refine ACalls.of_wp (fn := Tryz.f33) (c := _) Tryz.tab_ok (fun _ _ => Tryz.call33 _ _) Tryz.func33 rfl (n := 24) rfl (rs := [.tmp 4]) rfl rfl ?_
 refine seqK fun K1 hK1 => ?_
 refine region ?_
 refine s0 (boxV rfl) rfl ?_
 refine s0 assignA rfl ?_
 refine nil ?_
 refine hK1 _ ?_
 clear hK1 K1
 refine seqK fun K2 hK2 => ?_
 refine region ?_
 refine s0 (loadV (TK rfl) rfl rfl rfl) rfl ?_
 refine s0 moveA rfl ?_
 obtain ⟨x3, gx3, hE⟩ := bindO_some hE
 refine s0 (callP rfl rfl (fun H => Z51_walk gx3 H)) rfl ?_
 refine s0 moveA rfl ?_
 refine s0 (extract rfl rfl) rfl ?_
 refine s0 (extract rfl rfl) rfl ?_
 refine sL (allocLA (TK rfl) rfl) rfl ?_
 refine sLn (storeLFA (TK rfl) rfl rfl rfl rfl rfl) ?_
 refine s0 assignA rfl ?_
 refine nil ?_
 refine hK2 _ ?_
 clear hK2 K2
 refine freezeA 5 _ rfl (Keeps.c (k := 1) (by conv => lhs; whnf) (by rfl) (Keeps.c (k := 2) (by conv => lhs; whnf) (by rfl) (Keeps.c (k := 6) (by conv => lhs; whnf) (by rfl) Keeps.nil))) ?_
 refine seqK fun K4 hK4 => ?_
 refine region ?_
 refine s0 (loadV (TK rfl) rfl rfl rfl) rfl ?_
 refine s0 moveA rfl ?_
 obtain ⟨x5, gx5, hE⟩ := bindO_some hE
 refine s0 (callP rfl rfl (fun H => Z54_walk gx5 H)) rfl ?_
 refine s0 moveA rfl ?_
 refine gC rfl rfl (fun hC => moveA) rfl ?_
 refine gC rfl rfl (fun hC => ungdA (k := 17) rfl moveA) rfl ?_
 refine gC rfl rfl (fun hC => fieldVA (TK rfl) rfl rfl (TK rfl) rfl rfl) rfl ?_
 refine gC rfl rfl (fun hC => ungdA (k := 19) rfl (loadV (TK rfl) rfl rfl rfl)) rfl ?_
 refine gC rfl rfl (fun hC => ungdA (k := 20) rfl (binI rfl rfl rfl)) rfl ?_
 refine gC rfl rfl (fun hC => ungdA (k := 18) rfl (pickAndA rfl rfl rfl)) rfl ?_
 refine s0 (pickOrA rfl rfl rfl) rfl ?_
 refine s0 assignA rfl ?_
 refine nil ?_
 refine hK4 _ ?_
 clear hK4 K4
 refine AWp.ret ?_
 repeat (first | refine xBlock_ret ?_ | refine xThen_ret ?_)
 obtain rfl := Option.some.inj hE
 refine retQ.retF H rfl ⟨rfl, rfl⟩ ?_
 exact (fun _ _ h => h)
def Z29_j3  (s3_4 : (Sl TValue)) : Option (Sl TValue) := some s3_4
def Z29_l7 (a0 : (Sl TValue)) (k_rec_75 : TValue → Option TValue) : Nat → (Sl TValue) → Nat → Option (Sl TValue)
 | 0, _, _ => none
 | n7 + 1, s3_8, s4_9 => bif (decide (((s4_9 : Nat) : Int) < ((a0.l.length : Nat) : Int))) then ((a0.l[s4_9]?).bind fun x15 => (k_rec_75 x15).bind fun x16 => (appC 80 s3_8 (⟨false, [x16]⟩ : Sl TValue)).bind fun x17 => (Z29_l7 a0 k_rec_75 n7) x17 (s4_9 + 1)) else (Z29_j3   s3_8)
mutual
def r02_Copy_n : Nat → TValue → Option TValue
 | 0, _ => none
 | n + 1, a0 => ((Z29_n n) a0.FItems).bind fun x3 => (appC 16 (⟨false, []⟩ : Sl Bs) a0.FKeys).bind fun x4 => some (TValue.mk a0.FKind a0.FInt a0.FText x3.nl x3.l x4)
def Z29_n : Nat → (Sl TValue) → Option (Sl TValue)
 | 0, _ => none
 | n + 1, a0 => Z29_l7 a0 (r02_Copy_n n) (a0.l.length + 1) (Sl.nil : Sl TValue) 0
end
theorem r02_Copy_step (n : Nat) (ih_75 : ∀ {a0 : TValue}   {r : TValue}, r02_Copy_n n a0 = some r → ∀ (H : Heap), ACalls Tryz.prog 75 [.agg (TValue.c a0)] H fun v h' => v = .a (.agg (TValue.c r)) ∧ h' = H) (ih_105 : ∀ {a0 : (Sl TValue)} {w0 : Option Nat}  {r : (Sl TValue)}, Z29_n n a0 = some r → ∀ (H : Heap), ACalls Tryz.prog 105 [.d (Sl.d 5 TValue.c w0 a0)] H fun v h' => v = .a (.d (Sl.d 5 TValue.c none r)) ∧ h' = H) : ∀ {a0 : TValue}   {r : TValue}, r02_Copy_n (n + 1) a0 = some r → ∀ (H : Heap), ACalls Tryz.prog 75 [.agg (TValue.c a0)] H fun v h' => v = .a (.agg (TValue.c r)) ∧ h' = H := by
 intro a0   r hE H 
 rw [r02_Copy_n] at hE
 refine ACalls.of_wp (fn := Tryz.f75) (c := _) Tryz.tab_ok (fun _ _ => Tryz.call75 _ _) Tryz.func75 rfl (n := 17) rfl (rs := [.cell 2 31]) rfl rfl ?_
 refine seqK fun K1 hK1 => ?_
 refine region ?_
 refine s0 (boxV rfl) rfl ?_
 refine sL (allocLA (TK rfl) rfl) rfl ?_
 refine nil ?_
 refine hK1 _ ?_
 clear hK1 K1
 refine seqK fun K2 hK2 => ?_
 refine AWp.draw rfl ?_
 refine DOps.s0 (fieldVA (TK rfl) rfl rfl (TK rfl) rfl rfl) rfl ?_
 refine DOps.s0 (loadV (TK rfl) rfl rfl rfl) rfl ?_
 refine DOps.s0 (fieldVA (TK rfl) rfl rfl (TK rfl) rfl rfl) rfl ?_
 refine DOps.s0 (loadV (TK rfl) rfl rfl rfl) rfl ?_
 refine DOps.s0 (fieldVA (TK rfl) rfl rfl (TK rfl) rfl rfl) rfl ?_
 refine DOps.s0 (loadV (TK rfl) rfl rfl rfl) rfl ?_
 refine DOps.s0 (fieldVA (TK rfl) rfl rfl (TK rfl) rfl rfl) rfl ?_
 refine DOps.s0 (loadV (TK rfl) rfl rfl (congrArg (fun x => some (A.d x)) (TValue.FItemsD_eq _))) rfl ?_
 obtain ⟨x3, gx3, hE⟩ := bindO_some hE
 refine DOps.s0 (callP rfl rfl (fun H => ih_105 gx3 H)) rfl ?_
 refine DOps.s0 (buildSliceF (TK rfl) rfl (TK rfl) rfl rfl rfl rfl rfl rfl) rfl ?_
 refine DOps.s0 (fieldVA (TK rfl) rfl rfl (TK rfl) rfl rfl) rfl ?_
 refine DOps.s0 (loadV (TK rfl) rfl rfl rfl) rfl ?_
 obtain ⟨x4, gx4, hE⟩ := bindO_some hE
 refine DOps.s0 (appFM (f := strE) (TK rfl) rfl (TK rfl) (TK rfl) ⟨_, rfl⟩ rfl rfl (by decide) rfl rfl rfl (by intro q h; cases h <;> decide) rfl rfl gx4) rfl ?_
 refine DOps.s0 (build Tryz.tab_ok rfl rfl rfl rfl rfl rfl) rfl ?_
 refine DOps.sLn (storeLFA (TK rfl) rfl rfl rfl rfl rfl) ?_
 refine DOps.nil (by decide +kernel) ?_
 refine hK2 _ ?_
 clear hK2 K2
 refine AWp.relocal 0 (TValue.c (TValue.mk a0.FKind a0.FInt a0.FText x3.nl x3.l x4)) rfl (fun j w cs hh hx => by rw [TValue.cu_eq]; exact hx) ?_
 refine AWp.ret ?_
 repeat (first | refine xBlock_ret ?_ | refine xThen_ret ?_)
 obtain rfl := Option.some.inj hE
 refine retQ.retF H rfl ⟨rfl, rfl⟩ ?_
 exact (fun _ _ h => h)
theorem Z29_step (n : Nat) (ih_75 : ∀ {a0 : TValue}   {r : TValue}, r02_Copy_n n a0 = some r → ∀ (H : Heap), ACalls Tryz.prog 75 [.agg (TValue.c a0)] H fun v h' => v = .a (.agg (TValue.c r)) ∧ h' = H) (ih_105 : ∀ {a0 : (Sl TValue)} {w0 : Option Nat}  {r : (Sl TValue)}, Z29_n n a0 = some r → ∀ (H : Heap), ACalls Tryz.prog 105 [.d (Sl.d 5 TValue.c w0 a0)] H fun v h' => v = .a (.d (Sl.d 5 TValue.c none r)) ∧ h' = H) : ∀ {a0 : (Sl TValue)} {w0 : Option Nat}  {r : (Sl TValue)}, Z29_n (n + 1) a0 = some r → ∀ (H : Heap), ACalls Tryz.prog 105 [.d (Sl.d 5 TValue.c w0 a0)] H fun v h' => v = .a (.d (Sl.d 5 TValue.c none r)) ∧ h' = H := by
 intro a0 w0  r hE H 
 rw [Z29_n] at hE
 refine ACalls.of_wp (fn := Tryz.f105) (c := _) Tryz.tab_ok (fun _ _ => Tryz.call105 _ _) Tryz.func105 rfl (n := 20) rfl (rs := [.tmp 2]) rfl rfl ?_
 refine AWp.tok 5 fun tk1 htk1 => ?_
 refine seqK fun K1 hK1 => ?_
 refine region ?_
 refine s0 (assignNil (k' := 5) rfl) rfl ?_
 refine nil ?_
 refine hK1 _ ?_
 clear hK1 K1
 refine seqK fun K2 hK2 => ?_
 refine region ?_
 refine s0 assignA rfl ?_
 refine nil ?_
 refine hK2 _ ?_
 clear hK2 K2
 refine AWp.nilTok 3 5 tk1 rfl hpG ?_
 refine seqJH KeepsT.nil (fun (z : (Sl TValue)) => [(3, .a (.d (Sl.d 5 TValue.c (some tk1) z)))]) (fun z => (H.set tk1 (some (.tok 5 z.l.length)))) (fun z => Z29_j3 z = some r) ?_ ?_
 ·intro K3 hK3
  refine seqK fun K6 hK6 => ?_
  refine region ?_
  refine s0 assignA rfl ?_
  refine nil ?_
  refine hK6 _ ?_
  clear hK6 K6
  refine block ?_
  refine loopH (KeepsT.A (k := 0) KeepsT.nil) (fun (z : Nat × (Sl TValue) × Nat) => [(3, .a (.d (Sl.d 5 TValue.c (some tk1) z.2.1))), (4, .a (.d (.int .i64 ((z.2.2 : Nat) : Int))))]) (fun z => (H.set tk1 (some (.tok 5 z.2.1.l.length)))) (fun z => z.1) (fun z => Z29_l7 a0 (r02_Copy_n n) z.1 z.2.1 z.2.2 = some r) ((a0.l.length + 1), (Sl.nil : Sl TValue), 0) hE Weak.toA ?_
  rintro ⟨n7, s3_8, s4_9⟩ hE K7 hK7
  try dsimp only at hE
  cases n7 with
  | zero => cases hE
  | succ n7 =>
    rw [Z29_l7] at hE
    refine seqK fun K10 hK10 => ?_
    refine seqK fun K11 hK11 => ?_
    refine region ?_
    refine s0 moveA rfl ?_
    refine s0 moveA rfl ?_
    refine sLen (f := TValue.c) (s := a0) (TK rfl) rfl rfl rfl rfl fun hL12 => ?_
    refine s0 (binI rfl rfl rfl) rfl ?_
    refine nil ?_
    refine hK11 _ ?_
    clear hK11 K11
    refine condE hE rfl (fun hc13 hE => ?_) (fun hc13 hE => ?_)
    ·try dsimp only at hc13
     have hf13 := of_decide_eq_true hc13
     refine AWp.skip ?_
     refine hK10 _ ?_
     clear hK10 K10
     refine seqK fun K14 hK14 => ?_
     refine block ?_
     refine region ?_
     refine s0 moveA rfl ?_
     refine s0 moveA rfl ?_
     refine s0 moveA rfl ?_
     obtain ⟨x15, gx15, hE⟩ := bindO_some hE
     refine s0 (idxMn (f := TValue.c) (n := s4_9) (TK rfl) rfl (TK rfl) rfl rfl rfl gx15) rfl ?_
     refine s0 (loadV (TK rfl) rfl rfl rfl) rfl ?_
     obtain ⟨x16, gx16, hE⟩ := bindO_some hE
     refine s0 (callP rfl rfl (fun H => ih_75 gx16 H)) rfl ?_
     refine s0 (buildSlice (TK rfl) rfl (TK rfl) rfl rfl rfl rfl rfl rfl) rfl ?_
     obtain ⟨x17, gx17, hE⟩ := bindO_some hE
     refine sH (appM (f := TValue.c) (TK rfl) rfl (TK rfl) (TK rfl) ⟨_, rfl⟩ rfl rfl (by decide) rfl rfl rfl rfl hpG rfl gx17) rfl ?_
     refine AOps.heq (h' := (H.set tk1 (some (.tok 5 x17.l.length)))) (by first | rfl | (rw [Heap.set_set]; rfl) | (funext n_; simp only [Heap.set]; (repeat' split) <;> first | rfl | (exfalso; simp_all; done) | (simp_all; done))) ?_
     refine s0 assignA rfl ?_
     refine nil ?_
     refine hK14 _ ?_
     clear hK14 K14
     refine region ?_
     refine s0 moveA rfl ?_
     refine s0 (addIA rfl rfl) rfl ?_
     refine s0 assignA rfl ?_
     refine nil ?_
     exact hK7 _ (n7, x17, (s4_9 + 1)) Weak.toA hE (Nat.lt_succ_self _)
    refine AWp.exit ?_
    exact hK3 _ s3_8 Weak.toA hE
 rintro s3_4 hE
 try dsimp only at hE
 unfold Z29_j3 at hE
 refine seqK fun K5 hK5 => ?_
 refine region ?_
 refine s0 moveA rfl ?_
 refine s0 assignA rfl ?_
 refine nil ?_
 refine hK5 _ ?_
 clear hK5 K5
 refine AWp.dropTok 2 rfl ?_
 refine AWp.ret ?_
 repeat (first | refine xBlock_ret ?_ | refine xThen_ret ?_)
 obtain rfl := Option.some.inj hE
 refine retQ.retF H rfl ⟨rfl, rfl⟩ ?_
 first | exact Heap.sub_set htk1 | (simp only [Heap.set_set]; exact Heap.sub_set htk1)
theorem r02_Copy_all : ∀ (n : Nat), (∀ {a0 : TValue}   {r : TValue}, r02_Copy_n n a0 = some r → ∀ (H : Heap), ACalls Tryz.prog 75 [.agg (TValue.c a0)] H fun v h' => v = .a (.agg (TValue.c r)) ∧ h' = H) ∧ (∀ {a0 : (Sl TValue)} {w0 : Option Nat}  {r : (Sl TValue)}, Z29_n n a0 = some r → ∀ (H : Heap), ACalls Tryz.prog 105 [.d (Sl.d 5 TValue.c w0 a0)] H fun v h' => v = .a (.d (Sl.d 5 TValue.c none r)) ∧ h' = H)
 | 0 => ⟨fun hE => by first | cases hE | (rw [r02_Copy_n] at hE; cases hE), fun hE => by first | cases hE | (rw [Z29_n] at hE; cases hE)⟩
 | n + 1 => ⟨r02_Copy_step n (r02_Copy_all n).1 (r02_Copy_all n).2, Z29_step n (r02_Copy_all n).1 (r02_Copy_all n).2⟩
def r02_Copy (a0 : TValue) : Option TValue := r02_Copy_n F0 a0
theorem r02_Copy_walk {a0 : TValue}   {r : TValue} (hE : r02_Copy a0 = some r) (H : Heap)  : ACalls Tryz.prog 75 [.agg (TValue.c a0)] H fun v h' => v = .a (.agg (TValue.c r)) ∧ h' = H := (r02_Copy_all F0).1 hE H 
def Z26_j6  (y7_l0 : TValue) : Option (TValue × Bool) := some ((TValue.mk (0 : Int) (0 : Int) ([] : Bs) true ([]) (Sl.nil : Sl Bs)), false)
def Z26_l10 (a0 : TValue) (a1 : Bs)  : Nat → Nat → TValue → Option (TValue × Bool)
 | 0, _, _ => none
 | n10 + 1, s6_11, y12_l0 => bif (decide (((s6_11 : Nat) : Int) < ((a0.FKeys.l.length : Nat) : Int))) then ((a0.FKeys.l[s6_11]?).bind fun x19 => bif ((x19 == a1)) then (bif (decide (((a0.FItems.l.length : Nat) : Int) ≤ ((s6_11 : Nat) : Int))) then (some ((TValue.mk (0 : Int) (0 : Int) ([] : Bs) true ([]) (Sl.nil : Sl Bs)), false)) else ((a0.FItems.l[s6_11]?).bind fun x27 => (r02_Copy x27).bind fun x28 => some (x28, true))) else ((Z26_l10 a0 a1 n10) (s6_11 + 1) y12_l0)) else (Z26_j6   y12_l0)
def Z26 (a0 : TValue) (a1 : Bs) : Option (TValue × Bool) := bif (!decide (a0.FKind = (6 : Int))) then (some ((TValue.mk (0 : Int) (0 : Int) ([] : Bs) true ([]) (Sl.nil : Sl Bs)), false)) else (Z26_l10 a0 a1 (a0.FKeys.l.length + 1) 0 TValue.zero)
theorem Z26_walk {a0 : TValue} {a1 : Bs}   {r : (TValue × Bool)} (hE : Z26 a0 a1 = some r) (H : Heap)  : ACalls Tryz.prog 49 [.agg (TValue.c a0), .d (.str a1)] H fun v h' => v = .tup [.agg (TValue.c r.1), .d (.bool r.2)] ∧ h' = H := by
 unfold Z26 at hE
 refine ACalls.of_wp (fn := Tryz.f49) (c := _) Tryz.tab_ok (fun _ _ => Tryz.call49 _ _) Tryz.func49 rfl (n := 38) rfl (rs := [.cell 4 31, .tmp 5]) rfl rfl ?_
 refine seqK fun K1 hK1 => ?_
 refine region ?_
 refine s0 (boxV rfl) rfl ?_
 refine sL (allocLA (TK rfl) rfl) rfl ?_
 refine s0 assignA rfl ?_
 refine nil ?_
 refine hK1 _ ?_
 clear hK1 K1
 refine seqK fun K2 hK2 => ?_
 refine seqK fun K3 hK3 => ?_
 refine region ?_
 refine s0 (fieldVA (TK rfl) rfl rfl (TK rfl) rfl rfl) rfl ?_
 refine s0 (loadV (TK rfl) rfl rfl rfl) rfl ?_
 refine s0 (binI rfl rfl rfl) rfl ?_
 refine nil ?_
 refine hK3 _ ?_
 clear hK3 K3
 refine condE hE rfl (fun hc4 hE => ?_) (fun hc4 hE => ?_)
 ·refine seqK fun K5 hK5 => ?_
  refine region ?_
  refine s0 (build Tryz.tab_ok rfl rfl rfl rfl rfl rfl) rfl ?_
  refine sLn (storeLFA (TK rfl) rfl rfl rfl rfl rfl) ?_
  refine s0 assignA rfl ?_
  refine nil ?_
  refine hK5 _ ?_
  clear hK5 K5
  refine AWp.ret ?_
  repeat (first | refine xBlock_ret ?_ | refine xThen_ret ?_)
  obtain rfl := Option.some.inj hE
  refine retQ.retF H rfl ⟨rfl, rfl⟩ ?_
  exact (fun _ _ h => h)
 refine AWp.skip ?_
 refine hK2 _ ?_
 clear hK2 K2
 refine seqJ (KeepsT.A (k := 4) KeepsT.nil) (fun (z : TValue) => []) (fun z => [TValue.c z]) (fun z => H) (fun z => Z26_j6 z = some r) ?_ ?_
 ·intro K6 hK6
  refine seqK fun K9 hK9 => ?_
  refine region ?_
  refine s0 assignA rfl ?_
  refine nil ?_
  refine hK9 _ ?_
  clear hK9 K9
  refine block ?_
  refine loopO (KeepsT.A (k := 1) (KeepsT.A (k := 2) (KeepsT.A (k := 4) KeepsT.nil))) (fun (z : Nat × Nat × TValue) => [(6, .a (.d (.int .i64 ((z.2.1 : Nat) : Int))))]) (fun z => [TValue.c z.2.2]) (fun z => H) (fun z => z.1) (fun z => Z26_l10 a0 a1 z.1 z.2.1 z.2.2 = some r) ((a0.FKeys.l.length + 1), 0, TValue.zero) hE Weak.toA ?_
  rintro ⟨n10, s6_11, y12_l0⟩ hE K10 hK10
  try dsimp only at hE
  cases n10 with
  | zero => cases hE
  | succ n10 =>
    rw [Z26_l10] at hE
    refine seqK fun K13 hK13 => ?_
    refine seqK fun K14 hK14 => ?_
    refine region ?_
    refine s0 moveA rfl ?_
    refine s0 (fieldVA (TK rfl) rfl rfl (TK rfl) rfl rfl) rfl ?_
    refine s0 (loadV (TK rfl) rfl rfl rfl) rfl ?_
    refine sLen (f := strE) (s := a0.FKeys) (TK rfl) rfl rfl rfl rfl fun hL15 => ?_
    refine s0 (binI rfl rfl rfl) rfl ?_
    refine nil ?_
    refine hK14 _ ?_
    clear hK14 K14
    refine condE hE rfl (fun hc16 hE => ?_) (fun hc16 hE => ?_)
    ·try dsimp only at hc16
     have hf16 := of_decide_eq_true hc16
     refine AWp.skip ?_
     refine hK13 _ ?_
     clear hK13 K13
     refine seqK fun K17 hK17 => ?_
     refine block ?_
     refine seqK fun K18 hK18 => ?_
     refine region ?_
     refine s0 (fieldVA (TK rfl) rfl rfl (TK rfl) rfl rfl) rfl ?_
     refine s0 (loadV (TK rfl) rfl rfl rfl) rfl ?_
     refine s0 moveA rfl ?_
     obtain ⟨x19, gx19, hE⟩ := bindO_some hE
     refine s0 (idxMn (f := strE) (n := s6_11) (TK rfl) rfl (TK rfl) rfl rfl rfl gx19) rfl ?_
     refine s0 (loadV (TK rfl) rfl rfl rfl) rfl ?_
     refine s0 moveA rfl ?_
     refine s0 (binS rfl rfl rfl) rfl ?_
     refine nil ?_
     refine hK18 _ ?_
     clear hK18 K18
     refine condE hE rfl (fun hc20 hE => ?_) (fun hc20 hE => ?_)
     ·refine seqK fun K21 hK21 => ?_
      refine seqK fun K22 hK22 => ?_
      refine region ?_
      refine s0 moveA rfl ?_
      refine s0 (fieldVA (TK rfl) rfl rfl (TK rfl) rfl rfl) rfl ?_
      refine s0 (loadV (TK rfl) rfl rfl (congrArg (fun x => some (A.d x)) (TValue.FItemsD_eq _))) rfl ?_
      refine sLen (f := TValue.c) (s := a0.FItems) (TK rfl) rfl rfl rfl rfl fun hL23 => ?_
      refine s0 (binI rfl rfl rfl) rfl ?_
      refine nil ?_
      refine hK22 _ ?_
      clear hK22 K22
      refine condE hE rfl (fun hc24 hE => ?_) (fun hc24 hE => ?_)
      ·refine seqK fun K25 hK25 => ?_
       refine region ?_
       refine s0 (build Tryz.tab_ok rfl rfl rfl rfl rfl rfl) rfl ?_
       refine sLn (storeLFA (TK rfl) rfl rfl rfl rfl rfl) ?_
       refine s0 assignA rfl ?_
       refine nil ?_
       refine hK25 _ ?_
       clear hK25 K25
       refine AWp.ret ?_
       repeat (first | refine xBlock_ret ?_ | refine xThen_ret ?_)
       obtain rfl := Option.some.inj hE
       refine retQ.retF H rfl ⟨rfl, rfl⟩ ?_
       exact (fun _ _ h => h)
      refine AWp.skip ?_
      refine hK21 _ ?_
      clear hK21 K21
      refine seqK fun K26 hK26 => ?_
      refine region ?_
      refine s0 (fieldVA (TK rfl) rfl rfl (TK rfl) rfl rfl) rfl ?_
      refine s0 (loadV (TK rfl) rfl rfl (congrArg (fun x => some (A.d x)) (TValue.FItemsD_eq _))) rfl ?_
      refine s0 moveA rfl ?_
      obtain ⟨x27, gx27, hE⟩ := bindO_some hE
      refine s0 (idxMn (f := TValue.c) (n := s6_11) (TK rfl) rfl (TK rfl) rfl rfl rfl gx27) rfl ?_
      refine s0 (loadV (TK rfl) rfl rfl rfl) rfl ?_
      obtain ⟨x28, gx28, hE⟩ := bindO_some hE
      refine s0 (callP rfl rfl (fun H => r02_Copy_walk gx28 H)) rfl ?_
      refine sLn (storeLFA (TK rfl) rfl rfl rfl rfl rfl) ?_
      refine s0 assignA rfl ?_
      refine nil ?_
      refine hK26 _ ?_
      clear hK26 K26
      refine AWp.ret ?_
      repeat (first | refine xBlock_ret ?_ | refine xThen_ret ?_)
      obtain rfl := Option.some.inj hE
      refine retQ.retF H rfl ⟨rfl, rfl⟩ ?_
      exact (fun _ _ h => h)
     refine AWp.skip ?_
     refine hK17 _ ?_
     clear hK17 K17
     refine region ?_
     refine s0 moveA rfl ?_
     refine s0 (addIA rfl rfl) rfl ?_
     refine s0 assignA rfl ?_
     refine nil ?_
     exact hK10 _ (n10, (s6_11 + 1), y12_l0) Weak.toA hE (Nat.lt_succ_self _)
    refine AWp.exit ?_
    exact hK6 _ y12_l0 Weak.toA hE
 rintro y7_l0 hE
 try dsimp only at hE
 unfold Z26_j6 at hE
 refine seqK fun K8 hK8 => ?_
 refine region ?_
 refine s0 (build Tryz.tab_ok rfl rfl rfl rfl rfl rfl) rfl ?_
 refine sLn (storeLFA (TK rfl) rfl rfl rfl rfl rfl) ?_
 refine s0 assignA rfl ?_
 refine nil ?_
 refine hK8 _ ?_
 clear hK8 K8
 refine AWp.ret ?_
 repeat (first | refine xBlock_ret ?_ | refine xThen_ret ?_)
 obtain rfl := Option.some.inj hE
 refine retQ.retF H rfl ⟨rfl, rfl⟩ ?_
 exact (fun _ _ h => h)
end Go.Proofs
