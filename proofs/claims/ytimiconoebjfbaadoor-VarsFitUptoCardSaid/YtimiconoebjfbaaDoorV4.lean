import Derived.Test.YtimiconoebjfbaaDoorV3
set_option maxRecDepth 100000
set_option maxHeartbeats 2000000
set_option linter.unusedVariables false
set_option linter.unusedSimpArgs false
namespace Go.Proofs
open Go Go.Ab
open AOps Cert AWp
def Z7_j7   : Option Bool := some true
def Z7_l10 (a0 : Bs)  : Nat → Nat → Option Bool
 | 0, _ => none
 | n10 + 1, s3_11 => bif (decide (((s3_11 : Nat) : Int) < ((a0.length : Nat) : Int))) then ((a0[s3_11]?).bind fun x18 => (Z9 ((x18.toNat : Nat) : Int)).bind fun x19 => guardO (((!x19) && !(decide (((s3_11 : Nat) : Int) = (0 : Int))))) (a0[s3_11]?) (0 : UInt8) fun x20 => guardO (((!x19) && !(decide (((s3_11 : Nat) : Int) = (0 : Int))))) (Z8 ((x20.toNat : Nat) : Int)) false fun x21 => bif ((!x19) && ((decide (((s3_11 : Nat) : Int) = (0 : Int))) || (!x21))) then (some false) else ((Z7_l10 a0 n10) (s3_11 + 1))) else (Z7_j7   )
def Z7 (a0 : Bs) : Option Bool := bif ((decide (((a0.length : Nat) : Int) < (1 : Int))) || (decide ((64 : Int) < ((a0.length : Nat) : Int)))) then (some false) else (Z7_l10 a0 (a0.length + 1) 0)
theorem Z7_walk {a0 : Bs}   {r : Bool} (hE : Z7 a0 = some r) (H : Heap)  : ACalls Tryd.prog 19 [.d (.str a0)] H fun v h' => v = .a (.d (.bool r)) ∧ h' = H := by
 unfold Z7 at hE
 refine ACalls.of_wp (fn := Tryd.f19) (c := _) Tryd.tab_ok (fun _ _ => Tryd.call19 _ _) Tryd.func19 rfl (n := 34) rfl (rs := [.tmp 2]) rfl rfl ?_
 refine seqK fun K1 hK1 => ?_
 refine region ?_
 refine s0 assignA rfl ?_
 refine nil ?_
 refine hK1 _ ?_
 clear hK1 K1
 refine seqK fun K2 hK2 => ?_
 refine seqK fun K3 hK3 => ?_
 refine region ?_
 refine s0 moveA rfl ?_
 refine sLenS (TK rfl) rfl rfl rfl rfl fun hL4 => ?_
 refine s0 (binI rfl rfl rfl) rfl ?_
 refine s0 moveA rfl ?_
 refine gC rfl rfl (fun hC => moveA) rfl ?_
 refine gC rfl rfl (fun hC => ungdA (k := 8) rfl (lenS (TK rfl) rfl rfl rfl)) rfl ?_
 refine gC rfl rfl (fun hC => ungdA (k := 9) rfl (binI rfl rfl rfl)) rfl ?_
 refine s0 (pickOrA rfl rfl rfl) rfl ?_
 refine nil ?_
 refine hK3 _ ?_
 clear hK3 K3
 refine condE hE rfl (fun hc5 hE => ?_) (fun hc5 hE => ?_)
 ·refine seqK fun K6 hK6 => ?_
  refine region ?_
  refine s0 assignA rfl ?_
  refine nil ?_
  refine hK6 _ ?_
  clear hK6 K6
  refine AWp.ret ?_
  repeat (first | refine xBlock_ret ?_ | refine xThen_ret ?_)
  obtain rfl := Option.some.inj hE
  refine retQ.retF H rfl ⟨rfl, rfl⟩ ?_
  exact (fun _ _ h => h)
 refine AWp.skip ?_
 refine hK2 _ ?_
 clear hK2 K2
 refine seqJH KeepsT.nil (fun (z : Unit) => []) (fun z => H) (fun z => Z7_j7  = some r) ?_ ?_
 ·intro K7 hK7
  refine seqK fun K9 hK9 => ?_
  refine region ?_
  refine s0 assignA rfl ?_
  refine nil ?_
  refine hK9 _ ?_
  clear hK9 K9
  refine block ?_
  refine loopH (KeepsT.A (k := 0) KeepsT.nil) (fun (z : Nat × Nat) => [(3, .a (.d (.int .i64 ((z.2 : Nat) : Int))))]) (fun z => H) (fun z => z.1) (fun z => Z7_l10 a0 z.1 z.2 = some r) ((a0.length + 1), 0) hE Weak.toA ?_
  rintro ⟨n10, s3_11⟩ hE K10 hK10
  try dsimp only at hE
  cases n10 with
  | zero => cases hE
  | succ n10 =>
    rw [Z7_l10] at hE
    refine seqK fun K12 hK12 => ?_
    refine seqK fun K13 hK13 => ?_
    refine region ?_
    refine s0 moveA rfl ?_
    refine s0 moveA rfl ?_
    refine sLenS (TK rfl) rfl rfl rfl rfl fun hL14 => ?_
    refine s0 (binI rfl rfl rfl) rfl ?_
    refine nil ?_
    refine hK13 _ ?_
    clear hK13 K13
    refine condE hE rfl (fun hc15 hE => ?_) (fun hc15 hE => ?_)
    ·try dsimp only at hc15
     have hf15 := of_decide_eq_true hc15
     refine AWp.skip ?_
     refine hK12 _ ?_
     clear hK12 K12
     refine seqK fun K16 hK16 => ?_
     refine block ?_
     refine seqK fun K17 hK17 => ?_
     refine region ?_
     refine s0 moveA rfl ?_
     refine s0 moveA rfl ?_
     obtain ⟨x18, gx18, hE⟩ := bindO_some hE
     refine s0 (idxSn (n := s3_11) (TK rfl) rfl rfl rfl gx18) rfl ?_
     obtain ⟨x19, gx19, hE⟩ := bindO_some hE
     refine s0 (callP rfl rfl (fun H => Z9_walk gx19 H)) rfl ?_
     refine s0 (notB rfl) rfl ?_
     refine s0 moveA rfl ?_
     refine gC rfl rfl (fun hC => moveA) rfl ?_
     refine gC rfl rfl (fun hC => ungdA (k := 24) rfl (binI rfl rfl rfl)) rfl ?_
     refine gC rfl rfl (fun hC => ungdA (k := 25) rfl moveA) rfl ?_
     refine gC rfl rfl (fun hC => moveA) rfl ?_
     refine gC rfl rfl (fun hC => moveA) rfl ?_
     obtain ⟨x20, gx20, hE⟩ := guardO_some hE
     refine gC rfl rfl (fun hC => ungdA (k := 27) rfl (ungdA (k := 28) rfl (idxSn (n := s3_11) (TK rfl) rfl rfl rfl (gx20 hC)))) rfl ?_
     obtain ⟨x21, gx21, hE⟩ := guardO_some hE
     refine gC rfl rfl (fun hC => ungdA (k := 29) rfl (callP rfl rfl (fun H => Z8_walk (gx21 hC) H))) rfl ?_
     refine gC rfl rfl (fun hC => ungdA (k := 30) rfl (notB rfl)) rfl ?_
     refine gC rfl rfl (fun hC => ungdA (k := 26) rfl (pickOrA rfl rfl rfl)) rfl ?_
     refine s0 (pickAndA rfl rfl rfl) rfl ?_
     refine nil ?_
     refine hK17 _ ?_
     clear hK17 K17
     refine condE hE rfl (fun hc22 hE => ?_) (fun hc22 hE => ?_)
     ·refine seqK fun K23 hK23 => ?_
      refine region ?_
      refine s0 assignA rfl ?_
      refine nil ?_
      refine hK23 _ ?_
      clear hK23 K23
      refine AWp.ret ?_
      repeat (first | refine xBlock_ret ?_ | refine xThen_ret ?_)
      obtain rfl := Option.some.inj hE
      refine retQ.retF H rfl ⟨rfl, rfl⟩ ?_
      exact (fun _ _ h => h)
     refine AWp.skip ?_
     refine hK16 _ ?_
     clear hK16 K16
     refine region ?_
     refine s0 moveA rfl ?_
     refine s0 (addIA rfl rfl) rfl ?_
     refine s0 assignA rfl ?_
     refine nil ?_
     exact hK10 _ (n10, (s3_11 + 1)) Weak.toA hE (Nat.lt_succ_self _)
    refine AWp.exit ?_
    exact hK7 _ () Weak.toA hE
 rintro _ hE
 try dsimp only at hE
 unfold Z7_j7 at hE
 refine seqK fun K8 hK8 => ?_
 refine region ?_
 refine s0 assignA rfl ?_
 refine nil ?_
 refine hK8 _ ?_
 clear hK8 K8
 refine AWp.ret ?_
 repeat (first | refine xBlock_ret ?_ | refine xThen_ret ?_)
 obtain rfl := Option.some.inj hE
 refine retQ.retF H rfl ⟨rfl, rfl⟩ ?_
 exact (fun _ _ h => h)
def Z15_j7   : Option Bool := some true
def Z15_l10 (a0 : TRef)  : Nat → Nat → Option Bool
 | 0, _ => none
 | n10 + 1, s3_11 => bif (decide (((s3_11 : Nat) : Int) < ((a0.FWraps.l.length : Nat) : Int))) then ((a0.FWraps.l[s3_11]?).bind fun x19 => guardO ((!decide (x19 = (1 : Int)))) (a0.FWraps.l[s3_11]?) (0 : Int) fun x20 => bif ((!decide (x19 = (1 : Int))) && (!decide (x20 = (2 : Int)))) then (some false) else (guardO ((decide ((0 : Int) < ((s3_11 : Nat) : Int)))) (a0.FWraps.l[s3_11]?) (0 : Int) fun x24 => guardO (((decide ((0 : Int) < ((s3_11 : Nat) : Int))) && (decide (x24 = (1 : Int))))) (subC ((s3_11 : Nat) : Int) (1 : Int)) (0 : Int) fun x25 => guardO (((decide ((0 : Int) < ((s3_11 : Nat) : Int))) && (decide (x24 = (1 : Int))))) (idxC a0.FWraps.l x25) (0 : Int) fun x26 => bif (((decide ((0 : Int) < ((s3_11 : Nat) : Int))) && (decide (x24 = (1 : Int)))) && (decide (x26 = (1 : Int)))) then (some false) else ((Z15_l10 a0 n10) (s3_11 + 1)))) else (Z15_j7   )
def Z15 (a0 : TRef) : Option Bool := (Z7 a0.FName).bind fun x4 => bif ((!x4) || (decide ((24 : Int) < ((a0.FWraps.l.length : Nat) : Int)))) then (some false) else (Z15_l10 a0 (a0.FWraps.l.length + 1) 0)
theorem Z15_walk {a0 : TRef}   {r : Bool} (hE : Z15 a0 = some r) (H : Heap)  : ACalls Tryd.prog 9 [.agg (TRef.c a0)] H fun v h' => v = .a (.d (.bool r)) ∧ h' = H := by
 unfold Z15 at hE
 refine ACalls.of_wp (fn := Tryd.f9) (c := _) Tryd.tab_ok (fun _ _ => Tryd.call9 _ _) Tryd.func9 rfl (n := 54) rfl (rs := [.tmp 2]) rfl rfl ?_
 refine seqK fun K1 hK1 => ?_
 refine region ?_
 refine s0 (boxV rfl) rfl ?_
 refine s0 assignA rfl ?_
 refine nil ?_
 refine hK1 _ ?_
 clear hK1 K1
 refine seqK fun K2 hK2 => ?_
 refine seqK fun K3 hK3 => ?_
 refine region ?_
 refine s0 (fieldVA (TK rfl) rfl rfl (TK rfl) rfl rfl) rfl ?_
 refine s0 (loadV (TK rfl) rfl rfl rfl) rfl ?_
 obtain ⟨x4, gx4, hE⟩ := bindO_some hE
 refine s0 (callP rfl rfl (fun H => Z7_walk gx4 H)) rfl ?_
 refine s0 (notB rfl) rfl ?_
 refine s0 moveA rfl ?_
 refine gC rfl rfl (fun hC => fieldVA (TK rfl) rfl rfl (TK rfl) rfl rfl) rfl ?_
 refine gC rfl rfl (fun hC => ungdA (k := 9) rfl (loadV (TK rfl) rfl rfl rfl)) rfl ?_
 refine gC rfl rfl (fun hC => ungdA (k := 10) rfl (lenM' (f := (intE .i64)) (s := a0.FWraps) (TK rfl) rfl rfl rfl)) rfl ?_
 refine gC rfl rfl (fun hC => ungdA (k := 11) rfl (binI rfl rfl rfl)) rfl ?_
 refine s0 (pickOrA rfl rfl rfl) rfl ?_
 refine nil ?_
 refine hK3 _ ?_
 clear hK3 K3
 refine condE hE rfl (fun hc5 hE => ?_) (fun hc5 hE => ?_)
 ·refine seqK fun K6 hK6 => ?_
  refine region ?_
  refine s0 assignA rfl ?_
  refine nil ?_
  refine hK6 _ ?_
  clear hK6 K6
  refine AWp.ret ?_
  repeat (first | refine xBlock_ret ?_ | refine xThen_ret ?_)
  obtain rfl := Option.some.inj hE
  refine retQ.retF H rfl ⟨rfl, rfl⟩ ?_
  exact (fun _ _ h => h)
 refine AWp.skip ?_
 refine hK2 _ ?_
 clear hK2 K2
 refine seqJH KeepsT.nil (fun (z : Unit) => []) (fun z => H) (fun z => Z15_j7  = some r) ?_ ?_
 ·intro K7 hK7
  refine seqK fun K9 hK9 => ?_
  refine region ?_
  refine s0 assignA rfl ?_
  refine nil ?_
  refine hK9 _ ?_
  clear hK9 K9
  refine block ?_
  refine loopH (KeepsT.A (k := 1) KeepsT.nil) (fun (z : Nat × Nat) => [(3, .a (.d (.int .i64 ((z.2 : Nat) : Int))))]) (fun z => H) (fun z => z.1) (fun z => Z15_l10 a0 z.1 z.2 = some r) ((a0.FWraps.l.length + 1), 0) hE Weak.toA ?_
  rintro ⟨n10, s3_11⟩ hE K10 hK10
  try dsimp only at hE
  cases n10 with
  | zero => cases hE
  | succ n10 =>
    rw [Z15_l10] at hE
    refine seqK fun K12 hK12 => ?_
    refine seqK fun K13 hK13 => ?_
    refine region ?_
    refine s0 moveA rfl ?_
    refine s0 (fieldVA (TK rfl) rfl rfl (TK rfl) rfl rfl) rfl ?_
    refine s0 (loadV (TK rfl) rfl rfl rfl) rfl ?_
    refine sLen (f := (intE .i64)) (s := a0.FWraps) (TK rfl) rfl rfl rfl rfl fun hL14 => ?_
    refine s0 (binI rfl rfl rfl) rfl ?_
    refine nil ?_
    refine hK13 _ ?_
    clear hK13 K13
    refine condE hE rfl (fun hc15 hE => ?_) (fun hc15 hE => ?_)
    ·try dsimp only at hc15
     have hf15 := of_decide_eq_true hc15
     refine AWp.skip ?_
     refine hK12 _ ?_
     clear hK12 K12
     refine seqK fun K16 hK16 => ?_
     refine block ?_
     refine seqK fun K17 hK17 => ?_
     refine seqK fun K18 hK18 => ?_
     refine region ?_
     refine s0 (fieldVA (TK rfl) rfl rfl (TK rfl) rfl rfl) rfl ?_
     refine s0 (loadV (TK rfl) rfl rfl rfl) rfl ?_
     refine s0 moveA rfl ?_
     obtain ⟨x19, gx19, hE⟩ := bindO_some hE
     refine s0 (idxMn (f := (intE .i64)) (n := s3_11) (TK rfl) rfl (TK rfl) rfl rfl rfl gx19) rfl ?_
     refine s0 (loadV (TK rfl) rfl rfl rfl) rfl ?_
     refine s0 (binI rfl rfl rfl) rfl ?_
     refine s0 moveA rfl ?_
     refine gC rfl rfl (fun hC => fieldVA (TK rfl) rfl rfl (TK rfl) rfl rfl) rfl ?_
     refine gC rfl rfl (fun hC => ungdA (k := 28) rfl (loadV (TK rfl) rfl rfl rfl)) rfl ?_
     refine gC rfl rfl (fun hC => moveA) rfl ?_
     obtain ⟨x20, gx20, hE⟩ := guardO_some hE
     refine gC rfl rfl (fun hC => ungdA (k := 29) rfl (ungdA (k := 30) rfl (idxMn (f := (intE .i64)) (n := s3_11) (TK rfl) rfl (TK rfl) rfl rfl rfl (gx20 hC)))) rfl ?_
     refine gC rfl rfl (fun hC => ungdA (k := 31) rfl (loadV (TK rfl) rfl rfl rfl)) rfl ?_
     refine gC rfl rfl (fun hC => ungdA (k := 32) rfl (binI rfl rfl rfl)) rfl ?_
     refine s0 (pickAndA rfl rfl rfl) rfl ?_
     refine nil ?_
     refine hK18 _ ?_
     clear hK18 K18
     refine condE hE rfl (fun hc21 hE => ?_) (fun hc21 hE => ?_)
     ·refine seqK fun K22 hK22 => ?_
      refine region ?_
      refine s0 assignA rfl ?_
      refine nil ?_
      refine hK22 _ ?_
      clear hK22 K22
      refine AWp.ret ?_
      repeat (first | refine xBlock_ret ?_ | refine xThen_ret ?_)
      obtain rfl := Option.some.inj hE
      refine retQ.retF H rfl ⟨rfl, rfl⟩ ?_
      exact (fun _ _ h => h)
     refine AWp.skip ?_
     refine hK17 _ ?_
     clear hK17 K17
     refine seqK fun K23 hK23 => ?_
     refine region ?_
     refine s0 moveA rfl ?_
     refine s0 (binI rfl rfl rfl) rfl ?_
     refine s0 moveA rfl ?_
     refine gC rfl rfl (fun hC => fieldVA (TK rfl) rfl rfl (TK rfl) rfl rfl) rfl ?_
     refine gC rfl rfl (fun hC => ungdA (k := 38) rfl (loadV (TK rfl) rfl rfl rfl)) rfl ?_
     refine gC rfl rfl (fun hC => moveA) rfl ?_
     obtain ⟨x24, gx24, hE⟩ := guardO_some hE
     refine gC rfl rfl (fun hC => ungdA (k := 39) rfl (ungdA (k := 40) rfl (idxMn (f := (intE .i64)) (n := s3_11) (TK rfl) rfl (TK rfl) rfl rfl rfl (gx24 hC)))) rfl ?_
     refine gC rfl rfl (fun hC => ungdA (k := 41) rfl (loadV (TK rfl) rfl rfl rfl)) rfl ?_
     refine gC rfl rfl (fun hC => ungdA (k := 42) rfl (binI rfl rfl rfl)) rfl ?_
     refine s0 (pickAndA rfl rfl rfl) rfl ?_
     refine s0 moveA rfl ?_
     refine gC rfl rfl (fun hC => fieldVA (TK rfl) rfl rfl (TK rfl) rfl rfl) rfl ?_
     refine gC rfl rfl (fun hC => ungdA (k := 46) rfl (loadV (TK rfl) rfl rfl rfl)) rfl ?_
     refine gC rfl rfl (fun hC => moveA) rfl ?_
     obtain ⟨x25, gx25, hE⟩ := guardO_some hE
     refine gC rfl rfl (fun hC => ungdA (k := 48) rfl (subM rfl rfl (gx25 hC))) rfl ?_
     obtain ⟨x26, gx26, hE⟩ := guardO_some hE
     refine gC rfl rfl (fun hC => ungdA (k := 47) rfl (ungdA (k := 49) rfl (idxM (f := (intE .i64)) (TK rfl) rfl (TK rfl) rfl rfl rfl (gx26 hC)))) rfl ?_
     refine gC rfl rfl (fun hC => ungdA (k := 50) rfl (loadV (TK rfl) rfl rfl rfl)) rfl ?_
     refine gC rfl rfl (fun hC => ungdA (k := 51) rfl (binI rfl rfl rfl)) rfl ?_
     refine s0 (pickAndA rfl rfl rfl) rfl ?_
     refine nil ?_
     refine hK23 _ ?_
     clear hK23 K23
     refine condE hE rfl (fun hc27 hE => ?_) (fun hc27 hE => ?_)
     ·refine seqK fun K28 hK28 => ?_
      refine region ?_
      refine s0 assignA rfl ?_
      refine nil ?_
      refine hK28 _ ?_
      clear hK28 K28
      refine AWp.ret ?_
      repeat (first | refine xBlock_ret ?_ | refine xThen_ret ?_)
      obtain rfl := Option.some.inj hE
      refine retQ.retF H rfl ⟨rfl, rfl⟩ ?_
      exact (fun _ _ h => h)
     refine AWp.skip ?_
     refine hK16 _ ?_
     clear hK16 K16
     refine region ?_
     refine s0 moveA rfl ?_
     refine s0 (addIA rfl rfl) rfl ?_
     refine s0 assignA rfl ?_
     refine nil ?_
     exact hK10 _ (n10, (s3_11 + 1)) Weak.toA hE (Nat.lt_succ_self _)
    refine AWp.exit ?_
    exact hK7 _ () Weak.toA hE
 rintro _ hE
 try dsimp only at hE
 unfold Z15_j7 at hE
 refine seqK fun K8 hK8 => ?_
 refine region ?_
 refine s0 assignA rfl ?_
 refine nil ?_
 refine hK8 _ ?_
 clear hK8 K8
 refine AWp.ret ?_
 repeat (first | refine xBlock_ret ?_ | refine xThen_ret ?_)
 obtain rfl := Option.some.inj hE
 refine retQ.retF H rfl ⟨rfl, rfl⟩ ?_
 exact (fun _ _ h => h)
def Z19_j8   : Option Bool := some true
def Z19_l11 (a0 : (Sl Int)) (a1 : (Sl Int))  : Nat → Nat → Option Bool
 | 0, _ => none
 | n11 + 1, s5_12 => bif (decide (((s5_12 : Nat) : Int) < ((a0.l.length : Nat) : Int))) then ((a0.l[s5_12]?).bind fun x19 => (a1.l[s5_12]?).bind fun x20 => bif (!decide (x19 = x20)) then (some false) else ((Z19_l11 a0 a1 n11) (s5_12 + 1))) else (Z19_j8   )
def Z19 (a0 : (Sl Int)) (a1 : (Sl Int)) : Option Bool := bif (!decide (((a0.l.length : Nat) : Int) = ((a1.l.length : Nat) : Int))) then (some false) else (Z19_l11 a0 a1 (a0.l.length + 1) 0)
theorem Z19_walk {a0 : (Sl Int)} {a1 : (Sl Int)} {w0 : Option Nat} {w1 : Option Nat}  {r : Bool} (hE : Z19 a0 a1 = some r) (H : Heap)  : ACalls Tryd.prog 38 [.d (Sl.d 1 (intE .i64) w0 a0), .d (Sl.d 1 (intE .i64) w1 a1)] H fun v h' => v = .a (.d (.bool r)) ∧ h' = H := by
 unfold Z19 at hE
 refine ACalls.of_wp (fn := Tryd.f38) (c := _) Tryd.tab_ok (fun _ _ => Tryd.call38 _ _) Tryd.func38 rfl (n := 26) rfl (rs := [.tmp 4]) rfl rfl ?_
 refine seqK fun K1 hK1 => ?_
 refine region ?_
 refine s0 assignA rfl ?_
 refine nil ?_
 refine hK1 _ ?_
 clear hK1 K1
 refine seqK fun K2 hK2 => ?_
 refine seqK fun K3 hK3 => ?_
 refine region ?_
 refine s0 moveA rfl ?_
 refine sLen (f := (intE .i64)) (s := a0) (TK rfl) rfl rfl rfl rfl fun hL4 => ?_
 refine s0 moveA rfl ?_
 refine sLen (f := (intE .i64)) (s := a1) (TK rfl) rfl rfl rfl rfl fun hL5 => ?_
 refine s0 (binI rfl rfl rfl) rfl ?_
 refine nil ?_
 refine hK3 _ ?_
 clear hK3 K3
 refine condE hE rfl (fun hc6 hE => ?_) (fun hc6 hE => ?_)
 ·refine seqK fun K7 hK7 => ?_
  refine region ?_
  refine s0 assignA rfl ?_
  refine nil ?_
  refine hK7 _ ?_
  clear hK7 K7
  refine AWp.ret ?_
  repeat (first | refine xBlock_ret ?_ | refine xThen_ret ?_)
  obtain rfl := Option.some.inj hE
  refine retQ.retF H rfl ⟨rfl, rfl⟩ ?_
  exact (fun _ _ h => h)
 refine AWp.skip ?_
 refine hK2 _ ?_
 clear hK2 K2
 refine seqJH KeepsT.nil (fun (z : Unit) => []) (fun z => H) (fun z => Z19_j8  = some r) ?_ ?_
 ·intro K8 hK8
  refine seqK fun K10 hK10 => ?_
  refine region ?_
  refine s0 assignA rfl ?_
  refine nil ?_
  refine hK10 _ ?_
  clear hK10 K10
  refine block ?_
  refine loopH (KeepsT.A (k := 0) (KeepsT.A (k := 1) KeepsT.nil)) (fun (z : Nat × Nat) => [(5, .a (.d (.int .i64 ((z.2 : Nat) : Int))))]) (fun z => H) (fun z => z.1) (fun z => Z19_l11 a0 a1 z.1 z.2 = some r) ((a0.l.length + 1), 0) hE Weak.toA ?_
  rintro ⟨n11, s5_12⟩ hE K11 hK11
  try dsimp only at hE
  cases n11 with
  | zero => cases hE
  | succ n11 =>
    rw [Z19_l11] at hE
    refine seqK fun K13 hK13 => ?_
    refine seqK fun K14 hK14 => ?_
    refine region ?_
    refine s0 moveA rfl ?_
    refine s0 moveA rfl ?_
    refine sLen (f := (intE .i64)) (s := a0) (TK rfl) rfl rfl rfl rfl fun hL15 => ?_
    refine s0 (binI rfl rfl rfl) rfl ?_
    refine nil ?_
    refine hK14 _ ?_
    clear hK14 K14
    refine condE hE rfl (fun hc16 hE => ?_) (fun hc16 hE => ?_)
    ·try dsimp only at hc16
     have hf16 := of_decide_eq_true hc16
     refine AWp.skip ?_
     refine hK13 _ ?_
     clear hK13 K13
     refine seqK fun K17 hK17 => ?_
     refine block ?_
     refine seqK fun K18 hK18 => ?_
     refine AWp.draw rfl ?_
     refine DOps.s0 moveA rfl ?_
     refine DOps.s0 moveA rfl ?_
     obtain ⟨x19, gx19, hE⟩ := bindO_some hE
     refine DOps.s0 (idxMn (f := (intE .i64)) (n := s5_12) (TK rfl) rfl (TK rfl) rfl rfl rfl gx19) rfl ?_
     refine DOps.s0 (loadV (TK rfl) rfl rfl rfl) rfl ?_
     refine DOps.s0 moveA rfl ?_
     refine DOps.s0 moveA rfl ?_
     obtain ⟨x20, gx20, hE⟩ := bindO_some hE
     refine DOps.s0 (idxMn (f := (intE .i64)) (n := s5_12) (TK rfl) rfl (TK rfl) rfl rfl rfl gx20) rfl ?_
     refine DOps.s0 (loadV (TK rfl) rfl rfl rfl) rfl ?_
     refine DOps.s0 (binI rfl rfl rfl) rfl ?_
     refine DOps.nil (by decide +kernel) ?_
     refine hK18 _ ?_
     clear hK18 K18
     refine condE hE rfl (fun hc21 hE => ?_) (fun hc21 hE => ?_)
     ·refine seqK fun K22 hK22 => ?_
      refine region ?_
      refine s0 assignA rfl ?_
      refine nil ?_
      refine hK22 _ ?_
      clear hK22 K22
      refine AWp.ret ?_
      repeat (first | refine xBlock_ret ?_ | refine xThen_ret ?_)
      obtain rfl := Option.some.inj hE
      refine retQ.retF H rfl ⟨rfl, rfl⟩ ?_
      exact (fun _ _ h => h)
     refine AWp.skip ?_
     refine hK17 _ ?_
     clear hK17 K17
     refine region ?_
     refine s0 moveA rfl ?_
     refine s0 (addIA rfl rfl) rfl ?_
     refine s0 assignA rfl ?_
     refine nil ?_
     exact hK11 _ (n11, (s5_12 + 1)) Weak.toA hE (Nat.lt_succ_self _)
    refine AWp.exit ?_
    exact hK8 _ () Weak.toA hE
 rintro _ hE
 try dsimp only at hE
 unfold Z19_j8 at hE
 refine seqK fun K9 hK9 => ?_
 refine region ?_
 refine s0 assignA rfl ?_
 refine nil ?_
 refine hK9 _ ?_
 clear hK9 K9
 refine AWp.ret ?_
 repeat (first | refine xBlock_ret ?_ | refine xThen_ret ?_)
 obtain rfl := Option.some.inj hE
 refine retQ.retF H rfl ⟨rfl, rfl⟩ ?_
 exact (fun _ _ h => h)
def Z18_j3  (s3_4 : (Sl Int)) : Option (Sl Int) := some s3_4
def Z18_j14 (s4_9 : Nat) (k_next_7 : (Sl Int) → Nat → Option (Sl Int)) (s3_15 : (Sl Int)) : Option (Sl Int) := k_next_7 s3_15 (s4_9 + 1)
def Z18_l7 (a0 : TRef)  : Nat → (Sl Int) → Nat → Option (Sl Int)
 | 0, _, _ => none
 | n7 + 1, s3_8, s4_9 => bif (decide (((s4_9 : Nat) : Int) < ((a0.FWraps.l.length : Nat) : Int))) then ((a0.FWraps.l[s4_9]?).bind fun x17 => bif (!decide (x17 = (1 : Int))) then ((a0.FWraps.l[s4_9]?).bind fun x19 => (appC 8 s3_8 (⟨false, [x19]⟩ : Sl Int)).bind fun x20 => Z18_j14 s4_9 ((Z18_l7 a0 n7)) x20) else (Z18_j14 s4_9 ((Z18_l7 a0 n7)) s3_8)) else (Z18_j3   s3_8)
def Z18 (a0 : TRef) : Option (Sl Int) := Z18_l7 a0 (a0.FWraps.l.length + 1) (Sl.nil : Sl Int) 0
theorem Z18_walk {a0 : TRef}   {r : (Sl Int)} (hE : Z18 a0 = some r) (H : Heap)  : ACalls Tryd.prog 39 [.agg (TRef.c a0)] H fun v h' => v = .a (.d (Sl.d 1 (intE .i64) none r)) ∧ h' = H := by
 unfold Z18 at hE
 refine ACalls.of_wp (fn := Tryd.f39) (c := _) Tryd.tab_ok (fun _ _ => Tryd.call39 _ _) Tryd.func39 rfl (n := 27) rfl (rs := [.tmp 2]) rfl rfl ?_
 refine AWp.tok 1 fun tk1 htk1 => ?_
 refine seqK fun K1 hK1 => ?_
 refine region ?_
 refine s0 (boxV rfl) rfl ?_
 refine s0 (assignNil (k' := 1) rfl) rfl ?_
 refine nil ?_
 refine hK1 _ ?_
 clear hK1 K1
 refine seqK fun K2 hK2 => ?_
 refine region ?_
 refine s0 assignA rfl ?_
 refine nil ?_
 refine hK2 _ ?_
 clear hK2 K2
 refine AWp.nilTok 3 1 tk1 rfl hpG ?_
 refine seqJH KeepsT.nil (fun (z : (Sl Int)) => [(3, .a (.d (Sl.d 1 (intE .i64) (some tk1) z)))]) (fun z => (H.set tk1 (some (.tok 1 z.l.length)))) (fun z => Z18_j3 z = some r) ?_ ?_
 ·intro K3 hK3
  refine seqK fun K6 hK6 => ?_
  refine region ?_
  refine s0 assignA rfl ?_
  refine nil ?_
  refine hK6 _ ?_
  clear hK6 K6
  refine block ?_
  refine loopH (KeepsT.A (k := 1) KeepsT.nil) (fun (z : Nat × (Sl Int) × Nat) => [(3, .a (.d (Sl.d 1 (intE .i64) (some tk1) z.2.1))), (4, .a (.d (.int .i64 ((z.2.2 : Nat) : Int))))]) (fun z => (H.set tk1 (some (.tok 1 z.2.1.l.length)))) (fun z => z.1) (fun z => Z18_l7 a0 z.1 z.2.1 z.2.2 = some r) ((a0.FWraps.l.length + 1), (Sl.nil : Sl Int), 0) hE Weak.toA ?_
  rintro ⟨n7, s3_8, s4_9⟩ hE K7 hK7
  try dsimp only at hE
  cases n7 with
  | zero => cases hE
  | succ n7 =>
    rw [Z18_l7] at hE
    refine seqK fun K10 hK10 => ?_
    refine seqK fun K11 hK11 => ?_
    refine region ?_
    refine s0 moveA rfl ?_
    refine s0 (fieldVA (TK rfl) rfl rfl (TK rfl) rfl rfl) rfl ?_
    refine s0 (loadV (TK rfl) rfl rfl rfl) rfl ?_
    refine sLen (f := (intE .i64)) (s := a0.FWraps) (TK rfl) rfl rfl rfl rfl fun hL12 => ?_
    refine s0 (binI rfl rfl rfl) rfl ?_
    refine nil ?_
    refine hK11 _ ?_
    clear hK11 K11
    refine condE hE rfl (fun hc13 hE => ?_) (fun hc13 hE => ?_)
    ·try dsimp only at hc13
     have hf13 := of_decide_eq_true hc13
     refine AWp.skip ?_
     refine hK10 _ ?_
     clear hK10 K10
     refine seqJH (KeepsT.A (k := 1) (KeepsT.A (k := 4) KeepsT.nil)) (fun (z : (Sl Int)) => [(3, .a (.d (Sl.d 1 (intE .i64) (some tk1) z)))]) (fun z => (H.set tk1 (some (.tok 1 z.l.length)))) (fun z => Z18_j14 s4_9 ((Z18_l7 a0 n7)) z = some r) ?_ ?_
     ·intro K14 hK14
      refine block ?_
      refine seqK fun K16 hK16 => ?_
      refine region ?_
      refine s0 (fieldVA (TK rfl) rfl rfl (TK rfl) rfl rfl) rfl ?_
      refine s0 (loadV (TK rfl) rfl rfl rfl) rfl ?_
      refine s0 moveA rfl ?_
      obtain ⟨x17, gx17, hE⟩ := bindO_some hE
      refine s0 (idxMn (f := (intE .i64)) (n := s4_9) (TK rfl) rfl (TK rfl) rfl rfl rfl gx17) rfl ?_
      refine s0 (loadV (TK rfl) rfl rfl rfl) rfl ?_
      refine s0 (binI rfl rfl rfl) rfl ?_
      refine nil ?_
      refine hK16 _ ?_
      clear hK16 K16
      refine condE hE rfl (fun hc18 hE => ?_) (fun hc18 hE => ?_)
      ·refine region ?_
       refine s0 moveA rfl ?_
       refine s0 (fieldVA (TK rfl) rfl rfl (TK rfl) rfl rfl) rfl ?_
       refine s0 (loadV (TK rfl) rfl rfl rfl) rfl ?_
       refine s0 moveA rfl ?_
       obtain ⟨x19, gx19, hE⟩ := bindO_some hE
       refine s0 (idxMn (f := (intE .i64)) (n := s4_9) (TK rfl) rfl (TK rfl) rfl rfl rfl gx19) rfl ?_
       refine s0 (loadV (TK rfl) rfl rfl rfl) rfl ?_
       refine s0 (buildSlice (TK rfl) rfl (TK rfl) rfl rfl rfl rfl rfl rfl) rfl ?_
       obtain ⟨x20, gx20, hE⟩ := bindO_some hE
       refine sH (appM (f := (intE .i64)) (TK rfl) rfl (TK rfl) (TK rfl) ⟨_, rfl⟩ rfl rfl (by decide) rfl rfl rfl rfl hpG rfl gx20) rfl ?_
       refine AOps.heq (h' := (H.set tk1 (some (.tok 1 x20.l.length)))) (by first | rfl | (rw [Heap.set_set]; rfl) | (funext n_; simp only [Heap.set]; (repeat' split) <;> first | rfl | (exfalso; simp_all; done) | (simp_all; done))) ?_
       refine s0 assignA rfl ?_
       refine nil ?_
       exact hK14 _ x20 Weak.toA hE
      refine AWp.skip ?_
      exact hK14 _ s3_8 Weak.toA hE
     rintro s3_15 hE
     try dsimp only at hE
     unfold Z18_j14 at hE
     refine region ?_
     refine s0 moveA rfl ?_
     refine s0 (addIA rfl rfl) rfl ?_
     refine s0 assignA rfl ?_
     refine nil ?_
     exact hK7 _ (n7, s3_15, (s4_9 + 1)) Weak.toA hE (Nat.lt_succ_self _)
    refine AWp.exit ?_
    exact hK3 _ s3_8 Weak.toA hE
 rintro s3_4 hE
 try dsimp only at hE
 unfold Z18_j3 at hE
 refine seqK fun K5 hK5 => ?_
 refine region ?_
 refine s0 moveA rfl ?_
 refine s0 assignA rfl ?_
 refine nil ?_
 refine hK5 _ ?_
 clear hK5 K5
 refine AWp.dropTok 2 rfl ?_
 refine AWp.ret ?_
 repeat (first | refine xBlock_ret ?_ | refine xThen_ret ?_)
 obtain rfl := Option.some.inj hE
 refine retQ.retF H rfl ⟨rfl, rfl⟩ ?_
 first | exact Heap.sub_set htk1 | (simp only [Heap.set_set]; exact Heap.sub_set htk1)
def Z16 (a0 : TRef) (a1 : TRef) : Option Bool := guardO (((a0.FName == a1.FName))) (Z18 a0) (Sl.nil : Sl Int) fun x3 => guardO (((a0.FName == a1.FName))) (Z18 a1) (Sl.nil : Sl Int) fun x4 => guardO (((a0.FName == a1.FName))) (Z19 x3 x4) false fun x5 => some (((a0.FName == a1.FName)) && x5)
theorem Z16_walk {a0 : TRef} {a1 : TRef}   {r : Bool} (hE : Z16 a0 a1 = some r) (H : Heap)  : ACalls Tryd.prog 21 [.agg (TRef.c a0), .agg (TRef.c a1)] H fun v h' => v = .a (.d (.bool r)) ∧ h' = H := by
 unfold Z16 at hE
 refine ACalls.of_wp (fn := Tryd.f21) (c := _) Tryd.tab_ok (fun _ _ => Tryd.call21 _ _) Tryd.func21 rfl (n := 17) rfl (rs := [.tmp 4]) rfl rfl ?_
 refine seqK fun K1 hK1 => ?_
 refine region ?_
 refine s0 (boxV rfl) rfl ?_
 refine s0 (boxV rfl) rfl ?_
 refine s0 assignA rfl ?_
 refine nil ?_
 refine hK1 _ ?_
 clear hK1 K1
 refine seqK fun K2 hK2 => ?_
 refine AWp.draw rfl ?_
 refine DOps.s0 (fieldVA (TK rfl) rfl rfl (TK rfl) rfl rfl) rfl ?_
 refine DOps.s0 (loadV (TK rfl) rfl rfl rfl) rfl ?_
 refine DOps.s0 (fieldVA (TK rfl) rfl rfl (TK rfl) rfl rfl) rfl ?_
 refine DOps.s0 (loadV (TK rfl) rfl rfl rfl) rfl ?_
 refine DOps.s0 (binS rfl rfl rfl) rfl ?_
 refine DOps.s0 moveA rfl ?_
 refine DOps.gC rfl rfl (fun hC => loadV (TK rfl) rfl rfl rfl) rfl ?_
 obtain ⟨x3, gx3, hE⟩ := guardO_some hE
 refine DOps.gC rfl rfl (fun hC => ungdA (k := 11) rfl (callP rfl rfl (fun H => Z18_walk (gx3 hC) H))) rfl ?_
 refine DOps.gC rfl rfl (fun hC => loadV (TK rfl) rfl rfl rfl) rfl ?_
 obtain ⟨x4, gx4, hE⟩ := guardO_some hE
 refine DOps.gC rfl rfl (fun hC => ungdA (k := 13) rfl (callP rfl rfl (fun H => Z18_walk (gx4 hC) H))) rfl ?_
 obtain ⟨x5, gx5, hE⟩ := guardO_some hE
 refine DOps.gC rfl rfl (fun hC => ungdA (k := 12) rfl (ungdA (k := 14) rfl (callP rfl rfl (fun H => Z19_walk (gx5 hC) H)))) rfl ?_
 refine DOps.s0 (pickAndA rfl rfl rfl) rfl ?_
 refine DOps.s0 assignA rfl ?_
 refine DOps.nil (by decide +kernel) ?_
 refine hK2 _ ?_
 clear hK2 K2
 refine AWp.ret ?_
 repeat (first | refine xBlock_ret ?_ | refine xThen_ret ?_)
 obtain rfl := Option.some.inj hE
 refine retQ.retF H rfl ⟨rfl, rfl⟩ ?_
 exact (fun _ _ h => h)
def Z13 (a0 : TRef) : Option Bool := guardO ((decide ((0 : Int) < ((a0.FWraps.l.length : Nat) : Int)))) (a0.FWraps.l[0]?) (0 : Int) fun x4 => some ((decide ((0 : Int) < ((a0.FWraps.l.length : Nat) : Int))) && (decide (x4 = (1 : Int))))
theorem Z13_walk {a0 : TRef}   {r : Bool} (hE : Z13 a0 = some r) (H : Heap)  : ACalls Tryd.prog 22 [.agg (TRef.c a0)] H fun v h' => v = .a (.d (.bool r)) ∧ h' = H := by
 unfold Z13 at hE
 refine ACalls.of_wp (fn := Tryd.f22) (c := _) Tryd.tab_ok (fun _ _ => Tryd.call22 _ _) Tryd.func22 rfl (n := 14) rfl (rs := [.tmp 2]) rfl rfl ?_
 refine seqK fun K1 hK1 => ?_
 refine region ?_
 refine s0 (boxV rfl) rfl ?_
 refine s0 assignA rfl ?_
 refine nil ?_
 refine hK1 _ ?_
 clear hK1 K1
 refine seqK fun K2 hK2 => ?_
 refine region ?_
 refine s0 (fieldVA (TK rfl) rfl rfl (TK rfl) rfl rfl) rfl ?_
 refine s0 (loadV (TK rfl) rfl rfl rfl) rfl ?_
 refine sLen (f := (intE .i64)) (s := a0.FWraps) (TK rfl) rfl rfl rfl rfl fun hL3 => ?_
 refine s0 (binI rfl rfl rfl) rfl ?_
 refine s0 moveA rfl ?_
 refine gC rfl rfl (fun hC => fieldVA (TK rfl) rfl rfl (TK rfl) rfl rfl) rfl ?_
 refine gC rfl rfl (fun hC => ungdA (k := 8) rfl (loadV (TK rfl) rfl rfl rfl)) rfl ?_
 obtain ⟨x4, gx4, hE⟩ := guardO_some hE
 refine gC rfl rfl (fun hC => ungdA (k := 9) rfl (idxMn (f := (intE .i64)) (n := 0) (TK rfl) rfl (TK rfl) rfl rfl rfl (gx4 hC))) rfl ?_
 refine gC rfl rfl (fun hC => ungdA (k := 10) rfl (loadV (TK rfl) rfl rfl rfl)) rfl ?_
 refine gC rfl rfl (fun hC => ungdA (k := 11) rfl (binI rfl rfl rfl)) rfl ?_
 refine s0 (pickAndA rfl rfl rfl) rfl ?_
 refine s0 assignA rfl ?_
 refine nil ?_
 refine hK2 _ ?_
 clear hK2 K2
 refine AWp.ret ?_
 repeat (first | refine xBlock_ret ?_ | refine xThen_ret ?_)
 obtain rfl := Option.some.inj hE
 refine retQ.retF H rfl ⟨rfl, rfl⟩ ?_
 exact (fun _ _ h => h)
def Z17 (a0 : TRef) : Option TRef := (partC a0.FWraps (some (1 : Int)) none).bind fun x3 => (appC 8 (⟨false, []⟩ : Sl Int) x3).bind fun x4 => some (TRef.mk a0.FName x4)
theorem Z17_walk {a0 : TRef}   {r : TRef} (hE : Z17 a0 = some r) (H : Heap)  : ACalls Tryd.prog 41 [.agg (TRef.c a0)] H fun v h' => v = .a (.agg (TRef.c r)) ∧ h' = H := by
 unfold Z17 at hE
 refine ACalls.of_wp (fn := Tryd.f41) (c := _) Tryd.tab_ok (fun _ _ => Tryd.call41 _ _) Tryd.func41 rfl (n := 11) rfl (rs := [.cell 2 32]) rfl rfl ?_
 refine seqK fun K1 hK1 => ?_
 refine region ?_
 refine s0 (boxV rfl) rfl ?_
 refine sL (allocLA (TK rfl) rfl) rfl ?_
 refine nil ?_
 refine hK1 _ ?_
 clear hK1 K1
 refine seqK fun K2 hK2 => ?_
 refine AWp.draw rfl ?_
 refine DOps.s0 (fieldVA (TK rfl) rfl rfl (TK rfl) rfl rfl) rfl ?_
 refine DOps.s0 (loadV (TK rfl) rfl rfl rfl) rfl ?_
 refine DOps.s0 (buildSliceF (TK rfl) rfl (TK rfl) rfl rfl rfl rfl rfl rfl) rfl ?_
 refine DOps.s0 (fieldVA (TK rfl) rfl rfl (TK rfl) rfl rfl) rfl ?_
 refine DOps.s0 (loadV (TK rfl) rfl rfl rfl) rfl ?_
 obtain ⟨x3, gx3, hE⟩ := bindO_some hE
 refine DOps.s0 (partM (f := (intE .i64)) (l := (some (1 : Int))) (r := none) (TK rfl) rfl (TK rfl) rfl rfl rfl trivial gx3) rfl ?_
 obtain ⟨x4, gx4, hE⟩ := bindO_some hE
 refine DOps.s0 (appFM (f := (intE .i64)) (TK rfl) rfl (TK rfl) (TK rfl) ⟨_, rfl⟩ rfl rfl (by decide) rfl rfl rfl (by intro q h; cases h <;> decide) rfl rfl gx4) rfl ?_
 refine DOps.s0 (build Tryd.tab_ok rfl rfl rfl rfl rfl rfl) rfl ?_
 refine DOps.sLn (storeLFA (TK rfl) rfl rfl rfl rfl rfl) ?_
 refine DOps.nil (by decide +kernel) ?_
 refine hK2 _ ?_
 clear hK2 K2
 refine AWp.ret ?_
 repeat (first | refine xBlock_ret ?_ | refine xThen_ret ?_)
 obtain rfl := Option.some.inj hE
 refine retQ.retF H rfl ⟨rfl, rfl⟩ ?_
 exact (fun _ _ h => h)
def Z14 (a0 : TRef) : Option TRef := (Z13 a0).bind fun x4 => bif x4 then ((Z17 a0).bind fun x7 => some x7) else ((appC 8 (⟨false, []⟩ : Sl Int) a0.FWraps).bind fun x9 => some (TRef.mk a0.FName x9))
theorem Z14_walk {a0 : TRef}   {r : TRef} (hE : Z14 a0 = some r) (H : Heap)  : ACalls Tryd.prog 42 [.agg (TRef.c a0)] H fun v h' => v = .a (.agg (TRef.c r)) ∧ h' = H := by
 unfold Z14 at hE
 refine ACalls.of_wp (fn := Tryd.f42) (c := _) Tryd.tab_ok (fun _ _ => Tryd.call42 _ _) Tryd.func42 rfl (n := 14) rfl (rs := [.cell 2 32]) rfl rfl ?_
 refine seqK fun K1 hK1 => ?_
 refine region ?_
 refine s0 (boxV rfl) rfl ?_
 refine sL (allocLA (TK rfl) rfl) rfl ?_
 refine nil ?_
 refine hK1 _ ?_
 clear hK1 K1
 refine seqK fun K2 hK2 => ?_
 refine seqK fun K3 hK3 => ?_
 refine region ?_
 refine s0 (loadV (TK rfl) rfl rfl rfl) rfl ?_
 obtain ⟨x4, gx4, hE⟩ := bindO_some hE
 refine s0 (callP rfl rfl (fun H => Z13_walk gx4 H)) rfl ?_
 refine nil ?_
 refine hK3 _ ?_
 clear hK3 K3
 refine condE hE rfl (fun hc5 hE => ?_) (fun hc5 hE => ?_)
 ·refine seqK fun K6 hK6 => ?_
  refine region ?_
  refine s0 (loadV (TK rfl) rfl rfl rfl) rfl ?_
  obtain ⟨x7, gx7, hE⟩ := bindO_some hE
  refine s0 (callP rfl rfl (fun H => Z17_walk gx7 H)) rfl ?_
  refine sLn (storeLFA (TK rfl) rfl rfl rfl rfl rfl) ?_
  refine nil ?_
  refine hK6 _ ?_
  clear hK6 K6
  refine AWp.ret ?_
  repeat (first | refine xBlock_ret ?_ | refine xThen_ret ?_)
  obtain rfl := Option.some.inj hE
  refine retQ.retF H rfl ⟨rfl, rfl⟩ ?_
  exact (fun _ _ h => h)
 refine AWp.skip ?_
 refine hK2 _ ?_
 clear hK2 K2
 refine seqK fun K8 hK8 => ?_
 refine AWp.draw rfl ?_
 refine DOps.s0 (fieldVA (TK rfl) rfl rfl (TK rfl) rfl rfl) rfl ?_
 refine DOps.s0 (loadV (TK rfl) rfl rfl rfl) rfl ?_
 refine DOps.s0 (buildSliceF (TK rfl) rfl (TK rfl) rfl rfl rfl rfl rfl rfl) rfl ?_
 refine DOps.s0 (fieldVA (TK rfl) rfl rfl (TK rfl) rfl rfl) rfl ?_
 refine DOps.s0 (loadV (TK rfl) rfl rfl rfl) rfl ?_
 obtain ⟨x9, gx9, hE⟩ := bindO_some hE
 refine DOps.s0 (appFM (f := (intE .i64)) (TK rfl) rfl (TK rfl) (TK rfl) ⟨_, rfl⟩ rfl rfl (by decide) rfl rfl rfl (by intro q h; cases h <;> decide) rfl rfl gx9) rfl ?_
 refine DOps.s0 (build Tryd.tab_ok rfl rfl rfl rfl rfl rfl) rfl ?_
 refine DOps.sLn (storeLFA (TK rfl) rfl rfl rfl rfl rfl) ?_
 refine DOps.nil (by decide +kernel) ?_
 refine hK8 _ ?_
 clear hK8 K8
 refine AWp.ret ?_
 repeat (first | refine xBlock_ret ?_ | refine xThen_ret ?_)
 obtain rfl := Option.some.inj hE
 refine retQ.retF H rfl ⟨rfl, rfl⟩ ?_
 exact (fun _ _ h => h)
def Z12 (a0 : TRef) : Option Bool := (Z14 a0).bind fun x3 => guardO ((decide ((0 : Int) < ((x3.FWraps.l.length : Nat) : Int)))) (x3.FWraps.l[0]?) (0 : Int) fun x6 => some ((decide ((0 : Int) < ((x3.FWraps.l.length : Nat) : Int))) && (decide (x6 = (2 : Int))))
theorem Z12_walk {a0 : TRef}   {r : Bool} (hE : Z12 a0 = some r) (H : Heap)  : ACalls Tryd.prog 40 [.agg (TRef.c a0)] H fun v h' => v = .a (.d (.bool r)) ∧ h' = H := by
 unfold Z12 at hE
 refine ACalls.of_wp (fn := Tryd.f40) (c := _) Tryd.tab_ok (fun _ _ => Tryd.call40 _ _) Tryd.func40 rfl (n := 17) rfl (rs := [.tmp 2]) rfl rfl ?_
 refine seqK fun K1 hK1 => ?_
 refine region ?_
 refine s0 (boxV rfl) rfl ?_
 refine s0 assignA rfl ?_
 refine nil ?_
 refine hK1 _ ?_
 clear hK1 K1
 refine seqK fun K2 hK2 => ?_
 refine region ?_
 refine s0 (loadV (TK rfl) rfl rfl rfl) rfl ?_
 obtain ⟨x3, gx3, hE⟩ := bindO_some hE
 refine s0 (callP rfl rfl (fun H => Z14_walk gx3 H)) rfl ?_
 refine sL (allocLA (TK rfl) rfl) rfl ?_
 refine sLn (storeLFA (TK rfl) rfl rfl rfl rfl rfl) ?_
 refine nil ?_
 refine hK2 _ ?_
 clear hK2 K2
 refine freezeA 3 _ rfl Keeps.nil ?_
 refine seqK fun K4 hK4 => ?_
 refine region ?_
 refine s0 (fieldVA (TK rfl) rfl rfl (TK rfl) rfl rfl) rfl ?_
 refine s0 (loadV (TK rfl) rfl rfl rfl) rfl ?_
 refine sLen (f := (intE .i64)) (s := x3.FWraps) (TK rfl) rfl rfl rfl rfl fun hL5 => ?_
 refine s0 (binI rfl rfl rfl) rfl ?_
 refine s0 moveA rfl ?_
 refine gC rfl rfl (fun hC => fieldVA (TK rfl) rfl rfl (TK rfl) rfl rfl) rfl ?_
 refine gC rfl rfl (fun hC => ungdA (k := 11) rfl (loadV (TK rfl) rfl rfl rfl)) rfl ?_
 obtain ⟨x6, gx6, hE⟩ := guardO_some hE
 refine gC rfl rfl (fun hC => ungdA (k := 12) rfl (idxMn (f := (intE .i64)) (n := 0) (TK rfl) rfl (TK rfl) rfl rfl rfl (gx6 hC))) rfl ?_
 refine gC rfl rfl (fun hC => ungdA (k := 13) rfl (loadV (TK rfl) rfl rfl rfl)) rfl ?_
 refine gC rfl rfl (fun hC => ungdA (k := 14) rfl (binI rfl rfl rfl)) rfl ?_
 refine s0 (pickAndA rfl rfl rfl) rfl ?_
 refine s0 assignA rfl ?_
 refine nil ?_
 refine hK4 _ ?_
 clear hK4 K4
 refine AWp.ret ?_
 repeat (first | refine xBlock_ret ?_ | refine xThen_ret ?_)
 obtain rfl := Option.some.inj hE
 refine retQ.retF H rfl ⟨rfl, rfl⟩ ?_
 exact (fun _ _ h => h)
def Z11 (a0 : TRef) : Option (TRef × Bool) := (Z12 a0).bind fun x4 => bif (!x4) then (some ((TRef.mk ([] : Bs) (Sl.nil : Sl Int)), false)) else ((Z14 a0).bind fun x8 => (Z17 x8).bind fun x9 => some (x9, true))
theorem Z11_walk {a0 : TRef}   {r : (TRef × Bool)} (hE : Z11 a0 = some r) (H : Heap)  : ACalls Tryd.prog 23 [.agg (TRef.c a0)] H fun v h' => v = .tup [.agg (TRef.c r.1), .d (.bool r.2)] ∧ h' = H := by
 unfold Z11 at hE
 refine ACalls.of_wp (fn := Tryd.f23) (c := _) Tryd.tab_ok (fun _ _ => Tryd.call23 _ _) Tryd.func23 rfl (n := 11) rfl (rs := [.cell 2 32, .tmp 3]) rfl rfl ?_
 refine seqK fun K1 hK1 => ?_
 refine region ?_
 refine s0 (boxV rfl) rfl ?_
 refine sL (allocLA (TK rfl) rfl) rfl ?_
 refine s0 assignA rfl ?_
 refine nil ?_
 refine hK1 _ ?_
 clear hK1 K1
 refine seqK fun K2 hK2 => ?_
 refine seqK fun K3 hK3 => ?_
 refine region ?_
 refine s0 (loadV (TK rfl) rfl rfl rfl) rfl ?_
 obtain ⟨x4, gx4, hE⟩ := bindO_some hE
 refine s0 (callP rfl rfl (fun H => Z12_walk gx4 H)) rfl ?_
 refine s0 (notB rfl) rfl ?_
 refine nil ?_
 refine hK3 _ ?_
 clear hK3 K3
 refine condE hE rfl (fun hc5 hE => ?_) (fun hc5 hE => ?_)
 ·refine seqK fun K6 hK6 => ?_
  refine region ?_
  refine s0 (build Tryd.tab_ok rfl rfl rfl rfl rfl rfl) rfl ?_
  refine sLn (storeLFA (TK rfl) rfl rfl rfl rfl rfl) ?_
  refine s0 assignA rfl ?_
  refine nil ?_
  refine hK6 _ ?_
  clear hK6 K6
  refine AWp.ret ?_
  repeat (first | refine xBlock_ret ?_ | refine xThen_ret ?_)
  obtain rfl := Option.some.inj hE
  refine retQ.retF H rfl ⟨rfl, rfl⟩ ?_
  exact (fun _ _ h => h)
 refine AWp.skip ?_
 refine hK2 _ ?_
 clear hK2 K2
 refine seqK fun K7 hK7 => ?_
 refine region ?_
 refine s0 (loadV (TK rfl) rfl rfl rfl) rfl ?_
 obtain ⟨x8, gx8, hE⟩ := bindO_some hE
 refine s0 (callP rfl rfl (fun H => Z14_walk gx8 H)) rfl ?_
 obtain ⟨x9, gx9, hE⟩ := bindO_some hE
 refine s0 (callP rfl rfl (fun H => Z17_walk gx9 H)) rfl ?_
 refine sLn (storeLFA (TK rfl) rfl rfl rfl rfl rfl) ?_
 refine s0 assignA rfl ?_
 refine nil ?_
 refine hK7 _ ?_
 clear hK7 K7
 refine AWp.ret ?_
 repeat (first | refine xBlock_ret ?_ | refine xThen_ret ?_)
 obtain rfl := Option.some.inj hE
 refine retQ.retF H rfl ⟨rfl, rfl⟩ ?_
 exact (fun _ _ h => h)
end Go.Proofs

namespace Go.Proofs
open Go Go.Ab
open AOps Cert AWp
def Z10_n : Nat → TRef → TRef → Option Bool
 | 0, _, _ => none
 | n + 1, a0, a1 => (Z16 a0 a1).bind fun x4 => guardO (!(!x4)) (Z13 a1) false fun x5 => guardO ((!(!x4) && x5)) (Z13 a0) false fun x6 => bif ((!x4) || (x5 && (!x6))) then (some false) else ((Z11 a0).bind fun x10 => (Z11 a1).bind fun x12 => guardO (!((!x10.2) || (!x12.2))) ((Z10_n n) x10.1 x12.1) false fun x14 => some (((!x10.2) || (!x12.2)) || x14))
theorem Z10_step (n : Nat) (ih_11 : ∀ {a0 : TRef} {a1 : TRef}   {r : Bool}, Z10_n n a0 a1 = some r → ∀ (H : Heap), ACalls Tryd.prog 11 [.agg (TRef.c a0), .agg (TRef.c a1)] H fun v h' => v = .a (.d (.bool r)) ∧ h' = H) : ∀ {a0 : TRef} {a1 : TRef}   {r : Bool}, Z10_n (n + 1) a0 a1 = some r → ∀ (H : Heap), ACalls Tryd.prog 11 [.agg (TRef.c a0), .agg (TRef.c a1)] H fun v h' => v = .a (.d (.bool r)) ∧ h' = H := by
 intro a0 a1   r hE H 
 rw [Z10_n] at hE
 refine ACalls.of_wp (fn := Tryd.f11) (c := _) Tryd.tab_ok (fun _ _ => Tryd.call11 _ _) Tryd.func11 rfl (n := 43) rfl (rs := [.tmp 4]) rfl rfl ?_
 refine seqK fun K1 hK1 => ?_
 refine region ?_
 refine s0 (boxV rfl) rfl ?_
 refine s0 (boxV rfl) rfl ?_
 refine s0 assignA rfl ?_
 refine nil ?_
 refine hK1 _ ?_
 clear hK1 K1
 refine seqK fun K2 hK2 => ?_
 refine seqK fun K3 hK3 => ?_
 refine region ?_
 refine s0 (loadV (TK rfl) rfl rfl rfl) rfl ?_
 refine s0 (loadV (TK rfl) rfl rfl rfl) rfl ?_
 obtain ⟨x4, gx4, hE⟩ := bindO_some hE
 refine s0 (callP rfl rfl (fun H => Z16_walk gx4 H)) rfl ?_
 refine s0 (notB rfl) rfl ?_
 refine s0 moveA rfl ?_
 refine gC rfl rfl (fun hC => loadV (TK rfl) rfl rfl rfl) rfl ?_
 obtain ⟨x5, gx5, hE⟩ := guardO_some hE
 refine gC rfl rfl (fun hC => ungdA (k := 14) rfl (callP rfl rfl (fun H => Z13_walk (gx5 hC) H))) rfl ?_
 refine gC rfl rfl (fun hC => ungdA (k := 15) rfl moveA) rfl ?_
 refine gC rfl rfl (fun hC => loadV (TK rfl) rfl rfl rfl) rfl ?_
 obtain ⟨x6, gx6, hE⟩ := guardO_some hE
 refine gC rfl rfl (fun hC => ungdA (k := 17) rfl (callP rfl rfl (fun H => Z13_walk (gx6 hC) H))) rfl ?_
 refine gC rfl rfl (fun hC => ungdA (k := 18) rfl (notB rfl)) rfl ?_
 refine gC rfl rfl (fun hC => ungdA (k := 16) rfl (pickAndA rfl rfl rfl)) rfl ?_
 refine s0 (pickOrA rfl rfl rfl) rfl ?_
 refine nil ?_
 refine hK3 _ ?_
 clear hK3 K3
 refine condE hE rfl (fun hc7 hE => ?_) (fun hc7 hE => ?_)
 ·refine seqK fun K8 hK8 => ?_
  refine region ?_
  refine s0 assignA rfl ?_
  refine nil ?_
  refine hK8 _ ?_
  clear hK8 K8
  refine AWp.ret ?_
  repeat (first | refine xBlock_ret ?_ | refine xThen_ret ?_)
  obtain rfl := Option.some.inj hE
  refine retQ.retF H rfl ⟨rfl, rfl⟩ ?_
  exact (fun _ _ h => h)
 refine AWp.skip ?_
 refine hK2 _ ?_
 clear hK2 K2
 refine seqK fun K9 hK9 => ?_
 refine region ?_
 refine s0 (loadV (TK rfl) rfl rfl rfl) rfl ?_
 obtain ⟨x10, gx10, hE⟩ := bindO_some hE
 refine s0 (callP rfl rfl (fun H => Z11_walk gx10 H)) rfl ?_
 refine s0 moveA rfl ?_
 refine s0 (extract rfl rfl) rfl ?_
 refine s0 (extract rfl rfl) rfl ?_
 refine sL (allocLA (TK rfl) rfl) rfl ?_
 refine sLn (storeLFA (TK rfl) rfl rfl rfl rfl rfl) ?_
 refine s0 assignA rfl ?_
 refine nil ?_
 refine hK9 _ ?_
 clear hK9 K9
 refine freezeA 5 _ rfl (Keeps.c (k := 3) (by conv => lhs; whnf) (by rfl) (Keeps.c (k := 6) (by conv => lhs; whnf) (by rfl) Keeps.nil)) ?_
 refine seqK fun K11 hK11 => ?_
 refine region ?_
 refine s0 (loadV (TK rfl) rfl rfl rfl) rfl ?_
 obtain ⟨x12, gx12, hE⟩ := bindO_some hE
 refine s0 (callP rfl rfl (fun H => Z11_walk gx12 H)) rfl ?_
 refine s0 moveA rfl ?_
 refine s0 (extract rfl rfl) rfl ?_
 refine s0 (extract rfl rfl) rfl ?_
 refine sL (allocLA (TK rfl) rfl) rfl ?_
 refine sLn (storeLFA (TK rfl) rfl rfl rfl rfl rfl) ?_
 refine s0 assignA rfl ?_
 refine nil ?_
 refine hK11 _ ?_
 clear hK11 K11
 refine freezeA 7 _ rfl (Keeps.c (k := 5) (by conv => lhs; whnf) (by rfl) (Keeps.c (k := 6) (by conv => lhs; whnf) (by rfl) (Keeps.c (k := 8) (by conv => lhs; whnf) (by rfl) Keeps.nil))) ?_
 refine seqK fun K13 hK13 => ?_
 refine region ?_
 refine s0 moveA rfl ?_
 refine s0 (notB rfl) rfl ?_
 refine s0 moveA rfl ?_
 refine gC rfl rfl (fun hC => moveA) rfl ?_
 refine gC rfl rfl (fun hC => ungdA (k := 35) rfl (notB rfl)) rfl ?_
 refine s0 (pickOrA rfl rfl rfl) rfl ?_
 refine s0 moveA rfl ?_
 refine gC rfl rfl (fun hC => loadV (TK rfl) rfl rfl rfl) rfl ?_
 refine gC rfl rfl (fun hC => loadV (TK rfl) rfl rfl rfl) rfl ?_
 obtain ⟨x14, gx14, hE⟩ := guardO_some hE
 refine gC rfl rfl (fun hC => ungdA (k := 39) rfl (ungdA (k := 40) rfl (callP rfl rfl (fun H => ih_11 (gx14 hC) H)))) rfl ?_
 refine s0 (pickOrA rfl rfl rfl) rfl ?_
 refine s0 assignA rfl ?_
 refine nil ?_
 refine hK13 _ ?_
 clear hK13 K13
 refine AWp.ret ?_
 repeat (first | refine xBlock_ret ?_ | refine xThen_ret ?_)
 obtain rfl := Option.some.inj hE
 refine retQ.retF H rfl ⟨rfl, rfl⟩ ?_
 exact (fun _ _ h => h)
theorem Z10_all : ∀ (n : Nat), (∀ {a0 : TRef} {a1 : TRef}   {r : Bool}, Z10_n n a0 a1 = some r → ∀ (H : Heap), ACalls Tryd.prog 11 [.agg (TRef.c a0), .agg (TRef.c a1)] H fun v h' => v = .a (.d (.bool r)) ∧ h' = H)
 | 0 => fun hE => by first | cases hE | (rw [Z10_n] at hE; cases hE)
 | n + 1 => Z10_step n (Z10_all n)
def Z10 (a0 : TRef) (a1 : TRef) : Option Bool := Z10_n F0 a0 a1
theorem Z10_walk {a0 : TRef} {a1 : TRef}   {r : Bool} (hE : Z10 a0 a1 = some r) (H : Heap)  : ACalls Tryd.prog 11 [.agg (TRef.c a0), .agg (TRef.c a1)] H fun v h' => v = .a (.d (.bool r)) ∧ h' = H := (Z10_all F0) hE H 
def Z5 (a0 : TVar) (a1 : TRef) (a2 : Bool) : Option Bool := (Z15 a0.FType).bind fun x4 => guardO (!(!x4)) (Z15 a1) false fun x5 => bif ((!x4) || (!x5)) then ((Z6 ).bind fun x8 => some x8) else ((Z50 (TDoc.mk (Sl.nil : Sl TDef)) a0 a1 a2).bind fun x10 => (Z10 a0.FType a1).bind fun x11 => guardO (((x10 == x11))) (Z50 (TDoc.mk (Sl.nil : Sl TDef)) a0 a0.FType a2) false fun x12 => guardO ((((x10 == x11)) && x12)) (Z6 ) false fun x13 => some ((((x10 == x11)) && x12) && x13))
theorem Z5_walk {a0 : TVar} {a1 : TRef} {a2 : Bool}   {r : Bool} (hE : Z5 a0 a1 a2 = some r) (H : Heap)  : ACalls Tryd.prog 4 [.agg (TVar.c a0), .agg (TRef.c a1), .d (.bool a2)] H fun v h' => v = .a (.d (.bool r)) ∧ h' = H := by
 unfold Z5 at hE
 refine ACalls.of_wp (fn := Tryd.f4) (c := _) Tryd.tab_ok (fun _ _ => Tryd.call4 _ _) Tryd.func4 rfl (n := 38) rfl (rs := [.tmp 6]) rfl rfl ?_
 refine seqK fun K1 hK1 => ?_
 refine region ?_
 refine s0 (boxV rfl) rfl ?_
 refine s0 (boxV rfl) rfl ?_
 refine s0 assignA rfl ?_
 refine nil ?_
 refine hK1 _ ?_
 clear hK1 K1
 refine seqK fun K2 hK2 => ?_
 refine seqK fun K3 hK3 => ?_
 refine region ?_
 refine s0 (fieldVA (TK rfl) rfl rfl (TK rfl) rfl rfl) rfl ?_
 refine s0 (loadV (TK rfl) rfl rfl rfl) rfl ?_
 obtain ⟨x4, gx4, hE⟩ := bindO_some hE
 refine s0 (callP rfl rfl (fun H => Z15_walk gx4 H)) rfl ?_
 refine s0 (notB rfl) rfl ?_
 refine s0 moveA rfl ?_
 refine gC rfl rfl (fun hC => loadV (TK rfl) rfl rfl rfl) rfl ?_
 obtain ⟨x5, gx5, hE⟩ := guardO_some hE
 refine gC rfl rfl (fun hC => ungdA (k := 12) rfl (callP rfl rfl (fun H => Z15_walk (gx5 hC) H))) rfl ?_
 refine gC rfl rfl (fun hC => ungdA (k := 13) rfl (notB rfl)) rfl ?_
 refine s0 (pickOrA rfl rfl rfl) rfl ?_
 refine nil ?_
 refine hK3 _ ?_
 clear hK3 K3
 refine condE hE rfl (fun hc6 hE => ?_) (fun hc6 hE => ?_)
 ·refine seqK fun K7 hK7 => ?_
  refine region ?_
  obtain ⟨x8, gx8, hE⟩ := bindO_some hE
  refine s0 (callP rfl rfl (fun H => Z6_walk gx8 H)) rfl ?_
  refine s0 assignA rfl ?_
  refine nil ?_
  refine hK7 _ ?_
  clear hK7 K7
  refine AWp.ret ?_
  repeat (first | refine xBlock_ret ?_ | refine xThen_ret ?_)
  obtain rfl := Option.some.inj hE
  refine retQ.retF H rfl ⟨rfl, rfl⟩ ?_
  exact (fun _ _ h => h)
 refine AWp.skip ?_
 refine hK2 _ ?_
 clear hK2 K2
 refine seqK fun K9 hK9 => ?_
 refine AWp.draw rfl ?_
 refine DOps.s0 (build Tryd.tab_ok rfl rfl rfl rfl rfl rfl) rfl ?_
 refine DOps.s0 (loadV (TK rfl) rfl rfl rfl) rfl ?_
 refine DOps.s0 (loadV (TK rfl) rfl rfl rfl) rfl ?_
 refine DOps.s0 moveA rfl ?_
 obtain ⟨x10, gx10, hE⟩ := bindO_some hE
 refine DOps.s0 (callP rfl rfl (fun H => Z50_walk gx10 H)) rfl ?_
 refine DOps.s0 (fieldVA (TK rfl) rfl rfl (TK rfl) rfl rfl) rfl ?_
 refine DOps.s0 (loadV (TK rfl) rfl rfl rfl) rfl ?_
 refine DOps.s0 (loadV (TK rfl) rfl rfl rfl) rfl ?_
 obtain ⟨x11, gx11, hE⟩ := bindO_some hE
 refine DOps.s0 (callP rfl rfl (fun H => Z10_walk gx11 H)) rfl ?_
 refine DOps.s0 (eqB (TK rfl) rfl rfl rfl) rfl ?_
 refine DOps.s0 moveA rfl ?_
 refine DOps.gC rfl rfl (fun hC => build Tryd.tab_ok rfl rfl rfl rfl rfl rfl) rfl ?_
 refine DOps.gC rfl rfl (fun hC => loadV (TK rfl) rfl rfl rfl) rfl ?_
 refine DOps.gC rfl rfl (fun hC => fieldVA (TK rfl) rfl rfl (TK rfl) rfl rfl) rfl ?_
 refine DOps.gC rfl rfl (fun hC => ungdA (k := 30) rfl (loadV (TK rfl) rfl rfl rfl)) rfl ?_
 refine DOps.gC rfl rfl (fun hC => moveA) rfl ?_
 obtain ⟨x12, gx12, hE⟩ := guardO_some hE
 refine DOps.gC rfl rfl (fun hC => ungdA (k := 28) rfl (ungdA (k := 29) rfl (ungdA (k := 31) rfl (ungdA (k := 32) rfl (callP rfl rfl (fun H => Z50_walk (gx12 hC) H)))))) rfl ?_
 refine DOps.s0 (pickAndA rfl rfl rfl) rfl ?_
 refine DOps.s0 moveA rfl ?_
 obtain ⟨x13, gx13, hE⟩ := guardO_some hE
 refine DOps.gC rfl rfl (fun hC => callP rfl rfl (fun H => Z6_walk (gx13 hC) H)) rfl ?_
 refine DOps.s0 (pickAndA rfl rfl rfl) rfl ?_
 refine DOps.s0 assignA rfl ?_
 refine DOps.nil (by decide +kernel) ?_
 refine hK9 _ ?_
 clear hK9 K9
 refine AWp.ret ?_
 repeat (first | refine xBlock_ret ?_ | refine xThen_ret ?_)
 obtain rfl := Option.some.inj hE
 refine retQ.retF H rfl ⟨rfl, rfl⟩ ?_
 exact (fun _ _ h => h)
end Go.Proofs

namespace Go.Proofs
open Go Go.Ab
def Z34_q12 (a1 : (Sl Int)) : List Int → Nat → Option (Unit ⊕ Bool)
 | [], s13_13 => some (Sum.inl ())
 | h12 :: r12, s13_13 => on (h12) fun x20 => (a1.l[s13_13]?).bind fun x21 => bif (!decide (x20 = x21)) then (some (Sum.inr false)) else (Z34_q12 a1 (r12) (s13_13 + 1) )
theorem Z34_l12_qe {a0 : (Sl Int)} {a1 : (Sl Int)}  (Kb12 : (Unit ⊕ Bool) → Option Bool) (hend : ∀ (n12 : Nat) (s13_13 : Nat), Z34_j8    = Kb12 (Sum.inl ())) (hret : ∀ e : Bool, some e = Kb12 (Sum.inr e)) : ∀ (n12 : Nat) (s13_13 : Nat), (0 < n12 ∧ a0.l.length < s13_13 + n12) → Z34_l12 a0 a1 n12 s13_13 = Option.bind (Z34_q12 a1 (a0.l.drop s13_13) s13_13 ) Kb12 := by
 intro n12
 induction n12 with
 | zero => intro s13_13 hn; exact absurd hn.1 (by omega)
 | succ n12 ih12 =>
  intro s13_13 hn
  rw [Z34_l12]
  by_cases hlt : s13_13 < a0.l.length
  ·obtain ⟨h12, hh12⟩ : ∃ x, a0.l[s13_13]? = some x := ⟨_, List.getElem?_eq_getElem hlt⟩
   rw [Q.drop_of hh12, Z34_q12]
   refine Q.condT (Q.ltT hlt) ?_
   refine Q.bindPO hh12 fun x20 hx_x20 => ?_
   refine Q.bindO rfl fun x21 => ?_
   refine Q.condO ?_ ?_
   ·all_goals exact hret _
   all_goals exact ih12 _ ⟨by omega, by omega⟩
  rw [List.drop_of_length_le (by omega), Z34_q12]
  refine Q.condF (Q.ltF hlt) ?_
  exact hend n12 s13_13
def Z34_q (a0 : (Sl Int)) (a1 : (Sl Int)) : Option Bool := bif (!decide (((a0.l.length : Nat) : Int) = ((a1.l.length : Nat) : Int))) then (some false) else (Option.bind (Z34_q12 a1 a0.l 0 ) fun o12 => match o12 with | Sum.inl _ => (on (()) fun _ => some true) | Sum.inr e12 => (some e12))
theorem Z34_eq (a0 : (Sl Int)) (a1 : (Sl Int)) : Z34 a0 a1 = Z34_q a0 a1 := by
 unfold Z34 Z34_q
 refine Eq.trans ?_ (Q.some_bind _)
 refine Q.condO ?_ ?_
 ·all_goals rfl
 refine Q.wrapOO fun Kb12 hKb12 => ?_
 refine Z34_l12_qe  Kb12 ?_ ?_ _ _ ⟨Nat.succ_pos _, by omega⟩
 ·intro n12 s13_13
  refine Eq.trans ?_ (hKb12 _).symm
  try dsimp only
  refine Q.wrapPO fun Kj8 hKj8 => ?_
  have hj8 : Z34_j8   = Kj8 () := by
   refine Eq.trans ?_ (hKj8 _).symm
   unfold Z34_j8
   all_goals rfl
  all_goals exact hj8
 intro e12
 refine Eq.trans ?_ (hKb12 _).symm
 try dsimp only
 all_goals rfl
def Z30_q (a0 : (Sl Int)) : Option (Sl Int) := bif a0.nl then (some (Sl.nil : Sl Int)) else ((appC 8 (⟨false, []⟩ : Sl Int) a0).bind fun x7 => some x7)
theorem Z30_eq (a0 : (Sl Int)) : Z30 a0 = Z30_q a0 := by
 unfold Z30 Z30_q
 refine Eq.trans ?_ (Q.some_bind _)
 refine Q.condO ?_ ?_
 ·all_goals rfl
 refine Q.bindO rfl fun x7 => ?_
 all_goals rfl
def Z47_q (a0 : (Sl Int)) : Option (Sl Int) := (Z30_q a0).bind fun x3 => (some (delL Z48 x3)).bind fun x4 => some x4
theorem Z47_eq (a0 : (Sl Int)) : Z47 a0 = Z47_q a0 := by
 unfold Z47 Z47_q
 refine Eq.trans ?_ (Q.some_bind _)
 refine Q.bindO (Z30_eq _) fun x3 => ?_
 refine Q.bindO rfl fun x4 => ?_
 all_goals rfl
def Z45_q (a0 : TRef) (a1 : TRef) : Option Bool := guardO (((a0.FName == a1.FName))) (Z47_q a0.FWraps) (Sl.nil : Sl Int) fun x3 => guardO (((a0.FName == a1.FName))) (Z47_q a1.FWraps) (Sl.nil : Sl Int) fun x4 => guardO (((a0.FName == a1.FName))) (Z34_q x3 x4) false fun x5 => some (((a0.FName == a1.FName)) && x5)
theorem Z45_eq (a0 : TRef) (a1 : TRef) : Z45 a0 a1 = Z45_q a0 a1 := by
 unfold Z45 Z45_q
 refine Eq.trans ?_ (Q.some_bind _)
 refine Q.guardOO (Z47_eq _) fun x3 => ?_
 refine Q.guardOO (Z47_eq _) fun x4 => ?_
 refine Q.guardOO (Z34_eq _ _) fun x5 => ?_
 all_goals rfl
def Z40_q (a0 : TRef) : Bool := on (bif (decide ((0 : Int) < ((a0.FWraps.l.length : Nat) : Int))) then ((a0.FWraps.l)[0]?.getD (0 : Int)) else (0 : Int)) fun x4 => ((decide ((0 : Int) < ((a0.FWraps.l.length : Nat) : Int))) && (decide (x4 = (1 : Int))))
theorem Z40_eq (a0 : TRef) : Z40 a0 = some (Z40_q a0) := by
 unfold Z40 Z40_q
 refine Q.guardT (fun hc => Q.getD_some (by simp at hc; omega)) fun x4 hx_x4 => ?_
 all_goals rfl
def Z43_q (a0 : TRef) : Option TRef := on (Z40_q a0) fun x8 => Option.bind (bif x8 then ((partC a0.FWraps (some (1 : Int)) none).bind fun x10 => some x10) else (some a0.FWraps)) fun s3_4 => (Z30_q s3_4).bind fun x6 => some (TRef.mk a0.FName x6)
theorem Z43_eq (a0 : TRef) : Z43 a0 = Z43_q a0 := by
 unfold Z43 Z43_q
 refine Eq.trans ?_ (Q.some_bind _)
 refine Q.bindPO (Z40_eq _) fun x8 hx_x8 => ?_
 refine Q.wrapOO fun Kj3 hKj3 => ?_
 have hj3 : ∀ (s3_4 : (Sl Int)), Z43_j3 a0 s3_4 = Kj3 s3_4 := by
  intro s3_4
  refine Eq.trans ?_ (hKj3 _).symm
  unfold Z43_j3
  refine Q.bindO (Z30_eq _) fun x6 => ?_
  all_goals rfl
 refine Q.condO ?_ ?_
 ·refine Q.bindO rfl fun x10 => ?_
  all_goals exact hj3 _
 all_goals exact hj3 _
def Z39_q (a0 : TRef) : Option Bool := (Z43_q a0).bind fun x3 => on (bif (decide ((0 : Int) < ((x3.FWraps.l.length : Nat) : Int))) then ((x3.FWraps.l)[0]?.getD (0 : Int)) else (0 : Int)) fun x6 => some ((decide ((0 : Int) < ((x3.FWraps.l.length : Nat) : Int))) && (decide (x6 = (2 : Int))))
theorem Z39_eq (a0 : TRef) : Z39 a0 = Z39_q a0 := by
 unfold Z39 Z39_q
 refine Eq.trans ?_ (Q.some_bind _)
 refine Q.bindO (Z43_eq _) fun x3 => ?_
 refine Q.guardTO (fun hc => Q.getD_some (by simp at hc; omega)) fun x6 hx_x6 => ?_
 all_goals rfl
def Z38_q (a0 : TRef) : Option (TRef × Bool) := (Z39_q a0).bind fun x4 => bif (!x4) then (some ((TRef.mk ([] : Bs) (Sl.nil : Sl Int)), false)) else ((Z43_q a0).bind fun x8 => (partC x8.FWraps (some (1 : Int)) none).bind fun x10 => some ((TRef.mk x8.FName x10), true))
theorem Z38_eq (a0 : TRef) : Z38 a0 = Z38_q a0 := by
 unfold Z38 Z38_q
 refine Eq.trans ?_ (Q.some_bind _)
 refine Q.bindO (Z39_eq _) fun x4 => ?_
 refine Q.condO ?_ ?_
 ·all_goals rfl
 refine Q.bindO (Z43_eq _) fun x8 => ?_
 refine Q.bindO rfl fun x10 => ?_
 all_goals rfl
def Z46_q (a0 : TRef) (a1 : TRef) : Option (TRef × Bool) := Z46 a0 a1
theorem Z46_eq (a0 : TRef) (a1 : TRef) : Z46 a0 a1 = Z46_q a0 a1 := rfl
def Z44_q (a0 : TRef) (a1 : TRef) : Option Bool := guardO (((a0.FName == a1.FName))) (Z34_q a0.FWraps a1.FWraps) false fun x3 => some (((a0.FName == a1.FName)) && x3)
theorem Z44_eq (a0 : TRef) (a1 : TRef) : Z44 a0 a1 = Z44_q a0 a1 := by
 unfold Z44 Z44_q
 refine Eq.trans ?_ (Q.some_bind _)
 refine Q.guardOO (Z34_eq _ _) fun x3 => ?_
 all_goals rfl
def Z37_q (a0 : TRef) (a1 : TRef) : Option Bool := (Z46_q a0 a1).bind fun x3 => guardO (x3.2) (Z44_q x3.1 a1) false fun x5 => some (x3.2 && x5)
theorem Z37_eq (a0 : TRef) (a1 : TRef) : Z37 a0 a1 = Z37_q a0 a1 := by
 unfold Z37 Z37_q
 refine Eq.trans ?_ (Q.some_bind _)
 refine Q.bindO (Z46_eq _ _) fun x3 => ?_
 refine Q.guardOO (Z44_eq _ _) fun x5 => ?_
 all_goals rfl
def Z50_q (a0 : TDoc) (a1 : TVar) (a2 : TRef) (a3 : Bool) : Option Bool := (Z37_q a1.FType a2).bind fun x3 => some x3
theorem Z50_eq (a0 : TDoc) (a1 : TVar) (a2 : TRef) (a3 : Bool) : Z50 a0 a1 a2 a3 = Z50_q a0 a1 a2 a3 := by
 unfold Z50 Z50_q
 refine Eq.trans ?_ (Q.some_bind _)
 refine Q.bindO (Z37_eq _ _) fun x3 => ?_
 all_goals rfl
def Z9_q (a0 : Int) : Bool := ((((decide ((65 : Int) ≤ a0)) && (decide (a0 ≤ (90 : Int)))) || ((decide ((97 : Int) ≤ a0)) && (decide (a0 ≤ (122 : Int))))) || (decide (a0 = (95 : Int))))
theorem Z9_eq (a0 : Int) : Z9 a0 = some (Z9_q a0) := by
 unfold Z9 Z9_q
 all_goals rfl
def Z8_q (a0 : Int) : Bool := ((decide ((48 : Int) ≤ a0)) && (decide (a0 ≤ (57 : Int))))
theorem Z8_eq (a0 : Int) : Z8 a0 = some (Z8_q a0) := by
 unfold Z8 Z8_q
 all_goals rfl
def Z7_q10  : List UInt8 → Nat → Unit ⊕ Bool
 | [], s3_11 => Sum.inl ()
 | h10 :: r10, s3_11 => on (h10) fun x18 => on (Z9_q ((x18.toNat : Nat) : Int)) fun x19 => on (bif ((!x19) && !(decide (((s3_11 : Nat) : Int) = (0 : Int)))) then h10 else (0 : UInt8)) fun x20 => on (bif ((!x19) && !(decide (((s3_11 : Nat) : Int) = (0 : Int)))) then Z8_q ((x20.toNat : Nat) : Int) else false) fun x21 => bif ((!x19) && ((decide (((s3_11 : Nat) : Int) = (0 : Int))) || (!x21))) then (Sum.inr false) else (Z7_q10  (r10) (s3_11 + 1) )
theorem Z7_l10_qe {a0 : Bs}  (Kb10 : (Unit ⊕ Bool) → Option Bool) (hend : ∀ (n10 : Nat) (s3_11 : Nat), Z7_j7    = Kb10 (Sum.inl ())) (hret : ∀ e : Bool, some e = Kb10 (Sum.inr e)) : ∀ (n10 : Nat) (s3_11 : Nat), (0 < n10 ∧ a0.length < s3_11 + n10) → Z7_l10 a0 n10 s3_11 = Kb10 (Z7_q10  (a0.drop s3_11) s3_11 ) := by
 intro n10
 induction n10 with
 | zero => intro s3_11 hn; exact absurd hn.1 (by omega)
 | succ n10 ih10 =>
  intro s3_11 hn
  rw [Z7_l10]
  by_cases hlt : s3_11 < a0.length
  ·obtain ⟨h10, hh10⟩ : ∃ x, a0[s3_11]? = some x := ⟨_, List.getElem?_eq_getElem hlt⟩
   rw [Q.drop_of hh10, Z7_q10]
   refine Q.condT (Q.ltT hlt) ?_
   refine Q.bindP hh10 fun x18 hx_x18 => ?_
   refine Q.bindP (Z9_eq _) fun x19 hx_x19 => ?_
   refine Q.guardP hh10 fun x20 hx_x20 => ?_
   refine Q.guardP (Z8_eq _) fun x21 hx_x21 => ?_
   refine Q.condP ?_ ?_
   ·all_goals exact hret _
   all_goals exact ih10 _ ⟨by omega, by omega⟩
  rw [List.drop_of_length_le (by omega), Z7_q10]
  refine Q.condF (Q.ltF hlt) ?_
  exact hend n10 s3_11
def Z7_q (a0 : Bs) : Bool := bif ((decide (((a0.length : Nat) : Int) < (1 : Int))) || (decide ((64 : Int) < ((a0.length : Nat) : Int)))) then (false) else (on (Z7_q10  a0 0 ) fun o10 => match o10 with | Sum.inl _ => (on (()) fun _ => true) | Sum.inr e10 => (e10))
theorem Z7_eq (a0 : Bs) : Z7 a0 = some (Z7_q a0) := by
 unfold Z7 Z7_q
 refine Q.condP ?_ ?_
 ·all_goals rfl
 refine Q.wrapPP fun Kb10 hKb10 => ?_
 refine Z7_l10_qe  Kb10 ?_ ?_ _ _ ⟨Nat.succ_pos _, by omega⟩
 ·intro n10 s3_11
  refine Eq.trans ?_ (hKb10 _).symm
  try dsimp only
  refine Q.wrapPP fun Kj7 hKj7 => ?_
  have hj7 : Z7_j7   = Kj7 () := by
   refine Eq.trans ?_ (hKj7 _).symm
   unfold Z7_j7
   all_goals rfl
  all_goals exact hj7
 intro e10
 refine Eq.trans ?_ (hKb10 _).symm
 try dsimp only
 all_goals rfl
end Go.Proofs

namespace Go.Proofs
open Go Go.Ab
def Z15_q10 (a0 : TRef) : List Int → Nat → Option (Unit ⊕ Bool)
 | [], s3_11 => some (Sum.inl ())
 | h10 :: r10, s3_11 => on (h10) fun x19 => on (bif (!decide (x19 = (1 : Int))) then h10 else (0 : Int)) fun x20 => bif ((!decide (x19 = (1 : Int))) && (!decide (x20 = (2 : Int)))) then (some (Sum.inr false)) else (on (bif (decide ((0 : Int) < ((s3_11 : Nat) : Int))) then h10 else (0 : Int)) fun x24 => guardO (((decide ((0 : Int) < ((s3_11 : Nat) : Int))) && (decide (x24 = (1 : Int))))) (subC ((s3_11 : Nat) : Int) (1 : Int)) (0 : Int) fun x25 => guardO (((decide ((0 : Int) < ((s3_11 : Nat) : Int))) && (decide (x24 = (1 : Int))))) (idxC a0.FWraps.l x25) (0 : Int) fun x26 => bif (((decide ((0 : Int) < ((s3_11 : Nat) : Int))) && (decide (x24 = (1 : Int)))) && (decide (x26 = (1 : Int)))) then (some (Sum.inr false)) else (Z15_q10 a0 (r10) (s3_11 + 1) ))
theorem Z15_l10_qe {a0 : TRef}  (Kb10 : (Unit ⊕ Bool) → Option Bool) (hend : ∀ (n10 : Nat) (s3_11 : Nat), Z15_j7    = Kb10 (Sum.inl ())) (hret : ∀ e : Bool, some e = Kb10 (Sum.inr e)) : ∀ (n10 : Nat) (s3_11 : Nat), (0 < n10 ∧ a0.FWraps.l.length < s3_11 + n10) → Z15_l10 a0 n10 s3_11 = Option.bind (Z15_q10 a0 (a0.FWraps.l.drop s3_11) s3_11 ) Kb10 := by
 intro n10
 induction n10 with
 | zero => intro s3_11 hn; exact absurd hn.1 (by omega)
 | succ n10 ih10 =>
  intro s3_11 hn
  rw [Z15_l10]
  by_cases hlt : s3_11 < a0.FWraps.l.length
  ·obtain ⟨h10, hh10⟩ : ∃ x, a0.FWraps.l[s3_11]? = some x := ⟨_, List.getElem?_eq_getElem hlt⟩
   rw [Q.drop_of hh10, Z15_q10]
   refine Q.condT (Q.ltT hlt) ?_
   refine Q.bindPO hh10 fun x19 hx_x19 => ?_
   refine Q.guardPO hh10 fun x20 hx_x20 => ?_
   refine Q.condO ?_ ?_
   ·all_goals exact hret _
   refine Q.guardPO hh10 fun x24 hx_x24 => ?_
   refine Q.guardOO rfl fun x25 => ?_
   refine Q.guardOO rfl fun x26 => ?_
   refine Q.condO ?_ ?_
   ·all_goals exact hret _
   all_goals exact ih10 _ ⟨by omega, by omega⟩
  rw [List.drop_of_length_le (by omega), Z15_q10]
  refine Q.condF (Q.ltF hlt) ?_
  exact hend n10 s3_11
def Z15_q (a0 : TRef) : Option Bool := on (Z7_q a0.FName) fun x4 => bif ((!x4) || (decide ((24 : Int) < ((a0.FWraps.l.length : Nat) : Int)))) then (some false) else (Option.bind (Z15_q10 a0 a0.FWraps.l 0 ) fun o10 => match o10 with | Sum.inl _ => (on (()) fun _ => some true) | Sum.inr e10 => (some e10))
theorem Z15_eq (a0 : TRef) : Z15 a0 = Z15_q a0 := by
 unfold Z15 Z15_q
 refine Eq.trans ?_ (Q.some_bind _)
 refine Q.bindPO (Z7_eq _) fun x4 hx_x4 => ?_
 refine Q.condO ?_ ?_
 ·all_goals rfl
 refine Q.wrapOO fun Kb10 hKb10 => ?_
 refine Z15_l10_qe  Kb10 ?_ ?_ _ _ ⟨Nat.succ_pos _, by omega⟩
 ·intro n10 s3_11
  refine Eq.trans ?_ (hKb10 _).symm
  try dsimp only
  refine Q.wrapPO fun Kj7 hKj7 => ?_
  have hj7 : Z15_j7   = Kj7 () := by
   refine Eq.trans ?_ (hKj7 _).symm
   unfold Z15_j7
   all_goals rfl
  all_goals exact hj7
 intro e10
 refine Eq.trans ?_ (hKb10 _).symm
 try dsimp only
 all_goals rfl
def Z19_q11 (a1 : (Sl Int)) : List Int → Nat → Option (Unit ⊕ Bool)
 | [], s5_12 => some (Sum.inl ())
 | h11 :: r11, s5_12 => on (h11) fun x19 => (a1.l[s5_12]?).bind fun x20 => bif (!decide (x19 = x20)) then (some (Sum.inr false)) else (Z19_q11 a1 (r11) (s5_12 + 1) )
theorem Z19_l11_qe {a0 : (Sl Int)} {a1 : (Sl Int)}  (Kb11 : (Unit ⊕ Bool) → Option Bool) (hend : ∀ (n11 : Nat) (s5_12 : Nat), Z19_j8    = Kb11 (Sum.inl ())) (hret : ∀ e : Bool, some e = Kb11 (Sum.inr e)) : ∀ (n11 : Nat) (s5_12 : Nat), (0 < n11 ∧ a0.l.length < s5_12 + n11) → Z19_l11 a0 a1 n11 s5_12 = Option.bind (Z19_q11 a1 (a0.l.drop s5_12) s5_12 ) Kb11 := by
 intro n11
 induction n11 with
 | zero => intro s5_12 hn; exact absurd hn.1 (by omega)
 | succ n11 ih11 =>
  intro s5_12 hn
  rw [Z19_l11]
  by_cases hlt : s5_12 < a0.l.length
  ·obtain ⟨h11, hh11⟩ : ∃ x, a0.l[s5_12]? = some x := ⟨_, List.getElem?_eq_getElem hlt⟩
   rw [Q.drop_of hh11, Z19_q11]
   refine Q.condT (Q.ltT hlt) ?_
   refine Q.bindPO hh11 fun x19 hx_x19 => ?_
   refine Q.bindO rfl fun x20 => ?_
   refine Q.condO ?_ ?_
   ·all_goals exact hret _
   all_goals exact ih11 _ ⟨by omega, by omega⟩
  rw [List.drop_of_length_le (by omega), Z19_q11]
  refine Q.condF (Q.ltF hlt) ?_
  exact hend n11 s5_12
def Z19_q (a0 : (Sl Int)) (a1 : (Sl Int)) : Option Bool := bif (!decide (((a0.l.length : Nat) : Int) = ((a1.l.length : Nat) : Int))) then (some false) else (Option.bind (Z19_q11 a1 a0.l 0 ) fun o11 => match o11 with | Sum.inl _ => (on (()) fun _ => some true) | Sum.inr e11 => (some e11))
theorem Z19_eq (a0 : (Sl Int)) (a1 : (Sl Int)) : Z19 a0 a1 = Z19_q a0 a1 := by
 unfold Z19 Z19_q
 refine Eq.trans ?_ (Q.some_bind _)
 refine Q.condO ?_ ?_
 ·all_goals rfl
 refine Q.wrapOO fun Kb11 hKb11 => ?_
 refine Z19_l11_qe  Kb11 ?_ ?_ _ _ ⟨Nat.succ_pos _, by omega⟩
 ·intro n11 s5_12
  refine Eq.trans ?_ (hKb11 _).symm
  try dsimp only
  refine Q.wrapPO fun Kj8 hKj8 => ?_
  have hj8 : Z19_j8   = Kj8 () := by
   refine Eq.trans ?_ (hKj8 _).symm
   unfold Z19_j8
   all_goals rfl
  all_goals exact hj8
 intro e11
 refine Eq.trans ?_ (hKb11 _).symm
 try dsimp only
 all_goals rfl
def Z18_q7  : List Int → (Sl Int) → Option ((Sl Int))
 | [], s3_8 => some s3_8
 | h7 :: r7, s3_8 => on (h7) fun x17 => Option.bind (bif (!decide (x17 = (1 : Int))) then (on (h7) fun x19 => (appC 8 s3_8 (⟨false, [x19]⟩ : Sl Int)).bind fun x20 => some x20) else (some s3_8)) fun s3_15 => Z18_q7  (r7) s3_15
theorem Z18_l7_qe {a0 : TRef}  (Kb7 : ((Sl Int)) → Option (Sl Int)) (hend : ∀ (n7 : Nat) (s3_8 : (Sl Int)) (s4_9 : Nat), Z18_j3   s3_8 = Kb7 s3_8) : ∀ (n7 : Nat) (s3_8 : (Sl Int)) (s4_9 : Nat), (0 < n7 ∧ a0.FWraps.l.length < s4_9 + n7) → Z18_l7 a0 n7 s3_8 s4_9 = Option.bind (Z18_q7  (a0.FWraps.l.drop s4_9) s3_8) Kb7 := by
 intro n7
 induction n7 with
 | zero => intro s3_8 s4_9 hn; exact absurd hn.1 (by omega)
 | succ n7 ih7 =>
  intro s3_8 s4_9 hn
  rw [Z18_l7]
  by_cases hlt : s4_9 < a0.FWraps.l.length
  ·obtain ⟨h7, hh7⟩ : ∃ x, a0.FWraps.l[s4_9]? = some x := ⟨_, List.getElem?_eq_getElem hlt⟩
   rw [Q.drop_of hh7, Z18_q7]
   refine Q.condT (Q.ltT hlt) ?_
   refine Q.bindPO hh7 fun x17 hx_x17 => ?_
   refine Q.wrapOO fun Kj14 hKj14 => ?_
   have hj14 : ∀ (s3_15 : (Sl Int)), Z18_j14 s4_9 (Z18_l7 a0 n7) s3_15 = Kj14 s3_15 := by
    intro s3_15
    refine Eq.trans ?_ (hKj14 _).symm
    unfold Z18_j14
    all_goals exact ih7 _ _ ⟨by omega, by omega⟩
   refine Q.condO ?_ ?_
   ·refine Q.bindPO hh7 fun x19 hx_x19 => ?_
    refine Q.bindO rfl fun x20 => ?_
    all_goals exact hj14 _
   all_goals exact hj14 _
  rw [List.drop_of_length_le (by omega), Z18_q7]
  refine Q.condF (Q.ltF hlt) ?_
  exact hend n7 s3_8 s4_9
def Z18_q (a0 : TRef) : Option (Sl Int) := Option.bind (Z18_q7  a0.FWraps.l (Sl.nil : Sl Int)) fun s3_8 => on (s3_8) fun s3_4 => some s3_4
theorem Z18_eq (a0 : TRef) : Z18 a0 = Z18_q a0 := by
 unfold Z18 Z18_q
 refine Eq.trans ?_ (Q.some_bind _)
 refine Q.wrapOO fun Kb7 hKb7 => ?_
 refine Z18_l7_qe  Kb7 ?_ _ _ _ ⟨Nat.succ_pos _, by omega⟩
 intro n7 s3_8 s4_9
 refine Eq.trans ?_ (hKb7 _).symm
 refine Q.wrapPO fun Kj3 hKj3 => ?_
 have hj3 : ∀ (s3_4 : (Sl Int)), Z18_j3  s3_4 = Kj3 s3_4 := by
  intro s3_4
  refine Eq.trans ?_ (hKj3 _).symm
  unfold Z18_j3
  all_goals rfl
 all_goals exact hj3 _
def Z16_q (a0 : TRef) (a1 : TRef) : Option Bool := guardO (((a0.FName == a1.FName))) (Z18_q a0) (Sl.nil : Sl Int) fun x3 => guardO (((a0.FName == a1.FName))) (Z18_q a1) (Sl.nil : Sl Int) fun x4 => guardO (((a0.FName == a1.FName))) (Z19_q x3 x4) false fun x5 => some (((a0.FName == a1.FName)) && x5)
theorem Z16_eq (a0 : TRef) (a1 : TRef) : Z16 a0 a1 = Z16_q a0 a1 := by
 unfold Z16 Z16_q
 refine Eq.trans ?_ (Q.some_bind _)
 refine Q.guardOO (Z18_eq _) fun x3 => ?_
 refine Q.guardOO (Z18_eq _) fun x4 => ?_
 refine Q.guardOO (Z19_eq _ _) fun x5 => ?_
 all_goals rfl
def Z13_q (a0 : TRef) : Bool := on (bif (decide ((0 : Int) < ((a0.FWraps.l.length : Nat) : Int))) then ((a0.FWraps.l)[0]?.getD (0 : Int)) else (0 : Int)) fun x4 => ((decide ((0 : Int) < ((a0.FWraps.l.length : Nat) : Int))) && (decide (x4 = (1 : Int))))
theorem Z13_eq (a0 : TRef) : Z13 a0 = some (Z13_q a0) := by
 unfold Z13 Z13_q
 refine Q.guardT (fun hc => Q.getD_some (by simp at hc; omega)) fun x4 hx_x4 => ?_
 all_goals rfl
def Z17_q (a0 : TRef) : Option TRef := (partC a0.FWraps (some (1 : Int)) none).bind fun x3 => (appC 8 (⟨false, []⟩ : Sl Int) x3).bind fun x4 => some (TRef.mk a0.FName x4)
theorem Z17_eq (a0 : TRef) : Z17 a0 = Z17_q a0 := by
 unfold Z17 Z17_q
 refine Eq.trans ?_ (Q.some_bind _)
 refine Q.bindO rfl fun x3 => ?_
 refine Q.bindO rfl fun x4 => ?_
 all_goals rfl
def Z14_q (a0 : TRef) : Option TRef := on (Z13_q a0) fun x4 => bif x4 then ((Z17_q a0).bind fun x7 => some x7) else ((appC 8 (⟨false, []⟩ : Sl Int) a0.FWraps).bind fun x9 => some (TRef.mk a0.FName x9))
theorem Z14_eq (a0 : TRef) : Z14 a0 = Z14_q a0 := by
 unfold Z14 Z14_q
 refine Eq.trans ?_ (Q.some_bind _)
 refine Q.bindPO (Z13_eq _) fun x4 hx_x4 => ?_
 refine Q.condO ?_ ?_
 ·refine Q.bindO (Z17_eq _) fun x7 => ?_
  all_goals rfl
 refine Q.bindO rfl fun x9 => ?_
 all_goals rfl
def Z12_q (a0 : TRef) : Option Bool := (Z14_q a0).bind fun x3 => on (bif (decide ((0 : Int) < ((x3.FWraps.l.length : Nat) : Int))) then ((x3.FWraps.l)[0]?.getD (0 : Int)) else (0 : Int)) fun x6 => some ((decide ((0 : Int) < ((x3.FWraps.l.length : Nat) : Int))) && (decide (x6 = (2 : Int))))
theorem Z12_eq (a0 : TRef) : Z12 a0 = Z12_q a0 := by
 unfold Z12 Z12_q
 refine Eq.trans ?_ (Q.some_bind _)
 refine Q.bindO (Z14_eq _) fun x3 => ?_
 refine Q.guardTO (fun hc => Q.getD_some (by simp at hc; omega)) fun x6 hx_x6 => ?_
 all_goals rfl
def Z11_q (a0 : TRef) : Option (TRef × Bool) := (Z12_q a0).bind fun x4 => bif (!x4) then (some ((TRef.mk ([] : Bs) (Sl.nil : Sl Int)), false)) else ((Z14_q a0).bind fun x8 => (Z17_q x8).bind fun x9 => some (x9, true))
theorem Z11_eq (a0 : TRef) : Z11 a0 = Z11_q a0 := by
 unfold Z11 Z11_q
 refine Eq.trans ?_ (Q.some_bind _)
 refine Q.bindO (Z12_eq _) fun x4 => ?_
 refine Q.condO ?_ ?_
 ·all_goals rfl
 refine Q.bindO (Z14_eq _) fun x8 => ?_
 refine Q.bindO (Z17_eq _) fun x9 => ?_
 all_goals rfl
def Z10_qn : Nat → TRef → TRef → Option Bool
 | 0, _, _ => none
 | n + 1, a0, a1 => (Z16_q a0 a1).bind fun x4 => on (bif !(!x4) then Z13_q a1 else false) fun x5 => on (bif (!(!x4) && x5) then Z13_q a0 else false) fun x6 => bif ((!x4) || (x5 && (!x6))) then (some false) else ((Z11_q a0).bind fun x10 => (Z11_q a1).bind fun x12 => guardO (!((!x10.2) || (!x12.2))) ((Z10_qn n) x10.1 x12.1) false fun x14 => some (((!x10.2) || (!x12.2)) || x14))
theorem Z10_qall : ∀ n : Nat, Z10_n n = Z10_qn n := by
 intro n
 induction n with
 | zero => exact (by funext a0 a1; first | rfl | (rw [Z10_n, Z10_qn]))
 | succ n ih =>
  funext a0 a1
  refine Eq.trans ?_ (Q.some_bind _)
  rw [Z10_n, Z10_qn]
  try rw [ih]
  refine Q.bindO (Z16_eq _ _) fun x4 => ?_
  refine Q.guardPO (Z13_eq _) fun x5 hx_x5 => ?_
  refine Q.guardPO (Z13_eq _) fun x6 hx_x6 => ?_
  refine Q.condO ?_ ?_
  ·all_goals rfl
  refine Q.bindO (Z11_eq _) fun x10 => ?_
  refine Q.bindO (Z11_eq _) fun x12 => ?_
  refine Q.guardOO rfl fun x14 => ?_
  all_goals rfl
def Z10_q (a0 : TRef) (a1 : TRef) : Option Bool := Z10_qn F0 a0 a1
theorem Z10_eq (a0 : TRef) (a1 : TRef) : Z10 a0 a1 = Z10_q a0 a1 := by
 unfold Z10 Z10_q; rw [(Z10_qall F0)]
end Go.Proofs

namespace Go.Proofs
open Go Go.Ab
set_option maxRecDepth 100000 in
theorem example16 : Z6 = some true := by kernel_rfl
end Go.Proofs

namespace Go.Proofs
open Go Go.Ab
def nnW (w : List Int) : Bool := w.head? == some 1
def liW (w : List Int) : Bool := w.head? == some 2
def barS (s : Sl Int) : Sl Int := bif nnW s.l then ⟨s.nl, s.l.drop 1⟩ else s
def bar (t : TRef) : TRef := ⟨t.FName, barS t.FWraps⟩
def innerT (t : TRef) : TRef := ⟨t.FName, ⟨(barS t.FWraps).nl, (barS t.FWraps).l.drop 1⟩⟩
theorem clone_eq {s : Sl Int} (h : SOk s) : Z30_q s = some s := by
 unfold Z30_q
 obtain ⟨nl, l⟩ := s
 cases nl with
 | true => have := h.1 rfl; simp only at this; subst this; rfl
 | false =>
  simp only [cond_false]
  rw [appC_ok (by omega) (by have := h.2; simp at this ⊢; omega)]
  simp
theorem isNonNull_eq (t : TRef) : Z40_q t = nnW t.FWraps.l := by
 unfold Z40_q nnW on
 cases t.FWraps.l with
 | nil => rfl
 | cons a r => simp; by_cases h : a = 1 <;> simp [h]
theorem head_one {w : List Int} (h : nnW w = true) : 1 ≤ w.length := by cases w <;> simp [nnW] at h ⊢
theorem sok_drop {α : Type} {s : Sl α} (n : Nat) (h : SOk s) : SOk ⟨s.nl, s.l.drop n⟩ := ⟨fun e => by simp [h.1 e], by have := h.2; simp; omega⟩
theorem barS_ok {s : Sl Int} (h : SOk s) : SOk (barS s) := by
 unfold barS
 cases nnW s.l with
 | true => exact sok_drop 1 h
 | false => exact h
theorem innerT_ok {t : TRef} (h : SOk t.FWraps) : SOk (innerT t).FWraps := sok_drop 1 (barS_ok h)
theorem nullable_eq {t : TRef} (h : SOk t.FWraps) : Z43_q t = some (bar t) := by
 unfold Z43_q bar barS on
 simp only [isNonNull_eq]
 cases hn : nnW t.FWraps.l with
 | true =>
  simp only [cond_true]
  rw [partC_tail (head_one hn)]
  simp only [Option.bind_some]
  rw [clone_eq (sok_drop 1 h)]; rfl
 | false =>
  simp only [cond_false, Option.bind_some]
  rw [clone_eq h]; rfl
theorem isList_eq {t : TRef} (h : SOk t.FWraps) : Z39_q t = some (liW (barS t.FWraps).l) := by
 unfold Z39_q
 rw [nullable_eq h]
 simp only [Option.bind_some, on, bar, liW]
 cases (barS t.FWraps).l with
 | nil => rfl
 | cons a r => simp; by_cases h : a = 2 <;> simp [h]
theorem list_one {w : List Int} (h : liW w = true) : 1 ≤ w.length := by cases w <;> simp [liW] at h ⊢
theorem inner_eq {t : TRef} (h : SOk t.FWraps) : Z38_q t = some (bif liW (barS t.FWraps).l then (innerT t, true) else (⟨[], Sl.nil⟩, false)) := by
 unfold Z38_q
 rw [isList_eq h]
 simp only [Option.bind_some]
 cases hl : liW (barS t.FWraps).l with
 | false => rfl
 | true =>
  simp only [Bool.not_true, cond_false, cond_true]
  rw [nullable_eq h]
  simp only [Option.bind_some, bar]
  rw [partC_tail (list_one hl)]
  rfl
end Go.Proofs
