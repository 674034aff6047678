import Derived.Test.YtjlggcgmmpopmaaGreatDoorV2
set_option maxRecDepth 100000
set_option maxHeartbeats 2000000
set_option linter.unusedVariables false
set_option linter.unusedSimpArgs false
namespace Go.Proofs
open Go Go.Ab
open AOps Cert AWp
def Z42_j7   : Option Bool := some true
def Z42_l10 (a0 : TDoc)  : Nat → Nat → Option Bool
 | 0, _ => none
 | n10 + 1, s3_11 => bif (decide (((s3_11 : Nat) : Int) < ((a0.FDefs.l.length : Nat) : Int))) then ((a0.FDefs.l[s3_11]?).bind fun x18 => (Z45 x18).bind fun x19 => bif (!x19) then (some false) else ((Z42_l10 a0 n10) (s3_11 + 1))) else (Z42_j7   )
def Z42 (a0 : TDoc) : Option Bool := bif ((decide (((a0.FDefs.l.length : Nat) : Int) < (1 : Int))) || (decide ((64 : Int) < ((a0.FDefs.l.length : Nat) : Int)))) then (some false) else (Z42_l10 a0 (a0.FDefs.l.length + 1) 0)
theorem Z42_walk {a0 : TDoc}   {r : Bool} (hE : Z42 a0 = some r) (H : Heap)  : ACalls Tryz.prog 23 [.agg (TDoc.c a0)] H fun v h' => v = .a (.d (.bool r)) ∧ h' = H := by
 unfold Z42 at hE
 refine ACalls.of_wp (fn := Tryz.f23) (c := _) Tryz.tab_ok (fun _ _ => Tryz.call23 _ _) Tryz.func23 rfl (n := 28) rfl (rs := [.tmp 2]) rfl rfl ?_
 refine seqK fun K1 hK1 => ?_
 refine region ?_
 refine s0 (boxV rfl) rfl ?_
 refine s0 assignA rfl ?_
 refine nil ?_
 refine hK1 _ ?_
 clear hK1 K1
 refine seqK fun K2 hK2 => ?_
 refine seqK fun K3 hK3 => ?_
 refine region ?_
 refine s0 (fieldVA (TK rfl) rfl rfl (TK rfl) rfl rfl) rfl ?_
 refine s0 (loadV (TK rfl) rfl rfl rfl) rfl ?_
 refine sLen (f := TDef.c) (s := a0.FDefs) (TK rfl) rfl rfl rfl rfl fun hL4 => ?_
 refine s0 (binI rfl rfl rfl) rfl ?_
 refine s0 moveA rfl ?_
 refine gC rfl rfl (fun hC => fieldVA (TK rfl) rfl rfl (TK rfl) rfl rfl) rfl ?_
 refine gC rfl rfl (fun hC => ungdA (k := 9) rfl (loadV (TK rfl) rfl rfl rfl)) rfl ?_
 refine gC rfl rfl (fun hC => ungdA (k := 10) rfl (lenM' (f := TDef.c) (s := a0.FDefs) (TK rfl) rfl rfl rfl)) rfl ?_
 refine gC rfl rfl (fun hC => ungdA (k := 11) rfl (binI rfl rfl rfl)) rfl ?_
 refine s0 (pickOrA rfl rfl rfl) rfl ?_
 refine nil ?_
 refine hK3 _ ?_
 clear hK3 K3
 refine condE hE rfl (fun hc5 hE => ?_) (fun hc5 hE => ?_)
 ·refine seqK fun K6 hK6 => ?_
  refine region ?_
  refine s0 assignA rfl ?_
  refine nil ?_
  refine hK6 _ ?_
  clear hK6 K6
  refine AWp.ret ?_
  repeat (first | refine xBlock_ret ?_ | refine xThen_ret ?_)
  obtain rfl := Option.some.inj hE
  refine retQ.retF H rfl ⟨rfl, rfl⟩ ?_
  exact (fun _ _ h => h)
 refine AWp.skip ?_
 refine hK2 _ ?_
 clear hK2 K2
 refine seqJH KeepsT.nil (fun (z : Unit) => []) (fun z => H) (fun z => Z42_j7  = some r) ?_ ?_
 ·intro K7 hK7
  refine seqK fun K9 hK9 => ?_
  refine region ?_
  refine s0 assignA rfl ?_
  refine nil ?_
  refine hK9 _ ?_
  clear hK9 K9
  refine block ?_
  refine loopH (KeepsT.A (k := 1) KeepsT.nil) (fun (z : Nat × Nat) => [(3, .a (.d (.int .i64 ((z.2 : Nat) : Int))))]) (fun z => H) (fun z => z.1) (fun z => Z42_l10 a0 z.1 z.2 = some r) ((a0.FDefs.l.length + 1), 0) hE Weak.toA ?_
  rintro ⟨n10, s3_11⟩ hE K10 hK10
  try dsimp only at hE
  cases n10 with
  | zero => cases hE
  | succ n10 =>
    rw [Z42_l10] at hE
    refine seqK fun K12 hK12 => ?_
    refine seqK fun K13 hK13 => ?_
    refine region ?_
    refine s0 moveA rfl ?_
    refine s0 (fieldVA (TK rfl) rfl rfl (TK rfl) rfl rfl) rfl ?_
    refine s0 (loadV (TK rfl) rfl rfl rfl) rfl ?_
    refine sLen (f := TDef.c) (s := a0.FDefs) (TK rfl) rfl rfl rfl rfl fun hL14 => ?_
    refine s0 (binI rfl rfl rfl) rfl ?_
    refine nil ?_
    refine hK13 _ ?_
    clear hK13 K13
    refine condE hE rfl (fun hc15 hE => ?_) (fun hc15 hE => ?_)
    ·try dsimp only at hc15
     have hf15 := of_decide_eq_true hc15
     refine AWp.skip ?_
     refine hK12 _ ?_
     clear hK12 K12
     refine seqK fun K16 hK16 => ?_
     refine block ?_
     refine seqK fun K17 hK17 => ?_
     refine region ?_
     refine s0 (fieldVA (TK rfl) rfl rfl (TK rfl) rfl rfl) rfl ?_
     refine s0 (loadV (TK rfl) rfl rfl rfl) rfl ?_
     refine s0 moveA rfl ?_
     obtain ⟨x18, gx18, hE⟩ := bindO_some hE
     refine s0 (idxMn (f := TDef.c) (n := s3_11) (TK rfl) rfl (TK rfl) rfl rfl rfl gx18) rfl ?_
     refine s0 (loadV (TK rfl) rfl rfl rfl) rfl ?_
     obtain ⟨x19, gx19, hE⟩ := bindO_some hE
     refine s0 (callP rfl rfl (fun H => Z45_walk gx19 H)) rfl ?_
     refine s0 (notB rfl) rfl ?_
     refine nil ?_
     refine hK17 _ ?_
     clear hK17 K17
     refine condE hE rfl (fun hc20 hE => ?_) (fun hc20 hE => ?_)
     ·refine seqK fun K21 hK21 => ?_
      refine region ?_
      refine s0 assignA rfl ?_
      refine nil ?_
      refine hK21 _ ?_
      clear hK21 K21
      refine AWp.ret ?_
      repeat (first | refine xBlock_ret ?_ | refine xThen_ret ?_)
      obtain rfl := Option.some.inj hE
      refine retQ.retF H rfl ⟨rfl, rfl⟩ ?_
      exact (fun _ _ h => h)
     refine AWp.skip ?_
     refine hK16 _ ?_
     clear hK16 K16
     refine region ?_
     refine s0 moveA rfl ?_
     refine s0 (addIA rfl rfl) rfl ?_
     refine s0 assignA rfl ?_
     refine nil ?_
     exact hK10 _ (n10, (s3_11 + 1)) Weak.toA hE (Nat.lt_succ_self _)
    refine AWp.exit ?_
    exact hK7 _ () Weak.toA hE
 rintro _ hE
 try dsimp only at hE
 unfold Z42_j7 at hE
 refine seqK fun K8 hK8 => ?_
 refine region ?_
 refine s0 assignA rfl ?_
 refine nil ?_
 refine hK8 _ ?_
 clear hK8 K8
 refine AWp.ret ?_
 repeat (first | refine xBlock_ret ?_ | refine xThen_ret ?_)
 obtain rfl := Option.some.inj hE
 refine retQ.retF H rfl ⟨rfl, rfl⟩ ?_
 exact (fun _ _ h => h)
def Z28 (a0 : TValue) : Option Bool := (Z29 a0).bind fun x3 => guardO ((decide (x3 ≤ (4096 : Int)))) (Z25 a0) (0 : Int) fun x4 => guardO (((decide (x3 ≤ (4096 : Int))) && (decide (x4 ≤ (24 : Int))))) (Z33 a0 false) false fun x5 => some (((decide (x3 ≤ (4096 : Int))) && (decide (x4 ≤ (24 : Int)))) && x5)
theorem Z28_walk {a0 : TValue}   {r : Bool} (hE : Z28 a0 = some r) (H : Heap)  : ACalls Tryz.prog 27 [.agg (TValue.c a0)] H fun v h' => v = .a (.d (.bool r)) ∧ h' = H := by
 unfold Z28 at hE
 refine ACalls.of_wp (fn := Tryz.f27) (c := _) Tryz.tab_ok (fun _ _ => Tryz.call27 _ _) Tryz.func27 rfl (n := 15) rfl (rs := [.tmp 2]) rfl rfl ?_
 refine seqK fun K1 hK1 => ?_
 refine region ?_
 refine s0 (boxV rfl) rfl ?_
 refine s0 assignA rfl ?_
 refine nil ?_
 refine hK1 _ ?_
 clear hK1 K1
 refine seqK fun K2 hK2 => ?_
 refine region ?_
 refine s0 (loadV (TK rfl) rfl rfl rfl) rfl ?_
 obtain ⟨x3, gx3, hE⟩ := bindO_some hE
 refine s0 (callP rfl rfl (fun H => Z29_walk gx3 H)) rfl ?_
 refine s0 (binI rfl rfl rfl) rfl ?_
 refine s0 moveA rfl ?_
 refine gC rfl rfl (fun hC => loadV (TK rfl) rfl rfl rfl) rfl ?_
 obtain ⟨x4, gx4, hE⟩ := guardO_some hE
 refine gC rfl rfl (fun hC => ungdA (k := 7) rfl (callP rfl rfl (fun H => Z25_walk (gx4 hC) H))) rfl ?_
 refine gC rfl rfl (fun hC => ungdA (k := 8) rfl (binI rfl rfl rfl)) rfl ?_
 refine s0 (pickAndA rfl rfl rfl) rfl ?_
 refine s0 moveA rfl ?_
 refine gC rfl rfl (fun hC => loadV (TK rfl) rfl rfl rfl) rfl ?_
 obtain ⟨x5, gx5, hE⟩ := guardO_some hE
 refine gC rfl rfl (fun hC => ungdA (k := 12) rfl (callP rfl rfl (fun H => Z33_walk (gx5 hC) H))) rfl ?_
 refine s0 (pickAndA rfl rfl rfl) rfl ?_
 refine s0 assignA rfl ?_
 refine nil ?_
 refine hK2 _ ?_
 clear hK2 K2
 refine AWp.ret ?_
 repeat (first | refine xBlock_ret ?_ | refine xThen_ret ?_)
 obtain rfl := Option.some.inj hE
 refine retQ.retF H rfl ⟨rfl, rfl⟩ ?_
 exact (fun _ _ h => h)
def Z19 (a0 : Supergraphlaw12_Case) (a1 : Bool) : Option Bool := (Z43 a0.FD (600 : Int)).bind fun x4 => guardO (!(decide ((600 : Int) < x4))) (Z35 a0.FV (900 : Int)) (0 : Int) fun x5 => guardO (!((decide ((600 : Int) < x4)) || (decide ((900 : Int) < x5)))) (Z35 a0.FVars (900 : Int)) (0 : Int) fun x6 => guardO (!(((decide ((600 : Int) < x4)) || (decide ((900 : Int) < x5))) || (decide ((900 : Int) < x6)))) (Z42 a0.FD) false fun x7 => guardO (!((((decide ((600 : Int) < x4)) || (decide ((900 : Int) < x5))) || (decide ((900 : Int) < x6))) || (!x7))) (Z40 a0.FT) false fun x8 => guardO (!(((((decide ((600 : Int) < x4)) || (decide ((900 : Int) < x5))) || (decide ((900 : Int) < x6))) || (!x7)) || (!x8))) (Z28 a0.FVars) false fun x9 => bif ((((((decide ((600 : Int) < x4)) || (decide ((900 : Int) < x5))) || (decide ((900 : Int) < x6))) || (!x7)) || (!x8)) || (!x9)) then (some false) else (guardO (a1) (Z27 a0.FV) false fun x13 => guardO ((!(a1 && x13) && (!a1))) (Z28 a0.FV) false fun x14 => some ((a1 && x13) || ((!a1) && x14)))
theorem Z19_walk {a0 : Supergraphlaw12_Case} {a1 : Bool}   {r : Bool} (hE : Z19 a0 a1 = some r) (H : Heap)  : ACalls Tryz.prog 8 [.agg (Supergraphlaw12_Case.c a0), .d (.bool a1)] H fun v h' => v = .a (.d (.bool r)) ∧ h' = H := by
 unfold Z19 at hE
 refine ACalls.of_wp (fn := Tryz.f8) (c := _) Tryz.tab_ok (fun _ _ => Tryz.call8 _ _) Tryz.func8 rfl (n := 54) rfl (rs := [.tmp 4]) rfl rfl ?_
 refine seqK fun K1 hK1 => ?_
 refine region ?_
 refine s0 (boxV rfl) rfl ?_
 refine s0 assignA rfl ?_
 refine nil ?_
 refine hK1 _ ?_
 clear hK1 K1
 refine seqK fun K2 hK2 => ?_
 refine seqK fun K3 hK3 => ?_
 refine region ?_
 refine s0 (fieldVA (TK rfl) rfl rfl (TK rfl) rfl rfl) rfl ?_
 refine s0 (loadV (TK rfl) rfl rfl rfl) rfl ?_
 obtain ⟨x4, gx4, hE⟩ := bindO_some hE
 refine s0 (callP rfl rfl (fun H => Z43_walk gx4 H)) rfl ?_
 refine s0 (binI rfl rfl rfl) rfl ?_
 refine s0 moveA rfl ?_
 refine gC rfl rfl (fun hC => fieldVA (TK rfl) rfl rfl (TK rfl) rfl rfl) rfl ?_
 refine gC rfl rfl (fun hC => ungdA (k := 10) rfl (loadV (TK rfl) rfl rfl rfl)) rfl ?_
 obtain ⟨x5, gx5, hE⟩ := guardO_some hE
 refine gC rfl rfl (fun hC => ungdA (k := 11) rfl (callP rfl rfl (fun H => Z35_walk (gx5 hC) H))) rfl ?_
 refine gC rfl rfl (fun hC => ungdA (k := 12) rfl (binI rfl rfl rfl)) rfl ?_
 refine s0 (pickOrA rfl rfl rfl) rfl ?_
 refine s0 moveA rfl ?_
 refine gC rfl rfl (fun hC => fieldVA (TK rfl) rfl rfl (TK rfl) rfl rfl) rfl ?_
 refine gC rfl rfl (fun hC => ungdA (k := 16) rfl (loadV (TK rfl) rfl rfl rfl)) rfl ?_
 obtain ⟨x6, gx6, hE⟩ := guardO_some hE
 refine gC rfl rfl (fun hC => ungdA (k := 17) rfl (callP rfl rfl (fun H => Z35_walk (gx6 hC) H))) rfl ?_
 refine gC rfl rfl (fun hC => ungdA (k := 18) rfl (binI rfl rfl rfl)) rfl ?_
 refine s0 (pickOrA rfl rfl rfl) rfl ?_
 refine s0 moveA rfl ?_
 refine gC rfl rfl (fun hC => fieldVA (TK rfl) rfl rfl (TK rfl) rfl rfl) rfl ?_
 refine gC rfl rfl (fun hC => ungdA (k := 22) rfl (loadV (TK rfl) rfl rfl rfl)) rfl ?_
 obtain ⟨x7, gx7, hE⟩ := guardO_some hE
 refine gC rfl rfl (fun hC => ungdA (k := 23) rfl (callP rfl rfl (fun H => Z42_walk (gx7 hC) H))) rfl ?_
 refine gC rfl rfl (fun hC => ungdA (k := 24) rfl (notB rfl)) rfl ?_
 refine s0 (pickOrA rfl rfl rfl) rfl ?_
 refine s0 moveA rfl ?_
 refine gC rfl rfl (fun hC => fieldVA (TK rfl) rfl rfl (TK rfl) rfl rfl) rfl ?_
 refine gC rfl rfl (fun hC => ungdA (k := 28) rfl (loadV (TK rfl) rfl rfl rfl)) rfl ?_
 obtain ⟨x8, gx8, hE⟩ := guardO_some hE
 refine gC rfl rfl (fun hC => ungdA (k := 29) rfl (callP rfl rfl (fun H => Z40_walk (gx8 hC) H))) rfl ?_
 refine gC rfl rfl (fun hC => ungdA (k := 30) rfl (notB rfl)) rfl ?_
 refine s0 (pickOrA rfl rfl rfl) rfl ?_
 refine s0 moveA rfl ?_
 refine gC rfl rfl (fun hC => fieldVA (TK rfl) rfl rfl (TK rfl) rfl rfl) rfl ?_
 refine gC rfl rfl (fun hC => ungdA (k := 34) rfl (loadV (TK rfl) rfl rfl rfl)) rfl ?_
 obtain ⟨x9, gx9, hE⟩ := guardO_some hE
 refine gC rfl rfl (fun hC => ungdA (k := 35) rfl (callP rfl rfl (fun H => Z28_walk (gx9 hC) H))) rfl ?_
 refine gC rfl rfl (fun hC => ungdA (k := 36) rfl (notB rfl)) rfl ?_
 refine s0 (pickOrA rfl rfl rfl) rfl ?_
 refine nil ?_
 refine hK3 _ ?_
 clear hK3 K3
 refine condE hE rfl (fun hc10 hE => ?_) (fun hc10 hE => ?_)
 ·refine seqK fun K11 hK11 => ?_
  refine region ?_
  refine s0 assignA rfl ?_
  refine nil ?_
  refine hK11 _ ?_
  clear hK11 K11
  refine AWp.ret ?_
  repeat (first | refine xBlock_ret ?_ | refine xThen_ret ?_)
  obtain rfl := Option.some.inj hE
  refine retQ.retF H rfl ⟨rfl, rfl⟩ ?_
  exact (fun _ _ h => h)
 refine AWp.skip ?_
 refine hK2 _ ?_
 clear hK2 K2
 refine seqK fun K12 hK12 => ?_
 refine region ?_
 refine s0 moveA rfl ?_
 refine s0 moveA rfl ?_
 refine gC rfl rfl (fun hC => fieldVA (TK rfl) rfl rfl (TK rfl) rfl rfl) rfl ?_
 refine gC rfl rfl (fun hC => ungdA (k := 41) rfl (loadV (TK rfl) rfl rfl rfl)) rfl ?_
 obtain ⟨x13, gx13, hE⟩ := guardO_some hE
 refine gC rfl rfl (fun hC => ungdA (k := 42) rfl (callP rfl rfl (fun H => Z27_walk (gx13 hC) H))) rfl ?_
 refine s0 (pickAndA rfl rfl rfl) rfl ?_
 refine s0 moveA rfl ?_
 refine gC rfl rfl (fun hC => moveA) rfl ?_
 refine gC rfl rfl (fun hC => ungdA (k := 46) rfl (notB rfl)) rfl ?_
 refine gC rfl rfl (fun hC => ungdA (k := 47) rfl moveA) rfl ?_
 refine gC rfl rfl (fun hC => fieldVA (TK rfl) rfl rfl (TK rfl) rfl rfl) rfl ?_
 refine gC rfl rfl (fun hC => ungdA (k := 49) rfl (loadV (TK rfl) rfl rfl rfl)) rfl ?_
 obtain ⟨x14, gx14, hE⟩ := guardO_some hE
 refine gC rfl rfl (fun hC => ungdA (k := 50) rfl (callP rfl rfl (fun H => Z28_walk (gx14 hC) H))) rfl ?_
 refine gC rfl rfl (fun hC => ungdA (k := 48) rfl (pickAndA rfl rfl rfl)) rfl ?_
 refine s0 (pickOrA rfl rfl rfl) rfl ?_
 refine s0 assignA rfl ?_
 refine nil ?_
 refine hK12 _ ?_
 clear hK12 K12
 refine AWp.ret ?_
 repeat (first | refine xBlock_ret ?_ | refine xThen_ret ?_)
 obtain rfl := Option.some.inj hE
 refine retQ.retF H rfl ⟨rfl, rfl⟩ ?_
 exact (fun _ _ h => h)
def Z77 (a0 : (Sl Bs)) : Option (Sl Bs) := bif a0.nl then (some (Sl.nil : Sl Bs)) else ((appC 16 (⟨false, []⟩ : Sl Bs) a0).bind fun x7 => some x7)
theorem Z77_walk {a0 : (Sl Bs)} {w0 : Option Nat}  {r : (Sl Bs)} (hE : Z77 a0 = some r) (H : Heap)  : ACalls Tryz.prog 88 [.d (Sl.d 1 strE w0 a0)] H fun v h' => v = .a (.d (Sl.d 1 strE none r)) ∧ h' = H := by
 unfold Z77 at hE
 refine ACalls.of_wp (fn := Tryz.f88) (c := _) Tryz.tab_ok (fun _ _ => Tryz.call88 _ _) Tryz.func88 rfl (n := 8) rfl (rs := [.tmp 2]) rfl rfl ?_
 refine seqK fun K1 hK1 => ?_
 refine region ?_
 refine s0 (assignNil (k' := 1) rfl) rfl ?_
 refine nil ?_
 refine hK1 _ ?_
 clear hK1 K1
 refine seqK fun K2 hK2 => ?_
 refine seqK fun K3 hK3 => ?_
 refine region ?_
 refine s0 moveA rfl ?_
 refine s0 (eqNil (TK rfl) rfl rfl) rfl ?_
 refine nil ?_
 refine hK3 _ ?_
 clear hK3 K3
 refine condE hE rfl (fun hc4 hE => ?_) (fun hc4 hE => ?_)
 ·refine seqK fun K5 hK5 => ?_
  refine region ?_
  refine s0 (assignNil (k' := 1) rfl) rfl ?_
  refine nil ?_
  refine hK5 _ ?_
  clear hK5 K5
  refine AWp.ret ?_
  repeat (first | refine xBlock_ret ?_ | refine xThen_ret ?_)
  obtain rfl := Option.some.inj hE
  refine retQ.retF H rfl ⟨rfl, rfl⟩ ?_
  exact (fun _ _ h => h)
 refine AWp.skip ?_
 refine hK2 _ ?_
 clear hK2 K2
 refine seqK fun K6 hK6 => ?_
 refine region ?_
 refine s0 (buildSliceF (TK rfl) rfl (TK rfl) rfl rfl rfl rfl rfl rfl) rfl ?_
 refine s0 moveA rfl ?_
 obtain ⟨x7, gx7, hE⟩ := bindO_some hE
 refine s0 (appFM (f := strE) (TK rfl) rfl (TK rfl) (TK rfl) ⟨_, rfl⟩ rfl rfl (by decide) rfl rfl rfl (by intro q h; cases h <;> decide) rfl rfl gx7) rfl ?_
 refine s0 assignA rfl ?_
 refine nil ?_
 refine hK6 _ ?_
 clear hK6 K6
 refine AWp.ret ?_
 repeat (first | refine xBlock_ret ?_ | refine xThen_ret ?_)
 obtain rfl := Option.some.inj hE
 refine retQ.retF H rfl ⟨rfl, rfl⟩ ?_
 exact (fun _ _ h => h)
def Z93_j3  (s3_4 : (Sl TValue)) : Option (Sl TValue) := some s3_4
def Z93_l8 (a0 : (Sl TValue)) (k_rec_60 : TValue → Option TValue) : Nat → (Sl TValue) → Nat → Option (Sl TValue)
 | 0, _, _ => none
 | n8 + 1, s3_9, s8_10 => bif (decide (((s8_10 : Nat) : Int) < ((a0.l.length : Nat) : Int))) then ((a0.l[s8_10]?).bind fun x16 => (k_rec_60 x16).bind fun x17 => (appC 80 s3_9 (⟨false, [x17]⟩ : Sl TValue)).bind fun x18 => (Z93_l8 a0 k_rec_60 n8) x18 (s8_10 + 1)) else (Z93_j3   s3_9)
mutual
def value_Copy_n : Nat → TValue → Option TValue
 | 0, _ => none
 | n + 1, a0 => ((Z93_n n) a0.FItems).bind fun x3 => (Z77 a0.FKeys).bind fun x5 => some (TValue.mk a0.FKind a0.FInt a0.FText x3.nl x3.l x5)
def Z93_n : Nat → (Sl TValue) → Option (Sl TValue)
 | 0, _ => none
 | n + 1, a0 => Z93_l8 a0 (value_Copy_n n) (a0.l.length + 1) (Sl.nil : Sl TValue) 0
end
theorem value_Copy_step (n : Nat) (ih_60 : ∀ {a0 : TValue}   {r : TValue}, value_Copy_n n a0 = some r → ∀ (H : Heap), ACalls Tryz.prog 60 [.agg (TValue.c a0)] H fun v h' => v = .a (.agg (TValue.c r)) ∧ h' = H) (ih_87 : ∀ {a0 : (Sl TValue)} {w0 : Option Nat}  {r : (Sl TValue)}, Z93_n n a0 = some r → ∀ (H : Heap), ACalls Tryz.prog 87 [.d (Sl.d 5 TValue.c w0 a0)] H fun v h' => v = .a (.d (Sl.d 5 TValue.c none r)) ∧ h' = H) : ∀ {a0 : TValue}   {r : TValue}, value_Copy_n (n + 1) a0 = some r → ∀ (H : Heap), ACalls Tryz.prog 60 [.agg (TValue.c a0)] H fun v h' => v = .a (.agg (TValue.c r)) ∧ h' = H := by
 intro a0   r hE H 
 rw [value_Copy_n] at hE
 refine ACalls.of_wp (fn := Tryz.f60) (c := _) Tryz.tab_ok (fun _ _ => Tryz.call60 _ _) Tryz.func60 rfl (n := 12) rfl (rs := [.cell 2 31]) rfl rfl ?_
 refine seqK fun K1 hK1 => ?_
 refine region ?_
 refine sL (boxL rfl (by repeat (first | exact Snoc.nil | apply Snoc.cons))) rfl ?_
 refine sL (allocLA (TK rfl) rfl) rfl ?_
 refine nil ?_
 refine hK1 _ ?_
 clear hK1 K1
 refine seqK fun K2 hK2 => ?_
 refine region ?_
 refine s0 (fieldL (TK rfl) rfl rfl (TK rfl) rfl rfl) rfl ?_
 refine AOps.relocal 0 (TValue.cu a0) rfl (fun j w cs hh hx => by rw [← TValue.cu_eq]; exact hx) ?_
 refine s0 (loadL (TK rfl) rfl rfl rfl rfl) rfl ?_
 obtain ⟨x3, gx3, hE⟩ := bindO_some hE
 refine s0 (callP rfl rfl (fun H => ih_87 gx3 H)) rfl ?_
 refine s0 (fieldL (TK rfl) rfl rfl (TK rfl) rfl rfl) rfl ?_
 refine sLn (storeL1 (TK rfl) rfl rfl rfl rfl (by repeat (first | exact SetAt.zero | apply SetAt.succ)) (by repeat (first | exact SetAt.zero | apply SetAt.succ))) ?_
 refine AOps.relocal 0 (TValue.c (TValue.mk a0.FKind a0.FInt a0.FText x3.nl x3.l a0.FKeys)) rfl (fun j w cs hh hx => by rw [TValue.cu_eq]; exact hx) ?_
 refine nil ?_
 refine hK2 _ ?_
 clear hK2 K2
 refine seqK fun K4 hK4 => ?_
 refine region ?_
 refine s0 (fieldL (TK rfl) rfl rfl (TK rfl) rfl rfl) rfl ?_
 refine s0 (loadL (TK rfl) rfl rfl rfl rfl) rfl ?_
 obtain ⟨x5, gx5, hE⟩ := bindO_some hE
 refine s0 (callP rfl rfl (fun H => Z77_walk gx5 H)) rfl ?_
 refine s0 (fieldL (TK rfl) rfl rfl (TK rfl) rfl rfl) rfl ?_
 refine AOps.relocal 0 (TValue.cu (TValue.mk a0.FKind a0.FInt a0.FText x3.nl x3.l a0.FKeys)) rfl (fun j w cs hh hx => by rw [← TValue.cu_eq]; exact hx) ?_
 refine sLn (storeL1 (TK rfl) rfl rfl rfl rfl (by repeat (first | exact SetAt.zero | apply SetAt.succ)) (by repeat (first | exact SetAt.zero | apply SetAt.succ))) ?_
 refine AOps.relocal 0 (TValue.c (TValue.mk a0.FKind a0.FInt a0.FText x3.nl x3.l x5)) rfl (fun j w cs hh hx => by rw [TValue.cu_eq]; exact hx) ?_
 refine nil ?_
 refine hK4 _ ?_
 clear hK4 K4
 refine seqK fun K6 hK6 => ?_
 refine region ?_
 refine s0 (loadL (TK rfl) rfl rfl rfl rfl) rfl ?_
 refine sLn (storeLFA (TK rfl) rfl rfl rfl rfl rfl) ?_
 refine nil ?_
 refine hK6 _ ?_
 clear hK6 K6
 refine AWp.ret ?_
 repeat (first | refine xBlock_ret ?_ | refine xThen_ret ?_)
 obtain rfl := Option.some.inj hE
 refine retQ.retF H rfl ⟨rfl, rfl⟩ ?_
 exact (fun _ _ h => h)
theorem Z93_step (n : Nat) (ih_60 : ∀ {a0 : TValue}   {r : TValue}, value_Copy_n n a0 = some r → ∀ (H : Heap), ACalls Tryz.prog 60 [.agg (TValue.c a0)] H fun v h' => v = .a (.agg (TValue.c r)) ∧ h' = H) (ih_87 : ∀ {a0 : (Sl TValue)} {w0 : Option Nat}  {r : (Sl TValue)}, Z93_n n a0 = some r → ∀ (H : Heap), ACalls Tryz.prog 87 [.d (Sl.d 5 TValue.c w0 a0)] H fun v h' => v = .a (.d (Sl.d 5 TValue.c none r)) ∧ h' = H) : ∀ {a0 : (Sl TValue)} {w0 : Option Nat}  {r : (Sl TValue)}, Z93_n (n + 1) a0 = some r → ∀ (H : Heap), ACalls Tryz.prog 87 [.d (Sl.d 5 TValue.c w0 a0)] H fun v h' => v = .a (.d (Sl.d 5 TValue.c none r)) ∧ h' = H := by
 intro a0 w0  r hE H 
 rw [Z93_n] at hE
 refine ACalls.of_wp (fn := Tryz.f87) (c := _) Tryz.tab_ok (fun _ _ => Tryz.call87 _ _) Tryz.func87 rfl (n := 19) rfl (rs := [.tmp 2]) rfl rfl ?_
 refine AWp.tok 5 fun tk1 htk1 => ?_
 refine seqK fun K1 hK1 => ?_
 refine region ?_
 refine s0 (assignNil (k' := 5) rfl) rfl ?_
 refine nil ?_
 refine hK1 _ ?_
 clear hK1 K1
 refine seqK fun K2 hK2 => ?_
 refine region ?_
 refine s0 assignA rfl ?_
 refine nil ?_
 refine hK2 _ ?_
 clear hK2 K2
 refine AWp.nilTok 3 5 tk1 rfl hpG ?_
 refine seqJH KeepsT.nil (fun (z : (Sl TValue)) => [(3, .a (.d (Sl.d 5 TValue.c (some tk1) z)))]) (fun z => (H.set tk1 (some (.tok 5 z.l.length)))) (fun z => Z93_j3 z = some r) ?_ ?_
 ·intro K3 hK3
  refine seqK fun K6 hK6 => ?_
  refine region ?_
  refine s0 moveA rfl ?_
  refine sLen (f := TValue.c) (s := a0) (TK rfl) rfl rfl rfl rfl fun hL7 => ?_
  refine s0 moveA rfl ?_
  refine nil ?_
  refine hK6 _ ?_
  clear hK6 K6
  refine block ?_
  refine loopH (KeepsT.A (k := 6) (KeepsT.A (k := 7) KeepsT.nil)) (fun (z : Nat × (Sl TValue) × Nat) => [(3, .a (.d (Sl.d 5 TValue.c (some tk1) z.2.1))), (8, .a (.d (.int .i64 ((z.2.2 : Nat) : Int))))]) (fun z => (H.set tk1 (some (.tok 5 z.2.1.l.length)))) (fun z => z.1) (fun z => Z93_l8 a0 (value_Copy_n n) z.1 z.2.1 z.2.2 = some r) ((a0.l.length + 1), (Sl.nil : Sl TValue), 0) hE Weak.toA ?_
  rintro ⟨n8, s3_9, s8_10⟩ hE K8 hK8
  try dsimp only at hE
  cases n8 with
  | zero => cases hE
  | succ n8 =>
    rw [Z93_l8] at hE
    refine seqK fun K11 hK11 => ?_
    refine region ?_
    refine s0 (binI rfl rfl rfl) rfl ?_
    refine nil ?_
    refine hK11 _ ?_
    clear hK11 K11
    refine seqK fun K12 hK12 => ?_
    refine condE hE rfl (fun hc13 hE => ?_) (fun hc13 hE => ?_)
    ·try dsimp only at hc13
     have hf13 := of_decide_eq_true hc13
     refine AWp.skip ?_
     refine hK12 _ ?_
     clear hK12 K12
     refine seqK fun K14 hK14 => ?_
     refine block ?_
     refine seqK fun K15 hK15 => ?_
     refine region ?_
     obtain ⟨x16, gx16, hE⟩ := bindO_some hE
     refine s0 (idxMn (f := TValue.c) (n := s8_10) (TK rfl) rfl (TK rfl) rfl rfl rfl gx16) rfl ?_
     refine s0 (loadV (TK rfl) rfl rfl rfl) rfl ?_
     refine sL (allocLA (TK rfl) rfl) rfl ?_
     refine sLn (storeLFA (TK rfl) rfl rfl rfl rfl rfl) ?_
     refine nil ?_
     refine hK15 _ ?_
     clear hK15 K15
     refine freezeA 5 _ rfl (Keeps.c (k := 3) (by conv => lhs; whnf) (by rfl) (Keeps.c (k := 6) (by conv => lhs; whnf) (by rfl) (Keeps.c (k := 7) (by conv => lhs; whnf) (by rfl) (Keeps.c (k := 8) (by conv => lhs; whnf) (by rfl) Keeps.nil)))) ?_
     refine region ?_
     refine s0 moveA rfl ?_
     refine s0 (loadV (TK rfl) rfl rfl rfl) rfl ?_
     obtain ⟨x17, gx17, hE⟩ := bindO_some hE
     refine s0 (callP rfl rfl (fun H => ih_60 gx17 H)) rfl ?_
     refine s0 (buildSlice (TK rfl) rfl (TK rfl) rfl rfl rfl rfl rfl rfl) rfl ?_
     obtain ⟨x18, gx18, hE⟩ := bindO_some hE
     refine sH (appM (f := TValue.c) (TK rfl) rfl (TK rfl) (TK rfl) ⟨_, rfl⟩ rfl rfl (by decide) rfl rfl rfl rfl hpG rfl gx18) rfl ?_
     refine AOps.heq (h' := (H.set tk1 (some (.tok 5 x18.l.length)))) (by first | rfl | (rw [Heap.set_set]; rfl) | (funext n_; simp only [Heap.set]; (repeat' split) <;> first | rfl | (exfalso; simp_all; done) | (simp_all; done))) ?_
     refine s0 assignA rfl ?_
     refine nil ?_
     refine hK14 _ ?_
     clear hK14 K14
     refine region ?_
     refine s0 (addIA rfl rfl) rfl ?_
     refine s0 moveA rfl ?_
     refine nil ?_
     exact hK8 _ (n8, x18, (s8_10 + 1)) Weak.toA hE (Nat.lt_succ_self _)
    refine AWp.exit ?_
    exact hK3 _ s3_9 Weak.toA hE
 rintro s3_4 hE
 try dsimp only at hE
 unfold Z93_j3 at hE
 refine seqK fun K5 hK5 => ?_
 refine region ?_
 refine s0 moveA rfl ?_
 refine s0 assignA rfl ?_
 refine nil ?_
 refine hK5 _ ?_
 clear hK5 K5
 refine AWp.dropTok 2 rfl ?_
 refine AWp.ret ?_
 repeat (first | refine xBlock_ret ?_ | refine xThen_ret ?_)
 obtain rfl := Option.some.inj hE
 refine retQ.retF H rfl ⟨rfl, rfl⟩ ?_
 first | exact Heap.sub_set htk1 | (simp only [Heap.set_set]; exact Heap.sub_set htk1)
theorem value_Copy_all : ∀ (n : Nat), (∀ {a0 : TValue}   {r : TValue}, value_Copy_n n a0 = some r → ∀ (H : Heap), ACalls Tryz.prog 60 [.agg (TValue.c a0)] H fun v h' => v = .a (.agg (TValue.c r)) ∧ h' = H) ∧ (∀ {a0 : (Sl TValue)} {w0 : Option Nat}  {r : (Sl TValue)}, Z93_n n a0 = some r → ∀ (H : Heap), ACalls Tryz.prog 87 [.d (Sl.d 5 TValue.c w0 a0)] H fun v h' => v = .a (.d (Sl.d 5 TValue.c none r)) ∧ h' = H)
 | 0 => ⟨fun hE => by first | cases hE | (rw [value_Copy_n] at hE; cases hE), fun hE => by first | cases hE | (rw [Z93_n] at hE; cases hE)⟩
 | n + 1 => ⟨value_Copy_step n (value_Copy_all n).1 (value_Copy_all n).2, Z93_step n (value_Copy_all n).1 (value_Copy_all n).2⟩
def value_Copy (a0 : TValue) : Option TValue := value_Copy_n F0 a0
theorem value_Copy_walk {a0 : TValue}   {r : TValue} (hE : value_Copy a0 = some r) (H : Heap)  : ACalls Tryz.prog 60 [.agg (TValue.c a0)] H fun v h' => v = .a (.agg (TValue.c r)) ∧ h' = H := (value_Copy_all F0).1 hE H 
def Z82_j2   : Option Int := some (-1 : Int)
def Z82_l6 (a0 : (Sl Bs)) (a1 : Bs)  : Nat → Nat → Option Int
 | 0, _ => none
 | n6 + 1, s8_7 => bif (decide (((s8_7 : Nat) : Int) < ((a0.l.length : Nat) : Int))) then ((a0.l[s8_7]?).bind fun x14 => bif ((a1 == x14)) then (some ((s8_7 : Nat) : Int)) else ((Z82_l6 a0 a1 n6) (s8_7 + 1))) else (Z82_j2   )
def Z82 (a0 : (Sl Bs)) (a1 : Bs) : Option Int := Z82_l6 a0 a1 (a0.l.length + 1) 0
theorem Z82_walk {a0 : (Sl Bs)} {a1 : Bs} {w0 : Option Nat}  {r : Int} (hE : Z82 a0 a1 = some r) (H : Heap)  : ACalls Tryz.prog 74 [.d (Sl.d 1 strE w0 a0), .d (.str a1)] H fun v h' => v = .a (.d (.int .i64 r)) ∧ h' = H := by
 unfold Z82 at hE
 refine ACalls.of_wp (fn := Tryz.f74) (c := _) Tryz.tab_ok (fun _ _ => Tryz.call74 _ _) Tryz.func74 rfl (n := 19) rfl (rs := [.tmp 4]) rfl rfl ?_
 refine seqK fun K1 hK1 => ?_
 refine region ?_
 refine s0 assignA rfl ?_
 refine nil ?_
 refine hK1 _ ?_
 clear hK1 K1
 refine seqJH KeepsT.nil (fun (z : Unit) => []) (fun z => H) (fun z => Z82_j2  = some r) ?_ ?_
 ·intro K2 hK2
  refine seqK fun K4 hK4 => ?_
  refine region ?_
  refine s0 moveA rfl ?_
  refine sLen (f := strE) (s := a0) (TK rfl) rfl rfl rfl rfl fun hL5 => ?_
  refine s0 moveA rfl ?_
  refine nil ?_
  refine hK4 _ ?_
  clear hK4 K4
  refine block ?_
  refine loopH (KeepsT.A (k := 0) (KeepsT.A (k := 1) (KeepsT.A (k := 7) KeepsT.nil))) (fun (z : Nat × Nat) => [(8, .a (.d (.int .i64 ((z.2 : Nat) : Int))))]) (fun z => H) (fun z => z.1) (fun z => Z82_l6 a0 a1 z.1 z.2 = some r) ((a0.l.length + 1), 0) hE Weak.toA ?_
  rintro ⟨n6, s8_7⟩ hE K6 hK6
  try dsimp only at hE
  cases n6 with
  | zero => cases hE
  | succ n6 =>
    rw [Z82_l6] at hE
    refine seqK fun K8 hK8 => ?_
    refine region ?_
    refine s0 (binI rfl rfl rfl) rfl ?_
    refine nil ?_
    refine hK8 _ ?_
    clear hK8 K8
    refine seqK fun K9 hK9 => ?_
    refine condE hE rfl (fun hc10 hE => ?_) (fun hc10 hE => ?_)
    ·try dsimp only at hc10
     have hf10 := of_decide_eq_true hc10
     refine AWp.skip ?_
     refine hK9 _ ?_
     clear hK9 K9
     refine seqK fun K11 hK11 => ?_
     refine block ?_
     refine seqK fun K12 hK12 => ?_
     refine region ?_
     refine s0 moveA rfl ?_
     refine s0 assignA rfl ?_
     refine nil ?_
     refine hK12 _ ?_
     clear hK12 K12
     refine seqK fun K13 hK13 => ?_
     refine region ?_
     refine s0 moveA rfl ?_
     refine s0 moveA rfl ?_
     refine s0 moveA rfl ?_
     obtain ⟨x14, gx14, hE⟩ := bindO_some hE
     refine s0 (idxMn (f := strE) (n := s8_7) (TK rfl) rfl (TK rfl) rfl rfl rfl gx14) rfl ?_
     refine s0 (loadV (TK rfl) rfl rfl rfl) rfl ?_
     refine s0 (binS rfl rfl rfl) rfl ?_
     refine nil ?_
     refine hK13 _ ?_
     clear hK13 K13
     refine condE hE rfl (fun hc15 hE => ?_) (fun hc15 hE => ?_)
     ·refine seqK fun K16 hK16 => ?_
      refine region ?_
      refine s0 moveA rfl ?_
      refine s0 assignA rfl ?_
      refine nil ?_
      refine hK16 _ ?_
      clear hK16 K16
      refine AWp.ret ?_
      repeat (first | refine xBlock_ret ?_ | refine xThen_ret ?_)
      obtain rfl := Option.some.inj hE
      refine retQ.retF H rfl ⟨rfl, rfl⟩ ?_
      exact (fun _ _ h => h)
     refine AWp.skip ?_
     refine hK11 _ ?_
     clear hK11 K11
     refine region ?_
     refine s0 (addIA rfl rfl) rfl ?_
     refine s0 moveA rfl ?_
     refine nil ?_
     exact hK6 _ (n6, (s8_7 + 1)) Weak.toA hE (Nat.lt_succ_self _)
    refine AWp.exit ?_
    exact hK2 _ () Weak.toA hE
 rintro _ hE
 try dsimp only at hE
 unfold Z82_j2 at hE
 refine seqK fun K3 hK3 => ?_
 refine region ?_
 refine s0 assignA rfl ?_
 refine nil ?_
 refine hK3 _ ?_
 clear hK3 K3
 refine AWp.ret ?_
 repeat (first | refine xBlock_ret ?_ | refine xThen_ret ?_)
 obtain rfl := Option.some.inj hE
 refine retQ.retF H rfl ⟨rfl, rfl⟩ ?_
 exact (fun _ _ h => h)
def Z91 (a0 : TValue) (a1 : Bs) : Option (TValue × Bool) := (Z82 a0.FKeys a1).bind fun x3 => bif (((!decide (a0.FKind = (6 : Int))) || (decide (x3 < (0 : Int)))) || (decide (((a0.FItems.l.length : Nat) : Int) ≤ x3))) then (some ((TValue.mk (0 : Int) (0 : Int) ([] : Bs) true ([]) (Sl.nil : Sl Bs)), false)) else ((idxC a0.FItems.l x3).bind fun x9 => (value_Copy x9).bind fun x10 => some (x10, true))
theorem Z91_walk {a0 : TValue} {a1 : Bs}   {r : (TValue × Bool)} (hE : Z91 a0 a1 = some r) (H : Heap)  : ACalls Tryz.prog 48 [.agg (TValue.c a0), .d (.str a1)] H fun v h' => v = .tup [.agg (TValue.c r.1), .d (.bool r.2)] ∧ h' = H := by
 unfold Z91 at hE
 refine ACalls.of_wp (fn := Tryz.f48) (c := _) Tryz.tab_ok (fun _ _ => Tryz.call48 _ _) Tryz.func48 rfl (n := 32) rfl (rs := [.cell 4 31, .tmp 5]) rfl rfl ?_
 refine seqK fun K1 hK1 => ?_
 refine region ?_
 refine s0 (boxV rfl) rfl ?_
 refine sL (allocLA (TK rfl) rfl) rfl ?_
 refine s0 assignA rfl ?_
 refine nil ?_
 refine hK1 _ ?_
 clear hK1 K1
 refine seqK fun K2 hK2 => ?_
 refine region ?_
 refine s0 (fieldVA (TK rfl) rfl rfl (TK rfl) rfl rfl) rfl ?_
 refine s0 (loadV (TK rfl) rfl rfl rfl) rfl ?_
 refine s0 moveA rfl ?_
 obtain ⟨x3, gx3, hE⟩ := bindO_some hE
 refine s0 (callP rfl rfl (fun H => Z82_walk gx3 H)) rfl ?_
 refine s0 assignA rfl ?_
 refine nil ?_
 refine hK2 _ ?_
 clear hK2 K2
 refine seqK fun K4 hK4 => ?_
 refine seqK fun K5 hK5 => ?_
 refine region ?_
 refine s0 (fieldVA (TK rfl) rfl rfl (TK rfl) rfl rfl) rfl ?_
 refine s0 (loadV (TK rfl) rfl rfl rfl) rfl ?_
 refine s0 (binI rfl rfl rfl) rfl ?_
 refine s0 moveA rfl ?_
 refine gC rfl rfl (fun hC => moveA) rfl ?_
 refine gC rfl rfl (fun hC => ungdA (k := 15) rfl (binI rfl rfl rfl)) rfl ?_
 refine s0 (pickOrA rfl rfl rfl) rfl ?_
 refine s0 moveA rfl ?_
 refine gC rfl rfl (fun hC => moveA) rfl ?_
 refine gC rfl rfl (fun hC => fieldVA (TK rfl) rfl rfl (TK rfl) rfl rfl) rfl ?_
 refine gC rfl rfl (fun hC => ungdA (k := 20) rfl (loadV (TK rfl) rfl rfl (congrArg (fun x => some (A.d x)) (TValue.FItemsD_eq _)))) rfl ?_
 refine gC rfl rfl (fun hC => ungdA (k := 21) rfl (lenM' (f := TValue.c) (s := a0.FItems) (TK rfl) rfl rfl rfl)) rfl ?_
 refine gC rfl rfl (fun hC => ungdA (k := 19) rfl (ungdA (k := 22) rfl (binI rfl rfl rfl))) rfl ?_
 refine s0 (pickOrA rfl rfl rfl) rfl ?_
 refine nil ?_
 refine hK5 _ ?_
 clear hK5 K5
 refine condE hE rfl (fun hc6 hE => ?_) (fun hc6 hE => ?_)
 ·refine seqK fun K7 hK7 => ?_
  refine region ?_
  refine s0 (build Tryz.tab_ok rfl rfl rfl rfl rfl rfl) rfl ?_
  refine sLn (storeLFA (TK rfl) rfl rfl rfl rfl rfl) ?_
  refine s0 assignA rfl ?_
  refine nil ?_
  refine hK7 _ ?_
  clear hK7 K7
  refine AWp.ret ?_
  repeat (first | refine xBlock_ret ?_ | refine xThen_ret ?_)
  obtain rfl := Option.some.inj hE
  refine retQ.retF H rfl ⟨rfl, rfl⟩ ?_
  exact (fun _ _ h => h)
 refine AWp.skip ?_
 refine hK4 _ ?_
 clear hK4 K4
 refine seqK fun K8 hK8 => ?_
 refine region ?_
 refine s0 (fieldVA (TK rfl) rfl rfl (TK rfl) rfl rfl) rfl ?_
 refine s0 (loadV (TK rfl) rfl rfl (congrArg (fun x => some (A.d x)) (TValue.FItemsD_eq _))) rfl ?_
 refine s0 moveA rfl ?_
 obtain ⟨x9, gx9, hE⟩ := bindO_some hE
 refine s0 (idxM (f := TValue.c) (TK rfl) rfl (TK rfl) rfl rfl rfl gx9) rfl ?_
 refine s0 (loadV (TK rfl) rfl rfl rfl) rfl ?_
 obtain ⟨x10, gx10, hE⟩ := bindO_some hE
 refine s0 (callP rfl rfl (fun H => value_Copy_walk gx10 H)) rfl ?_
 refine sLn (storeLFA (TK rfl) rfl rfl rfl rfl rfl) ?_
 refine s0 assignA rfl ?_
 refine nil ?_
 refine hK8 _ ?_
 clear hK8 K8
 refine AWp.ret ?_
 repeat (first | refine xBlock_ret ?_ | refine xThen_ret ?_)
 obtain rfl := Option.some.inj hE
 refine retQ.retF H rfl ⟨rfl, rfl⟩ ?_
 exact (fun _ _ h => h)
def Z10 (a0 : Coerce_coercer) (a1 : TValue) : Option Bool := bif ((!decide (a1.FKind = (7 : Int))) || (!a0.Fliteral)) then (some false) else ((Z91 a0.Fvars a1.FText).bind fun x7 => some (!x7.2))
theorem Z10_walk {a0 : Coerce_coercer} {a1 : TValue}  {c0 : Nat} {r : Bool} (hE : Z10 a0 a1 = some r) (H : Heap) (hc0 : H c0 = some (.cells (Coerce_coercer.c a0))) : ACalls Tryz.prog 29 [.d (.ptr c0 0), .agg (TValue.c a1)] H fun v h' => v = .a (.d (.bool r)) ∧ h' = H := by
 unfold Z10 at hE
 refine ACalls.of_wp (fn := Tryz.f29) (c := _) Tryz.tab_ok (fun _ _ => Tryz.call29 _ _) Tryz.func29 rfl (n := 29) rfl (rs := [.tmp 4]) rfl rfl ?_
 refine seqK fun K1 hK1 => ?_
 refine region ?_
 refine s0 (boxV rfl) rfl ?_
 refine s0 assignA rfl ?_
 refine nil ?_
 refine hK1 _ ?_
 clear hK1 K1
 refine seqK fun K2 hK2 => ?_
 refine seqK fun K3 hK3 => ?_
 refine region ?_
 refine s0 (fieldVA (TK rfl) rfl rfl (TK rfl) rfl rfl) rfl ?_
 refine s0 (loadV (TK rfl) rfl rfl rfl) rfl ?_
 refine s0 (binI rfl rfl rfl) rfl ?_
 refine s0 moveA rfl ?_
 refine gC rfl rfl (fun hC => moveA) rfl ?_
 refine gC rfl rfl (fun hC => ungdA (k := 11) rfl (nilP rfl)) rfl ?_
 refine gC rfl rfl (fun hC => ungdA (k := 12) rfl (fieldP (TK rfl) rfl rfl (TK rfl) rfl rfl)) rfl ?_
 refine gC rfl rfl (fun hC => ungdA (k := 13) rfl (loadP (TK rfl) rfl rfl hpG rfl)) rfl ?_
 refine gC rfl rfl (fun hC => ungdA (k := 14) rfl (notB rfl)) rfl ?_
 refine s0 (pickOrA rfl rfl rfl) rfl ?_
 refine nil ?_
 refine hK3 _ ?_
 clear hK3 K3
 refine condE hE rfl (fun hc4 hE => ?_) (fun hc4 hE => ?_)
 ·refine seqK fun K5 hK5 => ?_
  refine region ?_
  refine s0 assignA rfl ?_
  refine nil ?_
  refine hK5 _ ?_
  clear hK5 K5
  refine AWp.ret ?_
  repeat (first | refine xBlock_ret ?_ | refine xThen_ret ?_)
  obtain rfl := Option.some.inj hE
  refine retQ.retF H rfl ⟨rfl, rfl⟩ ?_
  exact (fun _ _ h => h)
 refine AWp.skip ?_
 refine hK2 _ ?_
 clear hK2 K2
 refine seqK fun K6 hK6 => ?_
 refine AWp.draw rfl ?_
 refine DOps.s0 moveA rfl ?_
 refine DOps.s0 (nilP rfl) rfl ?_
 refine DOps.s0 (fieldP (TK rfl) rfl rfl (TK rfl) rfl rfl) rfl ?_
 refine DOps.s0 (loadP (TK rfl) rfl rfl hpG rfl) rfl ?_
 refine DOps.s0 (fieldVA (TK rfl) rfl rfl (TK rfl) rfl rfl) rfl ?_
 refine DOps.s0 (loadV (TK rfl) rfl rfl rfl) rfl ?_
 obtain ⟨x7, gx7, hE⟩ := bindO_some hE
 refine DOps.s0 (callP rfl rfl (fun H => Z91_walk gx7 H)) rfl ?_
 refine DOps.s0 moveA rfl ?_
 refine DOps.s0 (extract rfl rfl) rfl ?_
 refine DOps.s0 (extract rfl rfl) rfl ?_
 refine DOps.sB (TK rfl) rfl rfl ?_ (by repeat (first | exact Snoc.nil | apply Snoc.cons))
 refine DOps.sLn (storeLFA (TK rfl) rfl rfl rfl rfl rfl) ?_
 refine DOps.s0 assignA rfl ?_
 refine DOps.nil (by decide +kernel) ?_
 refine hK6 _ ?_
 clear hK6 K6
 refine freezeA 5 _ rfl (Keeps.c (k := 6) (by conv => lhs; whnf) (by rfl) Keeps.nil) ?_
 refine seqK fun K8 hK8 => ?_
 refine region ?_
 refine s0 moveA rfl ?_
 refine s0 (notB rfl) rfl ?_
 refine s0 assignA rfl ?_
 refine nil ?_
 refine hK8 _ ?_
 clear hK8 K8
 refine AWp.ret ?_
 repeat (first | refine xBlock_ret ?_ | refine xThen_ret ?_)
 obtain rfl := Option.some.inj hE
 refine retQ.retF H rfl ⟨rfl, rfl⟩ ?_
 exact (fun _ _ h => h)
def Z70_j2  (y3_l0 : TDef) : Option (TDef × Bool) := some ((TDef.mk (0 : Int) ([] : Bs) (Sl.nil : Sl Bs) (Sl.nil : Sl TDir) (Sl.nil : Sl TField) (Sl.nil : Sl TMember) (Sl.nil : Sl TInput)), false)
def Z70_l7 (a0 : TDoc) (a1 : Bs)  : Nat → Nat → TDef → Option (TDef × Bool)
 | 0, _, _ => none
 | n7 + 1, s11_8, y9_l0 => bif (decide (((s11_8 : Nat) : Int) < ((a0.FDefs.l.length : Nat) : Int))) then ((a0.FDefs.l[s11_8]?).bind fun x15 => bif ((x15.FName == a1)) then (some (x15, true)) else ((Z70_l7 a0 a1 n7) (s11_8 + 1) y9_l0)) else (Z70_j2   y9_l0)
def Z70 (a0 : TDoc) (a1 : Bs) : Option (TDef × Bool) := Z70_l7 a0 a1 (a0.FDefs.l.length + 1) 0 TDef.zero
theorem Z70_walk {a0 : TDoc} {a1 : Bs}   {r : (TDef × Bool)} (hE : Z70 a0 a1 = some r) (H : Heap)  : ACalls Tryz.prog 65 [.agg (TDoc.c a0), .d (.str a1)] H fun v h' => v = .tup [.agg (TDef.c r.1), .d (.bool r.2)] ∧ h' = H := by
 unfold Z70 at hE
 refine ACalls.of_wp (fn := Tryz.f65) (c := _) Tryz.tab_ok (fun _ _ => Tryz.call65 _ _) Tryz.func65 rfl (n := 22) rfl (rs := [.cell 4 73, .tmp 5]) rfl rfl ?_
 refine seqK fun K1 hK1 => ?_
 refine region ?_
 refine s0 (boxV rfl) rfl ?_
 refine sL (allocLA (TK rfl) rfl) rfl ?_
 refine s0 assignA rfl ?_
 refine nil ?_
 refine hK1 _ ?_
 clear hK1 K1
 refine seqJ (KeepsT.A (k := 4) KeepsT.nil) (fun (z : TDef) => []) (fun z => [TDef.c z]) (fun z => H) (fun z => Z70_j2 z = some r) ?_ ?_
 ·intro K2 hK2
  refine seqK fun K5 hK5 => ?_
  refine region ?_
  refine s0 (fieldVA (TK rfl) rfl rfl (TK rfl) rfl rfl) rfl ?_
  refine s0 (loadV (TK rfl) rfl rfl rfl) rfl ?_
  refine sLen (f := TDef.c) (s := a0.FDefs) (TK rfl) rfl rfl rfl rfl fun hL6 => ?_
  refine s0 moveA rfl ?_
  refine nil ?_
  refine hK5 _ ?_
  clear hK5 K5
  refine block ?_
  refine loopO (KeepsT.A (k := 1) (KeepsT.A (k := 4) (KeepsT.A (k := 9) (KeepsT.A (k := 10) KeepsT.nil)))) (fun (z : Nat × Nat × TDef) => [(11, .a (.d (.int .i64 ((z.2.1 : Nat) : Int))))]) (fun z => [TDef.c z.2.2]) (fun z => H) (fun z => z.1) (fun z => Z70_l7 a0 a1 z.1 z.2.1 z.2.2 = some r) ((a0.FDefs.l.length + 1), 0, TDef.zero) hE Weak.toA ?_
  rintro ⟨n7, s11_8, y9_l0⟩ hE K7 hK7
  try dsimp only at hE
  cases n7 with
  | zero => cases hE
  | succ n7 =>
    rw [Z70_l7] at hE
    refine seqK fun K10 hK10 => ?_
    refine region ?_
    refine s0 (binI rfl rfl rfl) rfl ?_
    refine nil ?_
    refine hK10 _ ?_
    clear hK10 K10
    refine seqK fun K11 hK11 => ?_
    refine condE hE rfl (fun hc12 hE => ?_) (fun hc12 hE => ?_)
    ·try dsimp only at hc12
     have hf12 := of_decide_eq_true hc12
     refine AWp.skip ?_
     refine hK11 _ ?_
     clear hK11 K11
     refine seqK fun K13 hK13 => ?_
     refine block ?_
     refine seqK fun K14 hK14 => ?_
     refine region ?_
     obtain ⟨x15, gx15, hE⟩ := bindO_some hE
     refine s0 (idxMn (f := TDef.c) (n := s11_8) (TK rfl) rfl (TK rfl) rfl rfl rfl gx15) rfl ?_
     refine s0 (loadV (TK rfl) rfl rfl rfl) rfl ?_
     refine sL (allocLA (TK rfl) rfl) rfl ?_
     refine sLn (storeLFA (TK rfl) rfl rfl rfl rfl rfl) ?_
     refine nil ?_
     refine hK14 _ ?_
     clear hK14 K14
     refine freezeA 7 _ rfl (Keeps.c (k := 1) (by conv => lhs; whnf) (by rfl) (Keeps.c (k := 4) (by conv => lhs; whnf) (by rfl) (Keeps.c (k := 9) (by conv => lhs; whnf) (by rfl) (Keeps.c (k := 10) (by conv => lhs; whnf) (by rfl) (Keeps.c (k := 11) (by conv => lhs; whnf) (by rfl) Keeps.nil))))) ?_
     refine seqK fun K16 hK16 => ?_
     refine region ?_
     refine s0 (fieldVA (TK rfl) rfl rfl (TK rfl) rfl rfl) rfl ?_
     refine s0 (loadV (TK rfl) rfl rfl rfl) rfl ?_
     refine s0 moveA rfl ?_
     refine s0 (binS rfl rfl rfl) rfl ?_
     refine nil ?_
     refine hK16 _ ?_
     clear hK16 K16
     refine condE hE rfl (fun hc17 hE => ?_) (fun hc17 hE => ?_)
     ·refine seqK fun K18 hK18 => ?_
      refine region ?_
      refine s0 (loadV (TK rfl) rfl rfl rfl) rfl ?_
      refine sLn (storeLFA (TK rfl) rfl rfl rfl rfl rfl) ?_
      refine s0 assignA rfl ?_
      refine nil ?_
      refine hK18 _ ?_
      clear hK18 K18
      refine AWp.ret ?_
      repeat (first | refine xBlock_ret ?_ | refine xThen_ret ?_)
      obtain rfl := Option.some.inj hE
      refine retQ.retF H rfl ⟨rfl, rfl⟩ ?_
      exact (fun _ _ h => h)
     refine AWp.skip ?_
     refine hK13 _ ?_
     clear hK13 K13
     refine region ?_
     refine s0 (addIA rfl rfl) rfl ?_
     refine s0 moveA rfl ?_
     refine nil ?_
     exact hK7 _ (n7, (s11_8 + 1), y9_l0) Weak.toA hE (Nat.lt_succ_self _)
    refine AWp.exit ?_
    exact hK2 _ y9_l0 Weak.toA hE
 rintro y3_l0 hE
 try dsimp only at hE
 unfold Z70_j2 at hE
 refine seqK fun K4 hK4 => ?_
 refine region ?_
 refine s0 (build Tryz.tab_ok rfl rfl rfl rfl rfl rfl) rfl ?_
 refine sLn (storeLFA (TK rfl) rfl rfl rfl rfl rfl) ?_
 refine s0 assignA rfl ?_
 refine nil ?_
 refine hK4 _ ?_
 clear hK4 K4
 refine AWp.ret ?_
 repeat (first | refine xBlock_ret ?_ | refine xThen_ret ?_)
 obtain rfl := Option.some.inj hE
 refine retQ.retF H rfl ⟨rfl, rfl⟩ ?_
 exact (fun _ _ h => h)
def Z75 (a0 : TDoc) (a1 : Bs) : Option Int := (Z70 a0 a1).bind fun x3 => some x3.1.FKind
theorem Z75_walk {a0 : TDoc} {a1 : Bs}   {r : Int} (hE : Z75 a0 a1 = some r) (H : Heap)  : ACalls Tryz.prog 59 [.agg (TDoc.c a0), .d (.str a1)] H fun v h' => v = .a (.d (.int .i64 r)) ∧ h' = H := by
 unfold Z75 at hE
 refine ACalls.of_wp (fn := Tryz.f59) (c := _) Tryz.tab_ok (fun _ _ => Tryz.call59 _ _) Tryz.func59 rfl (n := 15) rfl (rs := [.tmp 4]) rfl rfl ?_
 refine seqK fun K1 hK1 => ?_
 refine region ?_
 refine s0 (boxV rfl) rfl ?_
 refine s0 assignA rfl ?_
 refine nil ?_
 refine hK1 _ ?_
 clear hK1 K1
 refine seqK fun K2 hK2 => ?_
 refine region ?_
 refine s0 (loadV (TK rfl) rfl rfl rfl) rfl ?_
 refine s0 moveA rfl ?_
 obtain ⟨x3, gx3, hE⟩ := bindO_some hE
 refine s0 (callP rfl rfl (fun H => Z70_walk gx3 H)) rfl ?_
 refine s0 moveA rfl ?_
 refine s0 (extract rfl rfl) rfl ?_
 refine s0 (extract rfl rfl) rfl ?_
 refine sL (allocLA (TK rfl) rfl) rfl ?_
 refine sLn (storeLFA (TK rfl) rfl rfl rfl rfl rfl) ?_
 refine s0 assignA rfl ?_
 refine nil ?_
 refine hK2 _ ?_
 clear hK2 K2
 refine freezeA 5 _ rfl Keeps.nil ?_
 refine seqK fun K4 hK4 => ?_
 refine region ?_
 refine s0 (fieldVA (TK rfl) rfl rfl (TK rfl) rfl rfl) rfl ?_
 refine s0 (loadV (TK rfl) rfl rfl rfl) rfl ?_
 refine s0 assignA rfl ?_
 refine nil ?_
 refine hK4 _ ?_
 clear hK4 K4
 refine AWp.ret ?_
 repeat (first | refine xBlock_ret ?_ | refine xThen_ret ?_)
 obtain rfl := Option.some.inj hE
 refine retQ.retF H rfl ⟨rfl, rfl⟩ ?_
 exact (fun _ _ h => h)
end Go.Proofs

namespace Go.Proofs
open Go Go.Ab
open AOps Cert AWp
def Z74 (a0 : Bs) : Option Bool := some (((((a0 == ([73, 110, 116] : Bs))) || ((a0 == ([83, 116, 114, 105, 110, 103] : Bs)))) || ((a0 == ([66, 111, 111, 108, 101, 97, 110] : Bs)))) || ((a0 == ([73, 68] : Bs))))
theorem Z74_walk {a0 : Bs}   {r : Bool} (hE : Z74 a0 = some r) (H : Heap)  : ACalls Tryz.prog 66 [.d (.str a0)] H fun v h' => v = .a (.d (.bool r)) ∧ h' = H := by
 unfold Z74 at hE
 refine ACalls.of_wp (fn := Tryz.f66) (c := _) Tryz.tab_ok (fun _ _ => Tryz.call66 _ _) Tryz.func66 rfl (n := 17) rfl (rs := [.tmp 2]) rfl rfl ?_
 refine seqK fun K1 hK1 => ?_
 refine region ?_
 refine s0 assignA rfl ?_
 refine nil ?_
 refine hK1 _ ?_
 clear hK1 K1
 refine seqK fun K2 hK2 => ?_
 refine region ?_
 refine s0 moveA rfl ?_
 refine s0 (binS rfl rfl rfl) rfl ?_
 refine s0 moveA rfl ?_
 refine gC rfl rfl (fun hC => moveA) rfl ?_
 refine gC rfl rfl (fun hC => ungdA (k := 6) rfl (binS rfl rfl rfl)) rfl ?_
 refine s0 (pickOrA rfl rfl rfl) rfl ?_
 refine s0 moveA rfl ?_
 refine gC rfl rfl (fun hC => moveA) rfl ?_
 refine gC rfl rfl (fun hC => ungdA (k := 10) rfl (binS rfl rfl rfl)) rfl ?_
 refine s0 (pickOrA rfl rfl rfl) rfl ?_
 refine s0 moveA rfl ?_
 refine gC rfl rfl (fun hC => moveA) rfl ?_
 refine gC rfl rfl (fun hC => ungdA (k := 14) rfl (binS rfl rfl rfl)) rfl ?_
 refine s0 (pickOrA rfl rfl rfl) rfl ?_
 refine s0 assignA rfl ?_
 refine nil ?_
 refine hK2 _ ?_
 clear hK2 K2
 refine AWp.ret ?_
 repeat (first | refine xBlock_ret ?_ | refine xThen_ret ?_)
 obtain rfl := Option.some.inj hE
 refine retQ.retF H rfl ⟨rfl, rfl⟩ ?_
 exact (fun _ _ h => h)
def Z73 (a0 : TDoc) (a1 : Bs) : Option Bool := (Z74 a1).bind fun x3 => guardO (!x3) (Z75 a0 a1) (0 : Int) fun x4 => some (x3 || (decide (x4 = (4 : Int))))
theorem Z73_walk {a0 : TDoc} {a1 : Bs}   {r : Bool} (hE : Z73 a0 a1 = some r) (H : Heap)  : ACalls Tryz.prog 58 [.agg (TDoc.c a0), .d (.str a1)] H fun v h' => v = .a (.d (.bool r)) ∧ h' = H := by
 unfold Z73 at hE
 refine ACalls.of_wp (fn := Tryz.f58) (c := _) Tryz.tab_ok (fun _ _ => Tryz.call58 _ _) Tryz.func58 rfl (n := 13) rfl (rs := [.tmp 4]) rfl rfl ?_
 refine seqK fun K1 hK1 => ?_
 refine region ?_
 refine s0 (boxV rfl) rfl ?_
 refine s0 assignA rfl ?_
 refine nil ?_
 refine hK1 _ ?_
 clear hK1 K1
 refine seqK fun K2 hK2 => ?_
 refine region ?_
 refine s0 moveA rfl ?_
 obtain ⟨x3, gx3, hE⟩ := bindO_some hE
 refine s0 (callP rfl rfl (fun H => Z74_walk gx3 H)) rfl ?_
 refine s0 moveA rfl ?_
 refine gC rfl rfl (fun hC => loadV (TK rfl) rfl rfl rfl) rfl ?_
 refine gC rfl rfl (fun hC => moveA) rfl ?_
 obtain ⟨x4, gx4, hE⟩ := guardO_some hE
 refine gC rfl rfl (fun hC => ungdA (k := 8) rfl (ungdA (k := 9) rfl (callP rfl rfl (fun H => Z75_walk (gx4 hC) H)))) rfl ?_
 refine gC rfl rfl (fun hC => ungdA (k := 10) rfl (binI rfl rfl rfl)) rfl ?_
 refine s0 (pickOrA rfl rfl rfl) rfl ?_
 refine s0 assignA rfl ?_
 refine nil ?_
 refine hK2 _ ?_
 clear hK2 K2
 refine AWp.ret ?_
 repeat (first | refine xBlock_ret ?_ | refine xThen_ret ?_)
 obtain rfl := Option.some.inj hE
 refine retQ.retF H rfl ⟨rfl, rfl⟩ ?_
 exact (fun _ _ h => h)
def Z72 (a0 : TDoc) (a1 : Bs) : Option Bool := (Z73 a0 a1).bind fun x3 => guardO (!x3) (Z75 a0 a1) (0 : Int) fun x4 => some (x3 || (decide (x4 = (5 : Int))))
theorem Z72_walk {a0 : TDoc} {a1 : Bs}   {r : Bool} (hE : Z72 a0 a1 = some r) (H : Heap)  : ACalls Tryz.prog 30 [.agg (TDoc.c a0), .d (.str a1)] H fun v h' => v = .a (.d (.bool r)) ∧ h' = H := by
 unfold Z72 at hE
 refine ACalls.of_wp (fn := Tryz.f30) (c := _) Tryz.tab_ok (fun _ _ => Tryz.call30 _ _) Tryz.func30 rfl (n := 14) rfl (rs := [.tmp 4]) rfl rfl ?_
 refine seqK fun K1 hK1 => ?_
 refine region ?_
 refine s0 (boxV rfl) rfl ?_
 refine s0 assignA rfl ?_
 refine nil ?_
 refine hK1 _ ?_
 clear hK1 K1
 refine seqK fun K2 hK2 => ?_
 refine region ?_
 refine s0 (loadV (TK rfl) rfl rfl rfl) rfl ?_
 refine s0 moveA rfl ?_
 obtain ⟨x3, gx3, hE⟩ := bindO_some hE
 refine s0 (callP rfl rfl (fun H => Z73_walk gx3 H)) rfl ?_
 refine s0 moveA rfl ?_
 refine gC rfl rfl (fun hC => loadV (TK rfl) rfl rfl rfl) rfl ?_
 refine gC rfl rfl (fun hC => moveA) rfl ?_
 obtain ⟨x4, gx4, hE⟩ := guardO_some hE
 refine gC rfl rfl (fun hC => ungdA (k := 9) rfl (ungdA (k := 10) rfl (callP rfl rfl (fun H => Z75_walk (gx4 hC) H)))) rfl ?_
 refine gC rfl rfl (fun hC => ungdA (k := 11) rfl (binI rfl rfl rfl)) rfl ?_
 refine s0 (pickOrA rfl rfl rfl) rfl ?_
 refine s0 assignA rfl ?_
 refine nil ?_
 refine hK2 _ ?_
 clear hK2 K2
 refine AWp.ret ?_
 repeat (first | refine xBlock_ret ?_ | refine xThen_ret ?_)
 obtain rfl := Option.some.inj hE
 refine retQ.retF H rfl ⟨rfl, rfl⟩ ?_
 exact (fun _ _ h => h)
def Z14 (a0 : TValue) (a1 : Int) : Option (TValue × Int) := bif (!decide (a1 = (0 : Int))) then (some ((TValue.mk (0 : Int) (0 : Int) ([] : Bs) true ([]) (Sl.nil : Sl Bs)), a1)) else ((value_Copy a0).bind fun x7 => some (x7, (0 : Int)))
theorem Z14_walk {a0 : TValue} {a1 : Int}   {r : (TValue × Int)} (hE : Z14 a0 a1 = some r) (H : Heap)  : ACalls Tryz.prog 31 [.agg (TValue.c a0), .d (.int .i64 a1)] H fun v h' => v = .tup [.agg (TValue.c r.1), .d (.int .i64 r.2)] ∧ h' = H := by
 unfold Z14 at hE
 refine ACalls.of_wp (fn := Tryz.f31) (c := _) Tryz.tab_ok (fun _ _ => Tryz.call31 _ _) Tryz.func31 rfl (n := 12) rfl (rs := [.cell 4 31, .tmp 5]) rfl rfl ?_
 refine seqK fun K1 hK1 => ?_
 refine region ?_
 refine s0 (boxV rfl) rfl ?_
 refine sL (allocLA (TK rfl) rfl) rfl ?_
 refine s0 assignA rfl ?_
 refine nil ?_
 refine hK1 _ ?_
 clear hK1 K1
 refine seqK fun K2 hK2 => ?_
 refine seqK fun K3 hK3 => ?_
 refine region ?_
 refine s0 moveA rfl ?_
 refine s0 (binI rfl rfl rfl) rfl ?_
 refine nil ?_
 refine hK3 _ ?_
 clear hK3 K3
 refine condE hE rfl (fun hc4 hE => ?_) (fun hc4 hE => ?_)
 ·refine seqK fun K5 hK5 => ?_
  refine region ?_
  refine s0 (build Tryz.tab_ok rfl rfl rfl rfl rfl rfl) rfl ?_
  refine s0 moveA rfl ?_
  refine sLn (storeLFA (TK rfl) rfl rfl rfl rfl rfl) ?_
  refine s0 assignA rfl ?_
  refine nil ?_
  refine hK5 _ ?_
  clear hK5 K5
  refine AWp.ret ?_
  repeat (first | refine xBlock_ret ?_ | refine xThen_ret ?_)
  obtain rfl := Option.some.inj hE
  refine retQ.retF H rfl ⟨rfl, rfl⟩ ?_
  exact (fun _ _ h => h)
 refine AWp.skip ?_
 refine hK2 _ ?_
 clear hK2 K2
 refine seqK fun K6 hK6 => ?_
 refine region ?_
 refine s0 (loadV (TK rfl) rfl rfl rfl) rfl ?_
 obtain ⟨x7, gx7, hE⟩ := bindO_some hE
 refine s0 (callP rfl rfl (fun H => value_Copy_walk gx7 H)) rfl ?_
 refine sLn (storeLFA (TK rfl) rfl rfl rfl rfl rfl) ?_
 refine s0 assignA rfl ?_
 refine nil ?_
 refine hK6 _ ?_
 clear hK6 K6
 refine AWp.ret ?_
 repeat (first | refine xBlock_ret ?_ | refine xThen_ret ?_)
 obtain rfl := Option.some.inj hE
 refine retQ.retF H rfl ⟨rfl, rfl⟩ ?_
 exact (fun _ _ h => h)
def Z89 (a0 : TRef) : Option Bool := guardO ((decide ((0 : Int) < ((a0.FWraps.l.length : Nat) : Int)))) (a0.FWraps.l[0]?) (0 : Int) fun x4 => some ((decide ((0 : Int) < ((a0.FWraps.l.length : Nat) : Int))) && (decide (x4 = (1 : Int))))
theorem Z89_walk {a0 : TRef}   {r : Bool} (hE : Z89 a0 = some r) (H : Heap)  : ACalls Tryz.prog 41 [.agg (TRef.c a0)] H fun v h' => v = .a (.d (.bool r)) ∧ h' = H := by
 unfold Z89 at hE
 refine ACalls.of_wp (fn := Tryz.f41) (c := _) Tryz.tab_ok (fun _ _ => Tryz.call41 _ _) Tryz.func41 rfl (n := 14) rfl (rs := [.tmp 2]) rfl rfl ?_
 refine seqK fun K1 hK1 => ?_
 refine region ?_
 refine s0 (boxV rfl) rfl ?_
 refine s0 assignA rfl ?_
 refine nil ?_
 refine hK1 _ ?_
 clear hK1 K1
 refine seqK fun K2 hK2 => ?_
 refine region ?_
 refine s0 (fieldVA (TK rfl) rfl rfl (TK rfl) rfl rfl) rfl ?_
 refine s0 (loadV (TK rfl) rfl rfl rfl) rfl ?_
 refine sLen (f := (intE .i64)) (s := a0.FWraps) (TK rfl) rfl rfl rfl rfl fun hL3 => ?_
 refine s0 (binI rfl rfl rfl) rfl ?_
 refine s0 moveA rfl ?_
 refine gC rfl rfl (fun hC => fieldVA (TK rfl) rfl rfl (TK rfl) rfl rfl) rfl ?_
 refine gC rfl rfl (fun hC => ungdA (k := 8) rfl (loadV (TK rfl) rfl rfl rfl)) rfl ?_
 obtain ⟨x4, gx4, hE⟩ := guardO_some hE
 refine gC rfl rfl (fun hC => ungdA (k := 9) rfl (idxMn (f := (intE .i64)) (n := 0) (TK rfl) rfl (TK rfl) rfl rfl rfl (gx4 hC))) rfl ?_
 refine gC rfl rfl (fun hC => ungdA (k := 10) rfl (loadV (TK rfl) rfl rfl rfl)) rfl ?_
 refine gC rfl rfl (fun hC => ungdA (k := 11) rfl (binI rfl rfl rfl)) rfl ?_
 refine s0 (pickAndA rfl rfl rfl) rfl ?_
 refine s0 assignA rfl ?_
 refine nil ?_
 refine hK2 _ ?_
 clear hK2 K2
 refine AWp.ret ?_
 repeat (first | refine xBlock_ret ?_ | refine xThen_ret ?_)
 obtain rfl := Option.some.inj hE
 refine retQ.retF H rfl ⟨rfl, rfl⟩ ?_
 exact (fun _ _ h => h)
def Z7 (a0 : Coerce_coercer) (a1 : Int) : Option (Int × Coerce_coercer) := bif (decide ((24 : Int) < a1)) then (some ((5 : Int), a0)) else ((addC a0.Fnodes (1 : Int)).bind fun x7 => bif (decide ((4096 : Int) < x7)) then (some ((4 : Int), (Coerce_coercer.mk a0.Fd a0.Fvars a0.Fliteral x7))) else (some ((0 : Int), (Coerce_coercer.mk a0.Fd a0.Fvars a0.Fliteral x7))))
theorem Z7_walk {a0 : Coerce_coercer} {a1 : Int}  {c0 : Nat} {r : (Int × Coerce_coercer)} (hE : Z7 a0 a1 = some r) (H : Heap) (hc0 : H c0 = some (.cells (Coerce_coercer.c a0))) : ACalls Tryz.prog 62 [.d (.ptr c0 0), .d (.int .i64 a1)] H fun v h' => v = .a (.d (.int .i64 r.1)) ∧ h' = (H.set c0 (some (.cells (Coerce_coercer.c r.2)))) := by
 unfold Z7 at hE
 refine ACalls.of_wp (fn := Tryz.f62) (c := _) Tryz.tab_ok (fun _ _ => Tryz.call62 _ _) Tryz.func62 rfl (n := 19) rfl (rs := [.tmp 4]) rfl rfl ?_
 refine AWp.heqA (h' := (H.set c0 (some (.cells (Coerce_coercer.c a0))))) (by funext n_; simp only [Heap.set]; (repeat' split) <;> simp_all) ?_
 refine seqK fun K1 hK1 => ?_
 refine region ?_
 refine s0 assignA rfl ?_
 refine nil ?_
 refine hK1 _ ?_
 clear hK1 K1
 refine seqK fun K2 hK2 => ?_
 refine seqK fun K3 hK3 => ?_
 refine region ?_
 refine s0 moveA rfl ?_
 refine s0 (binI rfl rfl rfl) rfl ?_
 refine nil ?_
 refine hK3 _ ?_
 clear hK3 K3
 refine condE hE rfl (fun hc4 hE => ?_) (fun hc4 hE => ?_)
 ·refine seqK fun K5 hK5 => ?_
  refine region ?_
  refine s0 assignA rfl ?_
  refine nil ?_
  refine hK5 _ ?_
  clear hK5 K5
  refine AWp.ret ?_
  repeat (first | refine xBlock_ret ?_ | refine xThen_ret ?_)
  obtain rfl := Option.some.inj hE
  refine retQ.retF (H.set c0 (some (.cells (Coerce_coercer.c a0)))) rfl ⟨rfl, rfl⟩ ?_
  exact (fun _ _ h => h)
 refine AWp.skip ?_
 refine hK2 _ ?_
 clear hK2 K2
 refine seqK fun K6 hK6 => ?_
 refine region ?_
 refine s0 moveA rfl ?_
 refine s0 (nilP rfl) rfl ?_
 refine s0 (fieldP (TK rfl) rfl rfl (TK rfl) rfl rfl) rfl ?_
 refine s0 (loadP (TK rfl) rfl rfl hpG rfl) rfl ?_
 obtain ⟨x7, gx7, hE⟩ := bindO_some hE
 refine s0 (addM rfl rfl gx7) rfl ?_
 refine s0 (nilP rfl) rfl ?_
 refine s0 (fieldP (TK rfl) rfl rfl (TK rfl) rfl rfl) rfl ?_
 refine sHn (storeP1 (TK rfl) rfl rfl hpG rfl (by repeat (first | exact SetAt.zero | apply SetAt.succ))) rfl rfl ?_
 refine AOps.heq (h' := (H.set c0 (some (.cells (Coerce_coercer.c (Coerce_coercer.mk a0.Fd a0.Fvars a0.Fliteral x7)))))) (by first | rfl | (rw [Heap.set_set]; rfl) | (funext n_; simp only [Heap.set]; (repeat' split) <;> first | rfl | (exfalso; simp_all; done) | (simp_all; done))) ?_
 refine nil ?_
 refine hK6 _ ?_
 clear hK6 K6
 refine seqK fun K8 hK8 => ?_
 refine seqK fun K9 hK9 => ?_
 refine region ?_
 refine s0 moveA rfl ?_
 refine s0 (nilP rfl) rfl ?_
 refine s0 (fieldP (TK rfl) rfl rfl (TK rfl) rfl rfl) rfl ?_
 refine s0 (loadP (TK rfl) rfl rfl hpG rfl) rfl ?_
 refine s0 (binI rfl rfl rfl) rfl ?_
 refine nil ?_
 refine hK9 _ ?_
 clear hK9 K9
 refine condE hE rfl (fun hc10 hE => ?_) (fun hc10 hE => ?_)
 ·refine seqK fun K11 hK11 => ?_
  refine region ?_
  refine s0 assignA rfl ?_
  refine nil ?_
  refine hK11 _ ?_
  clear hK11 K11
  refine AWp.ret ?_
  repeat (first | refine xBlock_ret ?_ | refine xThen_ret ?_)
  obtain rfl := Option.some.inj hE
  refine retQ.retF (H.set c0 (some (.cells (Coerce_coercer.c (Coerce_coercer.mk a0.Fd a0.Fvars a0.Fliteral x7))))) rfl ⟨rfl, rfl⟩ ?_
  exact (fun _ _ h => h)
 refine AWp.skip ?_
 refine hK8 _ ?_
 clear hK8 K8
 refine seqK fun K12 hK12 => ?_
 refine region ?_
 refine s0 assignA rfl ?_
 refine nil ?_
 refine hK12 _ ?_
 clear hK12 K12
 refine AWp.ret ?_
 repeat (first | refine xBlock_ret ?_ | refine xThen_ret ?_)
 obtain rfl := Option.some.inj hE
 refine retQ.retF (H.set c0 (some (.cells (Coerce_coercer.c (Coerce_coercer.mk a0.Fd a0.Fvars a0.Fliteral x7))))) rfl ⟨rfl, rfl⟩ ?_
 exact (fun _ _ h => h)
def Z13_j8  (y9_c0 : Coerce_coercer) : Option (Int × Coerce_coercer) := some ((0 : Int), y9_c0)
def Z13_l13 (a1 : TValue) (a2 : Int) (k_rec_61 : Coerce_coercer → TValue → Int → Option (Int × Coerce_coercer)) : Nat → Nat → Coerce_coercer → Option (Int × Coerce_coercer)
 | 0, _, _ => none
 | n13 + 1, s20_14, y15_c0 => bif (decide (((s20_14 : Nat) : Int) < ((a1.FItems.l.length : Nat) : Int))) then ((a1.FItems.l[s20_14]?).bind fun x21 => (addC a2 (1 : Int)).bind fun x23 => (k_rec_61 y15_c0 x21 x23).bind fun x24 => bif (!decide (x24.1 = (0 : Int))) then (some (x24.1, x24.2)) else ((Z13_l13 a1 a2 k_rec_61 n13) (s20_14 + 1) x24.2)) else (Z13_j8   y15_c0)
def Z13_n : Nat → Coerce_coercer → TValue → Int → Option (Int × Coerce_coercer)
 | 0, _, _, _ => none
 | n + 1, a0, a1, a2 => (Z7 a0 a2).bind fun x4 => bif (!decide (x4.1 = (0 : Int))) then (some (x4.1, x4.2)) else (Z13_l13 a1 a2 (Z13_n n) (a1.FItems.l.length + 1) 0 x4.2)
theorem Z13_step (n : Nat) (ih_61 : ∀ {a0 : Coerce_coercer} {a1 : TValue} {a2 : Int}  {c0 : Nat} {r : (Int × Coerce_coercer)}, Z13_n n a0 a1 a2 = some r → ∀ (H : Heap) (hc0 : H c0 = some (.cells (Coerce_coercer.c a0))), ACalls Tryz.prog 61 [.d (.ptr c0 0), .agg (TValue.c a1), .d (.int .i64 a2)] H fun v h' => v = .a (.d (.int .i64 r.1)) ∧ h' = (H.set c0 (some (.cells (Coerce_coercer.c r.2))))) : ∀ {a0 : Coerce_coercer} {a1 : TValue} {a2 : Int}  {c0 : Nat} {r : (Int × Coerce_coercer)}, Z13_n (n + 1) a0 a1 a2 = some r → ∀ (H : Heap) (hc0 : H c0 = some (.cells (Coerce_coercer.c a0))), ACalls Tryz.prog 61 [.d (.ptr c0 0), .agg (TValue.c a1), .d (.int .i64 a2)] H fun v h' => v = .a (.d (.int .i64 r.1)) ∧ h' = (H.set c0 (some (.cells (Coerce_coercer.c r.2)))) := by
 intro a0 a1 a2  c0 r hE H hc0
 rw [Z13_n] at hE
 refine ACalls.of_wp (fn := Tryz.f61) (c := _) Tryz.tab_ok (fun _ _ => Tryz.call61 _ _) Tryz.func61 rfl (n := 33) rfl (rs := [.tmp 6]) rfl rfl ?_
 refine AWp.heqA (h' := (H.set c0 (some (.cells (Coerce_coercer.c a0))))) (by funext n_; simp only [Heap.set]; (repeat' split) <;> simp_all) ?_
 refine seqK fun K1 hK1 => ?_
 refine region ?_
 refine s0 (boxV rfl) rfl ?_
 refine s0 assignA rfl ?_
 refine nil ?_
 refine hK1 _ ?_
 clear hK1 K1
 refine seqK fun K2 hK2 => ?_
 refine seqK fun K3 hK3 => ?_
 refine region ?_
 refine s0 moveA rfl ?_
 refine s0 moveA rfl ?_
 obtain ⟨x4, gx4, hE⟩ := bindO_some hE
 refine sH (callH rfl rfl (Z7_walk gx4 _ hpG)) rfl ?_
 refine AOps.heq (h' := (H.set c0 (some (.cells (Coerce_coercer.c x4.2))))) (by first | rfl | (rw [Heap.set_set]; rfl) | (funext n_; simp only [Heap.set]; (repeat' split) <;> first | rfl | (exfalso; simp_all; done) | (simp_all; done))) ?_
 refine s0 assignA rfl ?_
 refine nil ?_
 refine hK3 _ ?_
 clear hK3 K3
 refine seqK fun K5 hK5 => ?_
 refine region ?_
 refine s0 moveA rfl ?_
 refine s0 (binI rfl rfl rfl) rfl ?_
 refine nil ?_
 refine hK5 _ ?_
 clear hK5 K5
 refine condE hE rfl (fun hc6 hE => ?_) (fun hc6 hE => ?_)
 ·refine seqK fun K7 hK7 => ?_
  refine region ?_
  refine s0 moveA rfl ?_
  refine s0 assignA rfl ?_
  refine nil ?_
  refine hK7 _ ?_
  clear hK7 K7
  refine AWp.ret ?_
  repeat (first | refine xBlock_ret ?_ | refine xThen_ret ?_)
  obtain rfl := Option.some.inj hE
  refine retQ.retF (H.set c0 (some (.cells (Coerce_coercer.c x4.2)))) rfl ⟨rfl, rfl⟩ ?_
  exact (fun _ _ h => h)
 refine AWp.skip ?_
 refine hK2 _ ?_
 clear hK2 K2
 refine seqJH KeepsT.nil (fun (z : Coerce_coercer) => []) (fun z => (H.set c0 (some (.cells (Coerce_coercer.c z))))) (fun z => Z13_j8 z = some r) ?_ ?_
 ·intro K8 hK8
  refine seqK fun K11 hK11 => ?_
  refine region ?_
  refine s0 (fieldVA (TK rfl) rfl rfl (TK rfl) rfl rfl) rfl ?_
  refine s0 (loadV (TK rfl) rfl rfl (congrArg (fun x => some (A.d x)) (TValue.FItemsD_eq _))) rfl ?_
  refine sLen (f := TValue.c) (s := a1.FItems) (TK rfl) rfl rfl rfl rfl fun hL12 => ?_
  refine s0 moveA rfl ?_
  refine nil ?_
  refine hK11 _ ?_
  clear hK11 K11
  refine block ?_
  refine loopH (KeepsT.A (k := 0) (KeepsT.A (k := 2) (KeepsT.A (k := 18) (KeepsT.A (k := 19) KeepsT.nil)))) (fun (z : Nat × Nat × Coerce_coercer) => [(20, .a (.d (.int .i64 ((z.2.1 : Nat) : Int))))]) (fun z => (H.set c0 (some (.cells (Coerce_coercer.c z.2.2))))) (fun z => z.1) (fun z => Z13_l13 a1 a2 (Z13_n n) z.1 z.2.1 z.2.2 = some r) ((a1.FItems.l.length + 1), 0, x4.2) hE Weak.toA ?_
  rintro ⟨n13, s20_14, y15_c0⟩ hE K13 hK13
  try dsimp only at hE
  cases n13 with
  | zero => cases hE
  | succ n13 =>
    rw [Z13_l13] at hE
    refine seqK fun K16 hK16 => ?_
    refine region ?_
    refine s0 (binI rfl rfl rfl) rfl ?_
    refine nil ?_
    refine hK16 _ ?_
    clear hK16 K16
    refine seqK fun K17 hK17 => ?_
    refine condE hE rfl (fun hc18 hE => ?_) (fun hc18 hE => ?_)
    ·try dsimp only at hc18
     have hf18 := of_decide_eq_true hc18
     refine AWp.skip ?_
     refine hK17 _ ?_
     clear hK17 K17
     refine seqK fun K19 hK19 => ?_
     refine block ?_
     refine seqK fun K20 hK20 => ?_
     refine region ?_
     obtain ⟨x21, gx21, hE⟩ := bindO_some hE
     refine s0 (idxMn (f := TValue.c) (n := s20_14) (TK rfl) rfl (TK rfl) rfl rfl rfl gx21) rfl ?_
     refine s0 (loadV (TK rfl) rfl rfl rfl) rfl ?_
     refine sL (allocLA (TK rfl) rfl) rfl ?_
     refine sLn (storeLFA (TK rfl) rfl rfl rfl rfl rfl) ?_
     refine nil ?_
     refine hK20 _ ?_
     clear hK20 K20
     refine freezeA 9 _ rfl (Keeps.c (k := 0) (by conv => lhs; whnf) (by rfl) (Keeps.c (k := 2) (by conv => lhs; whnf) (by rfl) (Keeps.c (k := 18) (by conv => lhs; whnf) (by rfl) (Keeps.c (k := 19) (by conv => lhs; whnf) (by rfl) (Keeps.c (k := 20) (by conv => lhs; whnf) (by rfl) Keeps.nil))))) ?_
     refine seqK fun K22 hK22 => ?_
     refine region ?_
     refine s0 moveA rfl ?_
     refine s0 (loadV (TK rfl) rfl rfl rfl) rfl ?_
     refine s0 moveA rfl ?_
     obtain ⟨x23, gx23, hE⟩ := bindO_some hE
     refine s0 (addM rfl rfl gx23) rfl ?_
     obtain ⟨x24, gx24, hE⟩ := bindO_some hE
     refine sH (callH rfl rfl (ih_61 gx24 _ hpG)) rfl ?_
     refine AOps.heq (h' := (H.set c0 (some (.cells (Coerce_coercer.c x24.2))))) (by first | rfl | (rw [Heap.set_set]; rfl) | (funext n_; simp only [Heap.set]; (repeat' split) <;> first | rfl | (exfalso; simp_all; done) | (simp_all; done))) ?_
     refine s0 assignA rfl ?_
     refine nil ?_
     refine hK22 _ ?_
     clear hK22 K22
     refine seqK fun K25 hK25 => ?_
     refine region ?_
     refine s0 moveA rfl ?_
     refine s0 (binI rfl rfl rfl) rfl ?_
     refine nil ?_
     refine hK25 _ ?_
     clear hK25 K25
     refine condE hE rfl (fun hc26 hE => ?_) (fun hc26 hE => ?_)
     ·refine seqK fun K27 hK27 => ?_
      refine region ?_
      refine s0 moveA rfl ?_
      refine s0 assignA rfl ?_
      refine nil ?_
      refine hK27 _ ?_
      clear hK27 K27
      refine AWp.ret ?_
      repeat (first | refine xBlock_ret ?_ | refine xThen_ret ?_)
      obtain rfl := Option.some.inj hE
      refine retQ.retF (H.set c0 (some (.cells (Coerce_coercer.c x24.2)))) rfl ⟨rfl, rfl⟩ ?_
      exact (fun _ _ h => h)
     refine AWp.skip ?_
     refine hK19 _ ?_
     clear hK19 K19
     refine region ?_
     refine s0 (addIA rfl rfl) rfl ?_
     refine s0 moveA rfl ?_
     refine nil ?_
     exact hK13 _ (n13, (s20_14 + 1), x24.2) Weak.toA hE (Nat.lt_succ_self _)
    refine AWp.exit ?_
    exact hK8 _ y15_c0 Weak.toA hE
 rintro y9_c0 hE
 try dsimp only at hE
 unfold Z13_j8 at hE
 refine seqK fun K10 hK10 => ?_
 refine region ?_
 refine s0 assignA rfl ?_
 refine nil ?_
 refine hK10 _ ?_
 clear hK10 K10
 refine AWp.ret ?_
 repeat (first | refine xBlock_ret ?_ | refine xThen_ret ?_)
 obtain rfl := Option.some.inj hE
 refine retQ.retF (H.set c0 (some (.cells (Coerce_coercer.c y9_c0)))) rfl ⟨rfl, rfl⟩ ?_
 exact (fun _ _ h => h)
theorem Z13_all : ∀ (n : Nat), (∀ {a0 : Coerce_coercer} {a1 : TValue} {a2 : Int}  {c0 : Nat} {r : (Int × Coerce_coercer)}, Z13_n n a0 a1 a2 = some r → ∀ (H : Heap) (hc0 : H c0 = some (.cells (Coerce_coercer.c a0))), ACalls Tryz.prog 61 [.d (.ptr c0 0), .agg (TValue.c a1), .d (.int .i64 a2)] H fun v h' => v = .a (.d (.int .i64 r.1)) ∧ h' = (H.set c0 (some (.cells (Coerce_coercer.c r.2)))))
 | 0 => fun hE => by first | cases hE | (rw [Z13_n] at hE; cases hE)
 | n + 1 => Z13_step n (Z13_all n)
def Z13 (a0 : Coerce_coercer) (a1 : TValue) (a2 : Int) : Option (Int × Coerce_coercer) := Z13_n F0 a0 a1 a2
theorem Z13_walk {a0 : Coerce_coercer} {a1 : TValue} {a2 : Int}  {c0 : Nat} {r : (Int × Coerce_coercer)} (hE : Z13 a0 a1 a2 = some r) (H : Heap) (hc0 : H c0 = some (.cells (Coerce_coercer.c a0))) : ACalls Tryz.prog 61 [.d (.ptr c0 0), .agg (TValue.c a1), .d (.int .i64 a2)] H fun v h' => v = .a (.d (.int .i64 r.1)) ∧ h' = (H.set c0 (some (.cells (Coerce_coercer.c r.2)))) := (Z13_all F0) hE H hc0
def Z76 (a0 : (Sl Int)) : Option (Sl Int) := bif a0.nl then (some (Sl.nil : Sl Int)) else ((appC 8 (⟨false, []⟩ : Sl Int) a0).bind fun x7 => some x7)
theorem Z76_walk {a0 : (Sl Int)} {w0 : Option Nat}  {r : (Sl Int)} (hE : Z76 a0 = some r) (H : Heap)  : ACalls Tryz.prog 112 [.d (Sl.d 1 (intE .i64) w0 a0)] H fun v h' => v = .a (.d (Sl.d 1 (intE .i64) none r)) ∧ h' = H := by
 unfold Z76 at hE
 refine ACalls.of_wp (fn := Tryz.f112) (c := _) Tryz.tab_ok (fun _ _ => Tryz.call112 _ _) Tryz.func112 rfl (n := 8) rfl (rs := [.tmp 2]) rfl rfl ?_
 refine seqK fun K1 hK1 => ?_
 refine region ?_
 refine s0 (assignNil (k' := 1) rfl) rfl ?_
 refine nil ?_
 refine hK1 _ ?_
 clear hK1 K1
 refine seqK fun K2 hK2 => ?_
 refine seqK fun K3 hK3 => ?_
 refine region ?_
 refine s0 moveA rfl ?_
 refine s0 (eqNil (TK rfl) rfl rfl) rfl ?_
 refine nil ?_
 refine hK3 _ ?_
 clear hK3 K3
 refine condE hE rfl (fun hc4 hE => ?_) (fun hc4 hE => ?_)
 ·refine seqK fun K5 hK5 => ?_
  refine region ?_
  refine s0 (assignNil (k' := 1) rfl) rfl ?_
  refine nil ?_
  refine hK5 _ ?_
  clear hK5 K5
  refine AWp.ret ?_
  repeat (first | refine xBlock_ret ?_ | refine xThen_ret ?_)
  obtain rfl := Option.some.inj hE
  refine retQ.retF H rfl ⟨rfl, rfl⟩ ?_
  exact (fun _ _ h => h)
 refine AWp.skip ?_
 refine hK2 _ ?_
 clear hK2 K2
 refine seqK fun K6 hK6 => ?_
 refine region ?_
 refine s0 (buildSliceF (TK rfl) rfl (TK rfl) rfl rfl rfl rfl rfl rfl) rfl ?_
 refine s0 moveA rfl ?_
 obtain ⟨x7, gx7, hE⟩ := bindO_some hE
 refine s0 (appFM (f := (intE .i64)) (TK rfl) rfl (TK rfl) (TK rfl) ⟨_, rfl⟩ rfl rfl (by decide) rfl rfl rfl (by intro q h; cases h <;> decide) rfl rfl gx7) rfl ?_
 refine s0 assignA rfl ?_
 refine nil ?_
 refine hK6 _ ?_
 clear hK6 K6
 refine AWp.ret ?_
 repeat (first | refine xBlock_ret ?_ | refine xThen_ret ?_)
 obtain rfl := Option.some.inj hE
 refine retQ.retF H rfl ⟨rfl, rfl⟩ ?_
 exact (fun _ _ h => h)
def Z90_j3 (a0 : TRef)  (s3_4 : (Sl Int)) : Option TRef := (Z76 s3_4).bind fun x6 => some (TRef.mk a0.FName x6)
def Z90 (a0 : TRef) : Option TRef := (Z89 a0).bind fun x8 => bif x8 then ((partC a0.FWraps (some (1 : Int)) none).bind fun x10 => Z90_j3 a0  x10) else (Z90_j3 a0  a0.FWraps)
theorem Z90_walk {a0 : TRef}   {r : TRef} (hE : Z90 a0 = some r) (H : Heap)  : ACalls Tryz.prog 90 [.agg (TRef.c a0)] H fun v h' => v = .a (.agg (TRef.c r)) ∧ h' = H := by
 unfold Z90 at hE
 refine ACalls.of_wp (fn := Tryz.f90) (c := _) Tryz.tab_ok (fun _ _ => Tryz.call90 _ _) Tryz.func90 rfl (n := 15) rfl (rs := [.cell 2 27]) rfl rfl ?_
 refine seqK fun K1 hK1 => ?_
 refine region ?_
 refine s0 (boxV rfl) rfl ?_
 refine sL (allocLA (TK rfl) rfl) rfl ?_
 refine nil ?_
 refine hK1 _ ?_
 clear hK1 K1
 refine seqK fun K2 hK2 => ?_
 refine region ?_
 refine s0 (fieldVA (TK rfl) rfl rfl (TK rfl) rfl rfl) rfl ?_
 refine s0 (loadV (TK rfl) rfl rfl rfl) rfl ?_
 refine s0 assignA rfl ?_
 refine nil ?_
 refine hK2 _ ?_
 clear hK2 K2
 refine seqJH (KeepsT.A (k := 1) (KeepsT.A (k := 2) KeepsT.nil)) (fun (z : (Sl Int)) => [(3, .a (.d (Sl.d 1 (intE .i64) none z)))]) (fun z => H) (fun z => Z90_j3 a0 z = some r) ?_ ?_
 ·intro K3 hK3
  refine seqK fun K7 hK7 => ?_
  refine region ?_
  refine s0 (loadV (TK rfl) rfl rfl rfl) rfl ?_
  obtain ⟨x8, gx8, hE⟩ := bindO_some hE
  refine s0 (callP rfl rfl (fun H => Z89_walk gx8 H)) rfl ?_
  refine nil ?_
  refine hK7 _ ?_
  clear hK7 K7
  refine condE hE rfl (fun hc9 hE => ?_) (fun hc9 hE => ?_)
  ·refine region ?_
   refine s0 moveA rfl ?_
   obtain ⟨x10, gx10, hE⟩ := bindO_some hE
   refine s0 (partM (f := (intE .i64)) (l := (some (1 : Int))) (r := none) (TK rfl) rfl (TK rfl) rfl rfl rfl trivial gx10) rfl ?_
   refine s0 assignA rfl ?_
   refine nil ?_
   exact hK3 _ x10 Weak.toA hE
  refine AWp.skip ?_
  exact hK3 _ a0.FWraps Weak.toA hE
 rintro s3_4 hE
 try dsimp only at hE
 unfold Z90_j3 at hE
 refine seqK fun K5 hK5 => ?_
 refine AWp.draw rfl ?_
 refine DOps.s0 (fieldVA (TK rfl) rfl rfl (TK rfl) rfl rfl) rfl ?_
 refine DOps.s0 (loadV (TK rfl) rfl rfl rfl) rfl ?_
 refine DOps.s0 moveA rfl ?_
 obtain ⟨x6, gx6, hE⟩ := bindO_some hE
 refine DOps.s0 (callP rfl rfl (fun H => Z76_walk gx6 H)) rfl ?_
 refine DOps.s0 (build Tryz.tab_ok rfl rfl rfl rfl rfl rfl) rfl ?_
 refine DOps.sLn (storeLFA (TK rfl) rfl rfl rfl rfl rfl) ?_
 refine DOps.nil (by decide +kernel) ?_
 refine hK5 _ ?_
 clear hK5 K5
 refine AWp.ret ?_
 repeat (first | refine xBlock_ret ?_ | refine xThen_ret ?_)
 obtain rfl := Option.some.inj hE
 refine retQ.retF H rfl ⟨rfl, rfl⟩ ?_
 exact (fun _ _ h => h)
def Z88 (a0 : TRef) : Option Bool := (Z90 a0).bind fun x3 => guardO ((decide ((0 : Int) < ((x3.FWraps.l.length : Nat) : Int)))) (x3.FWraps.l[0]?) (0 : Int) fun x6 => some ((decide ((0 : Int) < ((x3.FWraps.l.length : Nat) : Int))) && (decide (x6 = (2 : Int))))
theorem Z88_walk {a0 : TRef}   {r : Bool} (hE : Z88 a0 = some r) (H : Heap)  : ACalls Tryz.prog 89 [.agg (TRef.c a0)] H fun v h' => v = .a (.d (.bool r)) ∧ h' = H := by
 unfold Z88 at hE
 refine ACalls.of_wp (fn := Tryz.f89) (c := _) Tryz.tab_ok (fun _ _ => Tryz.call89 _ _) Tryz.func89 rfl (n := 16) rfl (rs := [.tmp 2]) rfl rfl ?_
 refine seqK fun K1 hK1 => ?_
 refine region ?_
 refine sL (boxL rfl (by repeat (first | exact Snoc.nil | apply Snoc.cons))) rfl ?_
 refine s0 assignA rfl ?_
 refine nil ?_
 refine hK1 _ ?_
 clear hK1 K1
 refine seqK fun K2 hK2 => ?_
 refine region ?_
 refine s0 (loadL (TK rfl) rfl rfl rfl rfl) rfl ?_
 obtain ⟨x3, gx3, hE⟩ := bindO_some hE
 refine s0 (callP rfl rfl (fun H => Z90_walk gx3 H)) rfl ?_
 refine sLn (storeLFA (TK rfl) rfl rfl rfl rfl rfl) ?_
 refine nil ?_
 refine hK2 _ ?_
 clear hK2 K2
 refine seqK fun K4 hK4 => ?_
 refine region ?_
 refine s0 (fieldL (TK rfl) rfl rfl (TK rfl) rfl rfl) rfl ?_
 refine s0 (loadL (TK rfl) rfl rfl rfl rfl) rfl ?_
 refine sLen (f := (intE .i64)) (s := x3.FWraps) (TK rfl) rfl rfl rfl rfl fun hL5 => ?_
 refine s0 (binI rfl rfl rfl) rfl ?_
 refine s0 moveA rfl ?_
 refine gC rfl rfl (fun hC => fieldL (TK rfl) rfl rfl (TK rfl) rfl rfl) rfl ?_
 refine gC rfl rfl (fun hC => ungdLA (k := 10) rfl (loadL (TK rfl) rfl rfl rfl rfl)) rfl ?_
 obtain ⟨x6, gx6, hE⟩ := guardO_some hE
 refine gC rfl rfl (fun hC => ungdA (k := 11) rfl (idxMn (f := (intE .i64)) (n := 0) (TK rfl) rfl (TK rfl) rfl rfl rfl (gx6 hC))) rfl ?_
 refine gC rfl rfl (fun hC => ungdA (k := 12) rfl (loadV (TK rfl) rfl rfl rfl)) rfl ?_
 refine gC rfl rfl (fun hC => ungdA (k := 13) rfl (binI rfl rfl rfl)) rfl ?_
 refine s0 (pickAndA rfl rfl rfl) rfl ?_
 refine s0 assignA rfl ?_
 refine nil ?_
 refine hK4 _ ?_
 clear hK4 K4
 refine AWp.ret ?_
 repeat (first | refine xBlock_ret ?_ | refine xThen_ret ?_)
 obtain rfl := Option.some.inj hE
 refine retQ.retF H rfl ⟨rfl, rfl⟩ ?_
 exact (fun _ _ h => h)
def Z87 (a0 : TRef) : Option (TRef × Bool) := (Z88 a0).bind fun x4 => bif (!x4) then (some ((TRef.mk ([] : Bs) (Sl.nil : Sl Int)), false)) else ((Z90 a0).bind fun x8 => (partC x8.FWraps (some (1 : Int)) none).bind fun x10 => some ((TRef.mk x8.FName x10), true))
theorem Z87_walk {a0 : TRef}   {r : (TRef × Bool)} (hE : Z87 a0 = some r) (H : Heap)  : ACalls Tryz.prog 63 [.agg (TRef.c a0)] H fun v h' => v = .tup [.agg (TRef.c r.1), .d (.bool r.2)] ∧ h' = H := by
 unfold Z87 at hE
 refine ACalls.of_wp (fn := Tryz.f63) (c := _) Tryz.tab_ok (fun _ _ => Tryz.call63 _ _) Tryz.func63 rfl (n := 15) rfl (rs := [.cell 2 27, .tmp 3]) rfl rfl ?_
 refine seqK fun K1 hK1 => ?_
 refine region ?_
 refine sL (boxL rfl (by repeat (first | exact Snoc.nil | apply Snoc.cons))) rfl ?_
 refine sL (allocLA (TK rfl) rfl) rfl ?_
 refine s0 assignA rfl ?_
 refine nil ?_
 refine hK1 _ ?_
 clear hK1 K1
 refine seqK fun K2 hK2 => ?_
 refine seqK fun K3 hK3 => ?_
 refine region ?_
 refine s0 (loadL (TK rfl) rfl rfl rfl rfl) rfl ?_
 obtain ⟨x4, gx4, hE⟩ := bindO_some hE
 refine s0 (callP rfl rfl (fun H => Z88_walk gx4 H)) rfl ?_
 refine s0 (notB rfl) rfl ?_
 refine nil ?_
 refine hK3 _ ?_
 clear hK3 K3
 refine condE hE rfl (fun hc5 hE => ?_) (fun hc5 hE => ?_)
 ·refine seqK fun K6 hK6 => ?_
  refine region ?_
  refine s0 (build Tryz.tab_ok rfl rfl rfl rfl rfl rfl) rfl ?_
  refine sLn (storeLFA (TK rfl) rfl rfl rfl rfl rfl) ?_
  refine s0 assignA rfl ?_
  refine nil ?_
  refine hK6 _ ?_
  clear hK6 K6
  refine AWp.ret ?_
  repeat (first | refine xBlock_ret ?_ | refine xThen_ret ?_)
  obtain rfl := Option.some.inj hE
  refine retQ.retF H rfl ⟨rfl, rfl⟩ ?_
  exact (fun _ _ h => h)
 refine AWp.skip ?_
 refine hK2 _ ?_
 clear hK2 K2
 refine seqK fun K7 hK7 => ?_
 refine region ?_
 refine s0 (loadL (TK rfl) rfl rfl rfl rfl) rfl ?_
 obtain ⟨x8, gx8, hE⟩ := bindO_some hE
 refine s0 (callP rfl rfl (fun H => Z90_walk gx8 H)) rfl ?_
 refine sLn (storeLFA (TK rfl) rfl rfl rfl rfl rfl) ?_
 refine nil ?_
 refine hK7 _ ?_
 clear hK7 K7
 refine seqK fun K9 hK9 => ?_
 refine region ?_
 refine s0 (fieldL (TK rfl) rfl rfl (TK rfl) rfl rfl) rfl ?_
 refine s0 (loadL (TK rfl) rfl rfl rfl rfl) rfl ?_
 obtain ⟨x10, gx10, hE⟩ := bindO_some hE
 refine s0 (partM (f := (intE .i64)) (l := (some (1 : Int))) (r := none) (TK rfl) rfl (TK rfl) rfl rfl rfl trivial gx10) rfl ?_
 refine s0 (fieldL (TK rfl) rfl rfl (TK rfl) rfl rfl) rfl ?_
 refine sLn (storeL1 (TK rfl) rfl rfl rfl rfl (by repeat (first | exact SetAt.zero | apply SetAt.succ)) (by repeat (first | exact SetAt.zero | apply SetAt.succ))) ?_
 refine nil ?_
 refine hK9 _ ?_
 clear hK9 K9
 refine seqK fun K11 hK11 => ?_
 refine region ?_
 refine s0 (loadL (TK rfl) rfl rfl rfl rfl) rfl ?_
 refine sLn (storeLFA (TK rfl) rfl rfl rfl rfl rfl) ?_
 refine s0 assignA rfl ?_
 refine nil ?_
 refine hK11 _ ?_
 clear hK11 K11
 refine AWp.ret ?_
 repeat (first | refine xBlock_ret ?_ | refine xThen_ret ?_)
 obtain rfl := Option.some.inj hE
 refine retQ.retF H rfl ⟨rfl, rfl⟩ ?_
 exact (fun _ _ h => h)
def Z71_j2  (y3_l0 : TInput) : Option (TInput × Bool) := some ((TInput.mk ([] : Bs) TRef.zero false TValue.zero (Sl.nil : Sl TDir)), false)
def Z71_l7 (a0 : (Sl TInput)) (a1 : Bs)  : Nat → Nat → TInput → Option (TInput × Bool)
 | 0, _, _ => none
 | n7 + 1, s10_8, y9_l0 => bif (decide (((s10_8 : Nat) : Int) < ((a0.l.length : Nat) : Int))) then ((a0.l[s10_8]?).bind fun x15 => bif ((x15.FName == a1)) then (some (x15, true)) else ((Z71_l7 a0 a1 n7) (s10_8 + 1) y9_l0)) else (Z71_j2   y9_l0)
def Z71 (a0 : (Sl TInput)) (a1 : Bs) : Option (TInput × Bool) := Z71_l7 a0 a1 (a0.l.length + 1) 0 TInput.zero
theorem Z71_walk {a0 : (Sl TInput)} {a1 : Bs} {w0 : Option Nat}  {r : (TInput × Bool)} (hE : Z71 a0 a1 = some r) (H : Heap)  : ACalls Tryz.prog 39 [.d (Sl.d 10 TInput.c w0 a0), .d (.str a1)] H fun v h' => v = .tup [.agg (TInput.c r.1), .d (.bool r.2)] ∧ h' = H := by
 unfold Z71 at hE
 refine ACalls.of_wp (fn := Tryz.f39) (c := _) Tryz.tab_ok (fun _ _ => Tryz.call39 _ _) Tryz.func39 rfl (n := 21) rfl (rs := [.cell 4 55, .tmp 5]) rfl rfl ?_
 refine seqK fun K1 hK1 => ?_
 refine region ?_
 refine sL (allocLA (TK rfl) rfl) rfl ?_
 refine s0 assignA rfl ?_
 refine nil ?_
 refine hK1 _ ?_
 clear hK1 K1
 refine seqJ (KeepsT.A (k := 4) KeepsT.nil) (fun (z : TInput) => []) (fun z => [TInput.c z]) (fun z => H) (fun z => Z71_j2 z = some r) ?_ ?_
 ·intro K2 hK2
  refine seqK fun K5 hK5 => ?_
  refine region ?_
  refine s0 moveA rfl ?_
  refine sLen (f := TInput.c) (s := a0) (TK rfl) rfl rfl rfl rfl fun hL6 => ?_
  refine s0 moveA rfl ?_
  refine nil ?_
  refine hK5 _ ?_
  clear hK5 K5
  refine block ?_
  refine loopO (KeepsT.A (k := 1) (KeepsT.A (k := 4) (KeepsT.A (k := 8) (KeepsT.A (k := 9) KeepsT.nil)))) (fun (z : Nat × Nat × TInput) => [(10, .a (.d (.int .i64 ((z.2.1 : Nat) : Int))))]) (fun z => [TInput.c z.2.2]) (fun z => H) (fun z => z.1) (fun z => Z71_l7 a0 a1 z.1 z.2.1 z.2.2 = some r) ((a0.l.length + 1), 0, TInput.zero) hE Weak.toA ?_
  rintro ⟨n7, s10_8, y9_l0⟩ hE K7 hK7
  try dsimp only at hE
  cases n7 with
  | zero => cases hE
  | succ n7 =>
    rw [Z71_l7] at hE
    refine seqK fun K10 hK10 => ?_
    refine region ?_
    refine s0 (binI rfl rfl rfl) rfl ?_
    refine nil ?_
    refine hK10 _ ?_
    clear hK10 K10
    refine seqK fun K11 hK11 => ?_
    refine condE hE rfl (fun hc12 hE => ?_) (fun hc12 hE => ?_)
    ·try dsimp only at hc12
     have hf12 := of_decide_eq_true hc12
     refine AWp.skip ?_
     refine hK11 _ ?_
     clear hK11 K11
     refine seqK fun K13 hK13 => ?_
     refine block ?_
     refine seqK fun K14 hK14 => ?_
     refine region ?_
     obtain ⟨x15, gx15, hE⟩ := bindO_some hE
     refine s0 (idxMn (f := TInput.c) (n := s10_8) (TK rfl) rfl (TK rfl) rfl rfl rfl gx15) rfl ?_
     refine s0 (loadV (TK rfl) rfl rfl rfl) rfl ?_
     refine sL (allocLA (TK rfl) rfl) rfl ?_
     refine sLn (storeLFA (TK rfl) rfl rfl rfl rfl rfl) ?_
     refine nil ?_
     refine hK14 _ ?_
     clear hK14 K14
     refine freezeA 7 _ rfl (Keeps.c (k := 1) (by conv => lhs; whnf) (by rfl) (Keeps.c (k := 4) (by conv => lhs; whnf) (by rfl) (Keeps.c (k := 8) (by conv => lhs; whnf) (by rfl) (Keeps.c (k := 9) (by conv => lhs; whnf) (by rfl) (Keeps.c (k := 10) (by conv => lhs; whnf) (by rfl) Keeps.nil))))) ?_
     refine seqK fun K16 hK16 => ?_
     refine region ?_
     refine s0 (fieldVA (TK rfl) rfl rfl (TK rfl) rfl rfl) rfl ?_
     refine s0 (loadV (TK rfl) rfl rfl rfl) rfl ?_
     refine s0 moveA rfl ?_
     refine s0 (binS rfl rfl rfl) rfl ?_
     refine nil ?_
     refine hK16 _ ?_
     clear hK16 K16
     refine condE hE rfl (fun hc17 hE => ?_) (fun hc17 hE => ?_)
     ·refine seqK fun K18 hK18 => ?_
      refine region ?_
      refine s0 (loadV (TK rfl) rfl rfl rfl) rfl ?_
      refine sLn (storeLFA (TK rfl) rfl rfl rfl rfl rfl) ?_
      refine s0 assignA rfl ?_
      refine nil ?_
      refine hK18 _ ?_
      clear hK18 K18
      refine AWp.ret ?_
      repeat (first | refine xBlock_ret ?_ | refine xThen_ret ?_)
      obtain rfl := Option.some.inj hE
      refine retQ.retF H rfl ⟨rfl, rfl⟩ ?_
      exact (fun _ _ h => h)
     refine AWp.skip ?_
     refine hK13 _ ?_
     clear hK13 K13
     refine region ?_
     refine s0 (addIA rfl rfl) rfl ?_
     refine s0 moveA rfl ?_
     refine nil ?_
     exact hK7 _ (n7, (s10_8 + 1), y9_l0) Weak.toA hE (Nat.lt_succ_self _)
    refine AWp.exit ?_
    exact hK2 _ y9_l0 Weak.toA hE
 rintro y3_l0 hE
 try dsimp only at hE
 unfold Z71_j2 at hE
 refine seqK fun K4 hK4 => ?_
 refine region ?_
 refine s0 (build Tryz.tab_ok rfl rfl rfl rfl rfl rfl) rfl ?_
 refine sLn (storeLFA (TK rfl) rfl rfl rfl rfl rfl) ?_
 refine s0 assignA rfl ?_
 refine nil ?_
 refine hK4 _ ?_
 clear hK4 K4
 refine AWp.ret ?_
 repeat (first | refine xBlock_ret ?_ | refine xThen_ret ?_)
 obtain rfl := Option.some.inj hE
 refine retQ.retF H rfl ⟨rfl, rfl⟩ ?_
 exact (fun _ _ h => h)
def Z12 (a0 : TValue) (a1 : Bool) (a2 : Coerce_coercer) : Option Coerce_coercer := some (Coerce_coercer.mk a2.Fd a0 a1 a2.Fnodes)
theorem Z12_walk {a0 : TValue} {a1 : Bool} {a2 : Coerce_coercer}  {c2 : Nat} {r : Coerce_coercer} (hE : Z12 a0 a1 a2 = some r) (H : Heap) (hc2 : H c2 = some (.cells (Coerce_coercer.c a2))) : ACallsD Tryz.prog 113 [.d (.view (TValue.c a0)), .d (.view (boolE a1)), .d (.view [.ptr c2 0])] H fun v h' => v = .tup [] ∧ h' = (H.set c2 (some (.cells (Coerce_coercer.c r)))) := by
 unfold Z12 at hE
 refine ACallsD.of_wp (fn := Tryz.f113) (c := _) Tryz.tab_ok (fun _ _ => Tryz.call113 _ _) Tryz.func113 rfl (n := 11) rfl (rs := []) rfl rfl ?_
 refine AWp.heqA (h' := (H.set c2 (some (.cells (Coerce_coercer.c a2))))) (by funext n_; simp only [Heap.set]; (repeat' split) <;> simp_all) ?_
 refine region ?_
 refine s0 (loadV (TK rfl) rfl rfl rfl) rfl ?_
 refine s0 (loadV (TK rfl) rfl rfl rfl) rfl ?_
 refine s0 (loadV (TK rfl) rfl rfl rfl) rfl ?_
 refine s0 (loadV (TK rfl) rfl rfl rfl) rfl ?_
 refine s0 (nilP rfl) rfl ?_
 refine s0 (fieldP (TK rfl) rfl rfl (TK rfl) rfl rfl) rfl ?_
 refine sHn (storeP' (TK rfl) rfl rfl hpG rfl (Nat.le_of_ble_eq_true rfl) rfl rfl) rfl rfl ?_
 refine AOps.heq (h' := (H.set c2 (some (.cells (Coerce_coercer.c (Coerce_coercer.mk a2.Fd a0 a2.Fliteral a2.Fnodes)))))) (by first | rfl | (rw [Heap.set_set]; rfl) | (funext n_; simp only [Heap.set]; (repeat' split) <;> first | rfl | (exfalso; simp_all; done) | (simp_all; done))) ?_
 refine s0 (nilP rfl) rfl ?_
 refine s0 (fieldP (TK rfl) rfl rfl (TK rfl) rfl rfl) rfl ?_
 refine sHn (storeP1 (TK rfl) rfl rfl hpG rfl (by repeat (first | exact SetAt.zero | apply SetAt.succ))) rfl rfl ?_
 refine AOps.heq (h' := (H.set c2 (some (.cells (Coerce_coercer.c (Coerce_coercer.mk a2.Fd a0 a1 a2.Fnodes)))))) (by first | rfl | (rw [Heap.set_set]; rfl) | (funext n_; simp only [Heap.set]; (repeat' split) <;> first | rfl | (exfalso; simp_all; done) | (simp_all; done))) ?_
 refine nil ?_
 repeat (first | refine xBlock_normal ?_ | refine xThen_exit ?_ | refine xBlock_exit ?_)
 obtain rfl := Option.some.inj hE
 refine retQ.normalF (H.set c2 (some (.cells (Coerce_coercer.c (Coerce_coercer.mk a2.Fd a0 a1 a2.Fnodes))))) (xs := []) rfl ⟨rfl, rfl⟩ ?_
 exact (fun _ _ h => h)
end Go.Proofs
