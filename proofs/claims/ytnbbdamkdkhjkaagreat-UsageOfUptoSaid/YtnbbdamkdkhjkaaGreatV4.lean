import Derived.Test.YtnbbdamkdkhjkaaGreatV3
set_option maxRecDepth 100000
set_option maxHeartbeats 2000000
set_option linter.unusedVariables false
set_option linter.unusedSimpArgs false
namespace Go.Proofs
open Go Go.Ab
open AOps Cert AWp
def r08_selsRight_j7   : Option Bool := some true
def r08_selsRight_l10 (a0 : (Sl TSel)) (a1 : Int) (k_rec_100 : TSel → Int → Option Bool) : Nat → Nat → Option Bool
 | 0, _ => none
 | n10 + 1, s5_11 => bif (decide (((s5_11 : Nat) : Int) < ((a0.l.length : Nat) : Int))) then ((a0.l[s5_11]?).bind fun x18 => (k_rec_100 x18 a1).bind fun x19 => bif (!x19) then (some false) else ((r08_selsRight_l10 a0 a1 k_rec_100 n10) (s5_11 + 1))) else (r08_selsRight_j7   )
mutual
def r08_selsRight_n : Nat → (Sl TSel) → Int → Option Bool
 | 0, _, _ => none
 | n + 1, a0, a1 => bif (((decide (((a0.l.length : Nat) : Int) = (0 : Int))) || (decide ((64 : Int) < ((a0.l.length : Nat) : Int)))) || (decide ((24 : Int) < a1))) then (some false) else (r08_selsRight_l10 a0 a1 (Z43_n n) (a0.l.length + 1) 0)
def Z43_n : Nat → TSel → Int → Option Bool
 | 0, _, _ => none
 | n + 1, a0, a1 => (Z42 a0.FDirs).bind fun x4 => guardO (!(!x4)) (Z40 a0.FArgs) false fun x5 => bif ((!x4) || (!x5)) then (some false) else (bif (decide (a0.FKind = (1 : Int))) then ((Z12 a0.FName).bind fun x13 => guardO ((x13 && !((a0.FAlias == ([] : Bs))))) (Z12 a0.FAlias) false fun x14 => guardO ((((x13 && (((a0.FAlias == ([] : Bs))) || x14)) && ((a0.FOn == ([] : Bs)))) && !(decide (((a0.FSels.l.length : Nat) : Int) = (0 : Int))))) (addC a1 (1 : Int)) (0 : Int) fun x15 => guardO ((((x13 && (((a0.FAlias == ([] : Bs))) || x14)) && ((a0.FOn == ([] : Bs)))) && !(decide (((a0.FSels.l.length : Nat) : Int) = (0 : Int))))) ((r08_selsRight_n n) a0.FSels x15) false fun x16 => some (((x13 && (((a0.FAlias == ([] : Bs))) || x14)) && ((a0.FOn == ([] : Bs)))) && ((decide (((a0.FSels.l.length : Nat) : Int) = (0 : Int))) || x16))) else (bif (decide (a0.FKind = (2 : Int))) then ((Z44 a0.FName).bind fun x20 => some ((((x20 && ((a0.FAlias == ([] : Bs)))) && ((a0.FOn == ([] : Bs)))) && (decide (((a0.FArgs.l.length : Nat) : Int) = (0 : Int)))) && (decide (((a0.FSels.l.length : Nat) : Int) = (0 : Int))))) else (bif (decide (a0.FKind = (3 : Int))) then (guardO (((((a0.FName == ([] : Bs))) && ((a0.FAlias == ([] : Bs)))) && !((a0.FOn == ([] : Bs))))) (Z12 a0.FOn) false fun x24 => guardO ((((((a0.FName == ([] : Bs))) && ((a0.FAlias == ([] : Bs)))) && (((a0.FOn == ([] : Bs))) || x24)) && (decide (((a0.FArgs.l.length : Nat) : Int) = (0 : Int))))) (addC a1 (1 : Int)) (0 : Int) fun x25 => guardO ((((((a0.FName == ([] : Bs))) && ((a0.FAlias == ([] : Bs)))) && (((a0.FOn == ([] : Bs))) || x24)) && (decide (((a0.FArgs.l.length : Nat) : Int) = (0 : Int))))) ((r08_selsRight_n n) a0.FSels x25) false fun x26 => some ((((((a0.FName == ([] : Bs))) && ((a0.FAlias == ([] : Bs)))) && (((a0.FOn == ([] : Bs))) || x24)) && (decide (((a0.FArgs.l.length : Nat) : Int) = (0 : Int)))) && x26)) else (some false))))
end
theorem r08_selsRight_step (n : Nat) (ih_52 : ∀ {a0 : (Sl TSel)} {a1 : Int} {w0 : Option Nat}  {r : Bool}, r08_selsRight_n n a0 a1 = some r → ∀ (H : Heap), ACalls Tryz.prog 52 [.d (Sl.d 7 TSel.c w0 a0), .d (.int .i64 a1)] H fun v h' => v = .a (.d (.bool r)) ∧ h' = H) (ih_100 : ∀ {a0 : TSel} {a1 : Int}   {r : Bool}, Z43_n n a0 a1 = some r → ∀ (H : Heap), ACalls Tryz.prog 100 [.agg (TSel.c a0), .d (.int .i64 a1)] H fun v h' => v = .a (.d (.bool r)) ∧ h' = H) : ∀ {a0 : (Sl TSel)} {a1 : Int} {w0 : Option Nat}  {r : Bool}, r08_selsRight_n (n + 1) a0 a1 = some r → ∀ (H : Heap), ACalls Tryz.prog 52 [.d (Sl.d 7 TSel.c w0 a0), .d (.int .i64 a1)] H fun v h' => v = .a (.d (.bool r)) ∧ h' = H := by
 intro a0 a1 w0  r hE H 
 rw [r08_selsRight_n] at hE
 refine ACalls.of_wp (fn := Tryz.f52) (c := _) Tryz.tab_ok (fun _ _ => Tryz.call52 _ _) Tryz.func52 rfl (n := 31) rfl (rs := [.tmp 4]) rfl rfl ?_
 refine seqK fun K1 hK1 => ?_
 refine region ?_
 refine s0 assignA rfl ?_
 refine nil ?_
 refine hK1 _ ?_
 clear hK1 K1
 refine seqK fun K2 hK2 => ?_
 refine seqK fun K3 hK3 => ?_
 refine region ?_
 refine s0 moveA rfl ?_
 refine sLen (f := TSel.c) (s := a0) (TK rfl) rfl rfl rfl rfl fun hL4 => ?_
 refine s0 (binI rfl rfl rfl) rfl ?_
 refine s0 moveA rfl ?_
 refine gC rfl rfl (fun hC => moveA) rfl ?_
 refine gC rfl rfl (fun hC => ungdA (k := 10) rfl (lenM' (f := TSel.c) (s := a0) (TK rfl) rfl rfl rfl)) rfl ?_
 refine gC rfl rfl (fun hC => ungdA (k := 11) rfl (binI rfl rfl rfl)) rfl ?_
 refine s0 (pickOrA rfl rfl rfl) rfl ?_
 refine s0 moveA rfl ?_
 refine gC rfl rfl (fun hC => moveA) rfl ?_
 refine gC rfl rfl (fun hC => ungdA (k := 15) rfl (binI rfl rfl rfl)) rfl ?_
 refine s0 (pickOrA rfl rfl rfl) rfl ?_
 refine nil ?_
 refine hK3 _ ?_
 clear hK3 K3
 refine condE hE rfl (fun hc5 hE => ?_) (fun hc5 hE => ?_)
 ·refine seqK fun K6 hK6 => ?_
  refine region ?_
  refine s0 assignA rfl ?_
  refine nil ?_
  refine hK6 _ ?_
  clear hK6 K6
  refine AWp.ret ?_
  repeat (first | refine xBlock_ret ?_ | refine xThen_ret ?_)
  obtain rfl := Option.some.inj hE
  refine retQ.retF H rfl ⟨rfl, rfl⟩ ?_
  exact (fun _ _ h => h)
 refine AWp.skip ?_
 refine hK2 _ ?_
 clear hK2 K2
 refine seqJH KeepsT.nil (fun (z : Unit) => []) (fun z => H) (fun z => r08_selsRight_j7  = some r) ?_ ?_
 ·intro K7 hK7
  refine seqK fun K9 hK9 => ?_
  refine region ?_
  refine s0 assignA rfl ?_
  refine nil ?_
  refine hK9 _ ?_
  clear hK9 K9
  refine block ?_
  refine loopH (KeepsT.A (k := 0) (KeepsT.A (k := 1) KeepsT.nil)) (fun (z : Nat × Nat) => [(5, .a (.d (.int .i64 ((z.2 : Nat) : Int))))]) (fun z => H) (fun z => z.1) (fun z => r08_selsRight_l10 a0 a1 (Z43_n n) z.1 z.2 = some r) ((a0.l.length + 1), 0) hE Weak.toA ?_
  rintro ⟨n10, s5_11⟩ hE K10 hK10
  try dsimp only at hE
  cases n10 with
  | zero => cases hE
  | succ n10 =>
    rw [r08_selsRight_l10] at hE
    refine seqK fun K12 hK12 => ?_
    refine seqK fun K13 hK13 => ?_
    refine region ?_
    refine s0 moveA rfl ?_
    refine s0 moveA rfl ?_
    refine sLen (f := TSel.c) (s := a0) (TK rfl) rfl rfl rfl rfl fun hL14 => ?_
    refine s0 (binI rfl rfl rfl) rfl ?_
    refine nil ?_
    refine hK13 _ ?_
    clear hK13 K13
    refine condE hE rfl (fun hc15 hE => ?_) (fun hc15 hE => ?_)
    ·try dsimp only at hc15
     have hf15 := of_decide_eq_true hc15
     refine AWp.skip ?_
     refine hK12 _ ?_
     clear hK12 K12
     refine seqK fun K16 hK16 => ?_
     refine block ?_
     refine seqK fun K17 hK17 => ?_
     refine region ?_
     refine s0 moveA rfl ?_
     refine s0 moveA rfl ?_
     obtain ⟨x18, gx18, hE⟩ := bindO_some hE
     refine s0 (idxMn (f := TSel.c) (n := s5_11) (TK rfl) rfl (TK rfl) rfl rfl rfl gx18) rfl ?_
     refine s0 (loadV (TK rfl) rfl rfl rfl) rfl ?_
     refine s0 moveA rfl ?_
     obtain ⟨x19, gx19, hE⟩ := bindO_some hE
     refine s0 (callP rfl rfl (fun H => ih_100 gx19 H)) rfl ?_
     refine s0 (notB rfl) rfl ?_
     refine nil ?_
     refine hK17 _ ?_
     clear hK17 K17
     refine condE hE rfl (fun hc20 hE => ?_) (fun hc20 hE => ?_)
     ·refine seqK fun K21 hK21 => ?_
      refine region ?_
      refine s0 assignA rfl ?_
      refine nil ?_
      refine hK21 _ ?_
      clear hK21 K21
      refine AWp.ret ?_
      repeat (first | refine xBlock_ret ?_ | refine xThen_ret ?_)
      obtain rfl := Option.some.inj hE
      refine retQ.retF H rfl ⟨rfl, rfl⟩ ?_
      exact (fun _ _ h => h)
     refine AWp.skip ?_
     refine hK16 _ ?_
     clear hK16 K16
     refine region ?_
     refine s0 moveA rfl ?_
     refine s0 (addIA rfl rfl) rfl ?_
     refine s0 assignA rfl ?_
     refine nil ?_
     exact hK10 _ (n10, (s5_11 + 1)) Weak.toA hE (Nat.lt_succ_self _)
    refine AWp.exit ?_
    exact hK7 _ () Weak.toA hE
 rintro _ hE
 try dsimp only at hE
 unfold r08_selsRight_j7 at hE
 refine seqK fun K8 hK8 => ?_
 refine region ?_
 refine s0 assignA rfl ?_
 refine nil ?_
 refine hK8 _ ?_
 clear hK8 K8
 refine AWp.ret ?_
 repeat (first | refine xBlock_ret ?_ | refine xThen_ret ?_)
 obtain rfl := Option.some.inj hE
 refine retQ.retF H rfl ⟨rfl, rfl⟩ ?_
 exact (fun _ _ h => h)
theorem Z43_step (n : Nat) (ih_52 : ∀ {a0 : (Sl TSel)} {a1 : Int} {w0 : Option Nat}  {r : Bool}, r08_selsRight_n n a0 a1 = some r → ∀ (H : Heap), ACalls Tryz.prog 52 [.d (Sl.d 7 TSel.c w0 a0), .d (.int .i64 a1)] H fun v h' => v = .a (.d (.bool r)) ∧ h' = H) (ih_100 : ∀ {a0 : TSel} {a1 : Int}   {r : Bool}, Z43_n n a0 a1 = some r → ∀ (H : Heap), ACalls Tryz.prog 100 [.agg (TSel.c a0), .d (.int .i64 a1)] H fun v h' => v = .a (.d (.bool r)) ∧ h' = H) : ∀ {a0 : TSel} {a1 : Int}   {r : Bool}, Z43_n (n + 1) a0 a1 = some r → ∀ (H : Heap), ACalls Tryz.prog 100 [.agg (TSel.c a0), .d (.int .i64 a1)] H fun v h' => v = .a (.d (.bool r)) ∧ h' = H := by
 intro a0 a1   r hE H 
 rw [Z43_n] at hE
 refine ACalls.of_wp (fn := Tryz.f100) (c := _) Tryz.tab_ok (fun _ _ => Tryz.call100 _ _) Tryz.func100 rfl (n := 110) rfl (rs := [.tmp 4]) rfl rfl ?_
 refine seqK fun K1 hK1 => ?_
 refine region ?_
 refine s0 (boxV rfl) rfl ?_
 refine s0 assignA rfl ?_
 refine nil ?_
 refine hK1 _ ?_
 clear hK1 K1
 refine seqK fun K2 hK2 => ?_
 refine seqK fun K3 hK3 => ?_
 refine region ?_
 refine s0 (fieldVA (TK rfl) rfl rfl (TK rfl) rfl rfl) rfl ?_
 refine s0 (loadV (TK rfl) rfl rfl rfl) rfl ?_
 obtain ⟨x4, gx4, hE⟩ := bindO_some hE
 refine s0 (callP rfl rfl (fun H => Z42_walk gx4 H)) rfl ?_
 refine s0 (notB rfl) rfl ?_
 refine s0 moveA rfl ?_
 refine gC rfl rfl (fun hC => fieldVA (TK rfl) rfl rfl (TK rfl) rfl rfl) rfl ?_
 refine gC rfl rfl (fun hC => ungdA (k := 10) rfl (loadV (TK rfl) rfl rfl rfl)) rfl ?_
 obtain ⟨x5, gx5, hE⟩ := guardO_some hE
 refine gC rfl rfl (fun hC => ungdA (k := 11) rfl (callP rfl rfl (fun H => Z40_walk (gx5 hC) H))) rfl ?_
 refine gC rfl rfl (fun hC => ungdA (k := 12) rfl (notB rfl)) rfl ?_
 refine s0 (pickOrA rfl rfl rfl) rfl ?_
 refine nil ?_
 refine hK3 _ ?_
 clear hK3 K3
 refine condE hE rfl (fun hc6 hE => ?_) (fun hc6 hE => ?_)
 ·refine seqK fun K7 hK7 => ?_
  refine region ?_
  refine s0 assignA rfl ?_
  refine nil ?_
  refine hK7 _ ?_
  clear hK7 K7
  refine AWp.ret ?_
  repeat (first | refine xBlock_ret ?_ | refine xThen_ret ?_)
  obtain rfl := Option.some.inj hE
  refine retQ.retF H rfl ⟨rfl, rfl⟩ ?_
  exact (fun _ _ h => h)
 refine AWp.skip ?_
 refine hK2 _ ?_
 clear hK2 K2
 refine seqK fun K8 hK8 => ?_
 refine seqK fun K9 hK9 => ?_
 refine region ?_
 refine s0 (fieldVA (TK rfl) rfl rfl (TK rfl) rfl rfl) rfl ?_
 refine s0 (loadV (TK rfl) rfl rfl rfl) rfl ?_
 refine nil ?_
 refine hK9 _ ?_
 clear hK9 K9
 refine block ?_
 refine seqK fun K10 hK10 => ?_
 refine region ?_
 refine s0 (binI rfl rfl rfl) rfl ?_
 refine s0 assignA rfl ?_
 refine nil ?_
 refine hK10 _ ?_
 clear hK10 K10
 refine condE hE rfl (fun hc11 hE => ?_) (fun hc11 hE => ?_)
 ·refine seqK fun K12 hK12 => ?_
  refine region ?_
  refine s0 (fieldVA (TK rfl) rfl rfl (TK rfl) rfl rfl) rfl ?_
  refine s0 (loadV (TK rfl) rfl rfl rfl) rfl ?_
  obtain ⟨x13, gx13, hE⟩ := bindO_some hE
  refine s0 (callP rfl rfl (fun H => Z12_walk gx13 H)) rfl ?_
  refine s0 moveA rfl ?_
  refine gC rfl rfl (fun hC => fieldVA (TK rfl) rfl rfl (TK rfl) rfl rfl) rfl ?_
  refine gC rfl rfl (fun hC => ungdA (k := 23) rfl (loadV (TK rfl) rfl rfl rfl)) rfl ?_
  refine gC rfl rfl (fun hC => ungdA (k := 24) rfl (binS rfl rfl rfl)) rfl ?_
  refine gC rfl rfl (fun hC => ungdA (k := 25) rfl moveA) rfl ?_
  refine gC rfl rfl (fun hC => fieldVA (TK rfl) rfl rfl (TK rfl) rfl rfl) rfl ?_
  refine gC rfl rfl (fun hC => ungdA (k := 27) rfl (loadV (TK rfl) rfl rfl rfl)) rfl ?_
  obtain ⟨x14, gx14, hE⟩ := guardO_some hE
  refine gC rfl rfl (fun hC => ungdA (k := 28) rfl (callP rfl rfl (fun H => Z12_walk (gx14 hC) H))) rfl ?_
  refine gC rfl rfl (fun hC => ungdA (k := 26) rfl (pickOrA rfl rfl rfl)) rfl ?_
  refine s0 (pickAndA rfl rfl rfl) rfl ?_
  refine s0 moveA rfl ?_
  refine gC rfl rfl (fun hC => fieldVA (TK rfl) rfl rfl (TK rfl) rfl rfl) rfl ?_
  refine gC rfl rfl (fun hC => ungdA (k := 33) rfl (loadV (TK rfl) rfl rfl rfl)) rfl ?_
  refine gC rfl rfl (fun hC => ungdA (k := 34) rfl (binS rfl rfl rfl)) rfl ?_
  refine s0 (pickAndA rfl rfl rfl) rfl ?_
  refine s0 moveA rfl ?_
  refine gC rfl rfl (fun hC => fieldVA (TK rfl) rfl rfl (TK rfl) rfl rfl) rfl ?_
  refine gC rfl rfl (fun hC => ungdA (k := 38) rfl (loadV (TK rfl) rfl rfl (congrArg (fun x => some (A.d x)) (TSel.FSelsD_eq _)))) rfl ?_
  refine gC rfl rfl (fun hC => ungdA (k := 39) rfl (lenM' (f := TSel.c) (s := a0.FSels) (TK rfl) rfl rfl rfl)) rfl ?_
  refine gC rfl rfl (fun hC => ungdA (k := 40) rfl (binI rfl rfl rfl)) rfl ?_
  refine gC rfl rfl (fun hC => ungdA (k := 41) rfl moveA) rfl ?_
  refine gC rfl rfl (fun hC => fieldVA (TK rfl) rfl rfl (TK rfl) rfl rfl) rfl ?_
  refine gC rfl rfl (fun hC => ungdA (k := 43) rfl (loadV (TK rfl) rfl rfl (congrArg (fun x => some (A.d x)) (TSel.FSelsD_eq _)))) rfl ?_
  refine gC rfl rfl (fun hC => moveA) rfl ?_
  obtain ⟨x15, gx15, hE⟩ := guardO_some hE
  refine gC rfl rfl (fun hC => ungdA (k := 45) rfl (addM rfl rfl (gx15 hC))) rfl ?_
  obtain ⟨x16, gx16, hE⟩ := guardO_some hE
  refine gC rfl rfl (fun hC => ungdA (k := 44) rfl (ungdA (k := 46) rfl (callP rfl rfl (fun H => ih_52 (gx16 hC) H)))) rfl ?_
  refine gC rfl rfl (fun hC => ungdA (k := 42) rfl (pickOrA rfl rfl rfl)) rfl ?_
  refine s0 (pickAndA rfl rfl rfl) rfl ?_
  refine s0 assignA rfl ?_
  refine nil ?_
  refine hK12 _ ?_
  clear hK12 K12
  refine AWp.ret ?_
  repeat (first | refine xBlock_ret ?_ | refine xThen_ret ?_)
  obtain rfl := Option.some.inj hE
  refine retQ.retF H rfl ⟨rfl, rfl⟩ ?_
  exact (fun _ _ h => h)
 refine seqK fun K17 hK17 => ?_
 refine region ?_
 refine s0 (binI rfl rfl rfl) rfl ?_
 refine s0 assignA rfl ?_
 refine nil ?_
 refine hK17 _ ?_
 clear hK17 K17
 refine condE hE rfl (fun hc18 hE => ?_) (fun hc18 hE => ?_)
 ·refine seqK fun K19 hK19 => ?_
  refine region ?_
  refine s0 (fieldVA (TK rfl) rfl rfl (TK rfl) rfl rfl) rfl ?_
  refine s0 (loadV (TK rfl) rfl rfl rfl) rfl ?_
  obtain ⟨x20, gx20, hE⟩ := bindO_some hE
  refine s0 (callP rfl rfl (fun H => Z44_walk gx20 H)) rfl ?_
  refine s0 moveA rfl ?_
  refine gC rfl rfl (fun hC => fieldVA (TK rfl) rfl rfl (TK rfl) rfl rfl) rfl ?_
  refine gC rfl rfl (fun hC => ungdA (k := 56) rfl (loadV (TK rfl) rfl rfl rfl)) rfl ?_
  refine gC rfl rfl (fun hC => ungdA (k := 57) rfl (binS rfl rfl rfl)) rfl ?_
  refine s0 (pickAndA rfl rfl rfl) rfl ?_
  refine s0 moveA rfl ?_
  refine gC rfl rfl (fun hC => fieldVA (TK rfl) rfl rfl (TK rfl) rfl rfl) rfl ?_
  refine gC rfl rfl (fun hC => ungdA (k := 61) rfl (loadV (TK rfl) rfl rfl rfl)) rfl ?_
  refine gC rfl rfl (fun hC => ungdA (k := 62) rfl (binS rfl rfl rfl)) rfl ?_
  refine s0 (pickAndA rfl rfl rfl) rfl ?_
  refine s0 moveA rfl ?_
  refine gC rfl rfl (fun hC => fieldVA (TK rfl) rfl rfl (TK rfl) rfl rfl) rfl ?_
  refine gC rfl rfl (fun hC => ungdA (k := 66) rfl (loadV (TK rfl) rfl rfl rfl)) rfl ?_
  refine gC rfl rfl (fun hC => ungdA (k := 67) rfl (lenM' (f := TArg.c) (s := a0.FArgs) (TK rfl) rfl rfl rfl)) rfl ?_
  refine gC rfl rfl (fun hC => ungdA (k := 68) rfl (binI rfl rfl rfl)) rfl ?_
  refine s0 (pickAndA rfl rfl rfl) rfl ?_
  refine s0 moveA rfl ?_
  refine gC rfl rfl (fun hC => fieldVA (TK rfl) rfl rfl (TK rfl) rfl rfl) rfl ?_
  refine gC rfl rfl (fun hC => ungdA (k := 72) rfl (loadV (TK rfl) rfl rfl (congrArg (fun x => some (A.d x)) (TSel.FSelsD_eq _)))) rfl ?_
  refine gC rfl rfl (fun hC => ungdA (k := 73) rfl (lenM' (f := TSel.c) (s := a0.FSels) (TK rfl) rfl rfl rfl)) rfl ?_
  refine gC rfl rfl (fun hC => ungdA (k := 74) rfl (binI rfl rfl rfl)) rfl ?_
  refine s0 (pickAndA rfl rfl rfl) rfl ?_
  refine s0 assignA rfl ?_
  refine nil ?_
  refine hK19 _ ?_
  clear hK19 K19
  refine AWp.ret ?_
  repeat (first | refine xBlock_ret ?_ | refine xThen_ret ?_)
  obtain rfl := Option.some.inj hE
  refine retQ.retF H rfl ⟨rfl, rfl⟩ ?_
  exact (fun _ _ h => h)
 refine seqK fun K21 hK21 => ?_
 refine region ?_
 refine s0 (binI rfl rfl rfl) rfl ?_
 refine s0 assignA rfl ?_
 refine nil ?_
 refine hK21 _ ?_
 clear hK21 K21
 refine condE hE rfl (fun hc22 hE => ?_) (fun hc22 hE => ?_)
 ·refine seqK fun K23 hK23 => ?_
  refine region ?_
  refine s0 (fieldVA (TK rfl) rfl rfl (TK rfl) rfl rfl) rfl ?_
  refine s0 (loadV (TK rfl) rfl rfl rfl) rfl ?_
  refine s0 (binS rfl rfl rfl) rfl ?_
  refine s0 moveA rfl ?_
  refine gC rfl rfl (fun hC => fieldVA (TK rfl) rfl rfl (TK rfl) rfl rfl) rfl ?_
  refine gC rfl rfl (fun hC => ungdA (k := 83) rfl (loadV (TK rfl) rfl rfl rfl)) rfl ?_
  refine gC rfl rfl (fun hC => ungdA (k := 84) rfl (binS rfl rfl rfl)) rfl ?_
  refine s0 (pickAndA rfl rfl rfl) rfl ?_
  refine s0 moveA rfl ?_
  refine gC rfl rfl (fun hC => fieldVA (TK rfl) rfl rfl (TK rfl) rfl rfl) rfl ?_
  refine gC rfl rfl (fun hC => ungdA (k := 88) rfl (loadV (TK rfl) rfl rfl rfl)) rfl ?_
  refine gC rfl rfl (fun hC => ungdA (k := 89) rfl (binS rfl rfl rfl)) rfl ?_
  refine gC rfl rfl (fun hC => ungdA (k := 90) rfl moveA) rfl ?_
  refine gC rfl rfl (fun hC => fieldVA (TK rfl) rfl rfl (TK rfl) rfl rfl) rfl ?_
  refine gC rfl rfl (fun hC => ungdA (k := 92) rfl (loadV (TK rfl) rfl rfl rfl)) rfl ?_
  obtain ⟨x24, gx24, hE⟩ := guardO_some hE
  refine gC rfl rfl (fun hC => ungdA (k := 93) rfl (callP rfl rfl (fun H => Z12_walk (gx24 hC) H))) rfl ?_
  refine gC rfl rfl (fun hC => ungdA (k := 91) rfl (pickOrA rfl rfl rfl)) rfl ?_
  refine s0 (pickAndA rfl rfl rfl) rfl ?_
  refine s0 moveA rfl ?_
  refine gC rfl rfl (fun hC => fieldVA (TK rfl) rfl rfl (TK rfl) rfl rfl) rfl ?_
  refine gC rfl rfl (fun hC => ungdA (k := 98) rfl (loadV (TK rfl) rfl rfl rfl)) rfl ?_
  refine gC rfl rfl (fun hC => ungdA (k := 99) rfl (lenM' (f := TArg.c) (s := a0.FArgs) (TK rfl) rfl rfl rfl)) rfl ?_
  refine gC rfl rfl (fun hC => ungdA (k := 100) rfl (binI rfl rfl rfl)) rfl ?_
  refine s0 (pickAndA rfl rfl rfl) rfl ?_
  refine s0 moveA rfl ?_
  refine gC rfl rfl (fun hC => fieldVA (TK rfl) rfl rfl (TK rfl) rfl rfl) rfl ?_
  refine gC rfl rfl (fun hC => ungdA (k := 104) rfl (loadV (TK rfl) rfl rfl (congrArg (fun x => some (A.d x)) (TSel.FSelsD_eq _)))) rfl ?_
  refine gC rfl rfl (fun hC => moveA) rfl ?_
  obtain ⟨x25, gx25, hE⟩ := guardO_some hE
  refine gC rfl rfl (fun hC => ungdA (k := 106) rfl (addM rfl rfl (gx25 hC))) rfl ?_
  obtain ⟨x26, gx26, hE⟩ := guardO_some hE
  refine gC rfl rfl (fun hC => ungdA (k := 105) rfl (ungdA (k := 107) rfl (callP rfl rfl (fun H => ih_52 (gx26 hC) H)))) rfl ?_
  refine s0 (pickAndA rfl rfl rfl) rfl ?_
  refine s0 assignA rfl ?_
  refine nil ?_
  refine hK23 _ ?_
  clear hK23 K23
  refine AWp.ret ?_
  repeat (first | refine xBlock_ret ?_ | refine xThen_ret ?_)
  obtain rfl := Option.some.inj hE
  refine retQ.retF H rfl ⟨rfl, rfl⟩ ?_
  exact (fun _ _ h => h)
 refine AWp.skip ?_
 refine hK8 _ ?_
 clear hK8 K8
 refine seqK fun K27 hK27 => ?_
 refine region ?_
 refine s0 assignA rfl ?_
 refine nil ?_
 refine hK27 _ ?_
 clear hK27 K27
 refine AWp.ret ?_
 repeat (first | refine xBlock_ret ?_ | refine xThen_ret ?_)
 obtain rfl := Option.some.inj hE
 refine retQ.retF H rfl ⟨rfl, rfl⟩ ?_
 exact (fun _ _ h => h)
theorem r08_selsRight_all : ∀ (n : Nat), (∀ {a0 : (Sl TSel)} {a1 : Int} {w0 : Option Nat}  {r : Bool}, r08_selsRight_n n a0 a1 = some r → ∀ (H : Heap), ACalls Tryz.prog 52 [.d (Sl.d 7 TSel.c w0 a0), .d (.int .i64 a1)] H fun v h' => v = .a (.d (.bool r)) ∧ h' = H) ∧ (∀ {a0 : TSel} {a1 : Int}   {r : Bool}, Z43_n n a0 a1 = some r → ∀ (H : Heap), ACalls Tryz.prog 100 [.agg (TSel.c a0), .d (.int .i64 a1)] H fun v h' => v = .a (.d (.bool r)) ∧ h' = H)
 | 0 => ⟨fun hE => by first | cases hE | (rw [r08_selsRight_n] at hE; cases hE), fun hE => by first | cases hE | (rw [Z43_n] at hE; cases hE)⟩
 | n + 1 => ⟨r08_selsRight_step n (r08_selsRight_all n).1 (r08_selsRight_all n).2, Z43_step n (r08_selsRight_all n).1 (r08_selsRight_all n).2⟩
def r08_selsRight (a0 : (Sl TSel)) (a1 : Int) : Option Bool := r08_selsRight_n F0 a0 a1
theorem r08_selsRight_walk {a0 : (Sl TSel)} {a1 : Int} {w0 : Option Nat}  {r : Bool} (hE : r08_selsRight a0 a1 = some r) (H : Heap)  : ACalls Tryz.prog 52 [.d (Sl.d 7 TSel.c w0 a0), .d (.int .i64 a1)] H fun v h' => v = .a (.d (.bool r)) ∧ h' = H := (r08_selsRight_all F0).1 hE H 
def Z39_j11   : Option Bool := some true
def Z39_l14 (a0 : TQuery)  : Nat → Nat → Option Bool
 | 0, _ => none
 | n14 + 1, s6_15 => bif (decide (((s6_15 : Nat) : Int) < ((a0.FFrags.l.length : Nat) : Int))) then ((a0.FFrags.l[s6_15]?).bind fun x22 => (Z44 x22.FName).bind fun x24 => guardO (!(!x24)) (Z12 x22.FOn) false fun x25 => guardO (!((!x24) || (!x25))) (r08_selsRight x22.FSels (1 : Int)) false fun x26 => bif (((!x24) || (!x25)) || (!x26)) then (some false) else ((Z39_l14 a0 n14) (s6_15 + 1))) else (Z39_j11   )
def Z39_j10 (a0 : TQuery)   : Option Bool := Z39_l14 a0 (a0.FFrags.l.length + 1) 0
def Z39_l30 (a0 : TQuery)  : Nat → Nat → Option Bool
 | 0, _ => none
 | n30 + 1, s4_31 => bif (decide (((s4_31 : Nat) : Int) < ((a0.FOps.l.length : Nat) : Int))) then ((a0.FOps.l[s4_31]?).bind fun x38 => guardO ((!((decide (x38.FKind < (1 : Int))) || (decide ((3 : Int) < x38.FKind))) && (!(x38.FName == ([] : Bs))))) (Z12 x38.FName) false fun x40 => guardO (!(((decide (x38.FKind < (1 : Int))) || (decide ((3 : Int) < x38.FKind))) || ((!(x38.FName == ([] : Bs))) && (!x40)))) (Z45 x38.FVars) false fun x41 => guardO (!((((decide (x38.FKind < (1 : Int))) || (decide ((3 : Int) < x38.FKind))) || ((!(x38.FName == ([] : Bs))) && (!x40))) || (!x41))) (r08_selsRight x38.FSels (1 : Int)) false fun x42 => bif (((((decide (x38.FKind < (1 : Int))) || (decide ((3 : Int) < x38.FKind))) || ((!(x38.FName == ([] : Bs))) && (!x40))) || (!x41)) || (!x42)) then (some false) else ((Z39_l30 a0 n30) (s4_31 + 1))) else (Z39_j10 a0  )
def Z39 (a0 : TQuery) : Option Bool := (addC ((a0.FOps.l.length : Nat) : Int) ((a0.FFrags.l.length : Nat) : Int)).bind fun x5 => bif ((decide (x5 < (1 : Int))) || (decide ((64 : Int) < x5))) then (some false) else (Z39_l30 a0 (a0.FOps.l.length + 1) 0)
theorem Z39_walk {a0 : TQuery}   {r : Bool} (hE : Z39 a0 = some r) (H : Heap)  : ACalls Tryz.prog 21 [.agg (TQuery.c a0)] H fun v h' => v = .a (.d (.bool r)) ∧ h' = H := by
 unfold Z39 at hE
 refine ACalls.of_wp (fn := Tryz.f21) (c := _) Tryz.tab_ok (fun _ _ => Tryz.call21 _ _) Tryz.func21 rfl (n := 92) rfl (rs := [.tmp 2]) rfl rfl ?_
 refine seqK fun K1 hK1 => ?_
 refine region ?_
 refine s0 (boxV rfl) rfl ?_
 refine s0 assignA rfl ?_
 refine nil ?_
 refine hK1 _ ?_
 clear hK1 K1
 refine seqK fun K2 hK2 => ?_
 refine region ?_
 refine s0 (fieldVA (TK rfl) rfl rfl (TK rfl) rfl rfl) rfl ?_
 refine s0 (loadV (TK rfl) rfl rfl rfl) rfl ?_
 refine sLen (f := TOp.c) (s := a0.FOps) (TK rfl) rfl rfl rfl rfl fun hL3 => ?_
 refine s0 (fieldVA (TK rfl) rfl rfl (TK rfl) rfl rfl) rfl ?_
 refine s0 (loadV (TK rfl) rfl rfl rfl) rfl ?_
 refine sLen (f := TFrag.c) (s := a0.FFrags) (TK rfl) rfl rfl rfl rfl fun hL4 => ?_
 obtain ⟨x5, gx5, hE⟩ := bindO_some hE
 refine s0 (addM rfl rfl gx5) rfl ?_
 refine s0 assignA rfl ?_
 refine nil ?_
 refine hK2 _ ?_
 clear hK2 K2
 refine seqK fun K6 hK6 => ?_
 refine seqK fun K7 hK7 => ?_
 refine region ?_
 refine s0 moveA rfl ?_
 refine s0 (binI rfl rfl rfl) rfl ?_
 refine s0 moveA rfl ?_
 refine gC rfl rfl (fun hC => moveA) rfl ?_
 refine gC rfl rfl (fun hC => ungdA (k := 18) rfl (binI rfl rfl rfl)) rfl ?_
 refine s0 (pickOrA rfl rfl rfl) rfl ?_
 refine nil ?_
 refine hK7 _ ?_
 clear hK7 K7
 refine condE hE rfl (fun hc8 hE => ?_) (fun hc8 hE => ?_)
 ·refine seqK fun K9 hK9 => ?_
  refine region ?_
  refine s0 assignA rfl ?_
  refine nil ?_
  refine hK9 _ ?_
  clear hK9 K9
  refine AWp.ret ?_
  repeat (first | refine xBlock_ret ?_ | refine xThen_ret ?_)
  obtain rfl := Option.some.inj hE
  refine retQ.retF H rfl ⟨rfl, rfl⟩ ?_
  exact (fun _ _ h => h)
 refine AWp.skip ?_
 refine hK6 _ ?_
 clear hK6 K6
 refine seqJH (KeepsT.A (k := 1) KeepsT.nil) (fun (z : Unit) => []) (fun z => H) (fun z => Z39_j10 a0  = some r) ?_ ?_
 ·intro K10 hK10
  refine seqK fun K29 hK29 => ?_
  refine region ?_
  refine s0 assignA rfl ?_
  refine nil ?_
  refine hK29 _ ?_
  clear hK29 K29
  refine block ?_
  refine loopH (KeepsT.A (k := 1) KeepsT.nil) (fun (z : Nat × Nat) => [(4, .a (.d (.int .i64 ((z.2 : Nat) : Int))))]) (fun z => H) (fun z => z.1) (fun z => Z39_l30 a0 z.1 z.2 = some r) ((a0.FOps.l.length + 1), 0) hE Weak.toA ?_
  rintro ⟨n30, s4_31⟩ hE K30 hK30
  try dsimp only at hE
  cases n30 with
  | zero => cases hE
  | succ n30 =>
    rw [Z39_l30] at hE
    refine seqK fun K32 hK32 => ?_
    refine seqK fun K33 hK33 => ?_
    refine region ?_
    refine s0 moveA rfl ?_
    refine s0 (fieldVA (TK rfl) rfl rfl (TK rfl) rfl rfl) rfl ?_
    refine s0 (loadV (TK rfl) rfl rfl rfl) rfl ?_
    refine sLen (f := TOp.c) (s := a0.FOps) (TK rfl) rfl rfl rfl rfl fun hL34 => ?_
    refine s0 (binI rfl rfl rfl) rfl ?_
    refine nil ?_
    refine hK33 _ ?_
    clear hK33 K33
    refine condE hE rfl (fun hc35 hE => ?_) (fun hc35 hE => ?_)
    ·try dsimp only at hc35
     have hf35 := of_decide_eq_true hc35
     refine AWp.skip ?_
     refine hK32 _ ?_
     clear hK32 K32
     refine seqK fun K36 hK36 => ?_
     refine block ?_
     refine seqK fun K37 hK37 => ?_
     refine region ?_
     refine s0 (fieldVA (TK rfl) rfl rfl (TK rfl) rfl rfl) rfl ?_
     refine s0 (loadV (TK rfl) rfl rfl rfl) rfl ?_
     refine s0 moveA rfl ?_
     obtain ⟨x38, gx38, hE⟩ := bindO_some hE
     refine s0 (idxMn (f := TOp.c) (n := s4_31) (TK rfl) rfl (TK rfl) rfl rfl rfl gx38) rfl ?_
     refine s0 (loadV (TK rfl) rfl rfl rfl) rfl ?_
     refine sL (allocLA (TK rfl) rfl) rfl ?_
     refine sLn (storeLFA (TK rfl) rfl rfl rfl rfl rfl) ?_
     refine nil ?_
     refine hK37 _ ?_
     clear hK37 K37
     refine freezeA 5 _ rfl (Keeps.c (k := 1) (by conv => lhs; whnf) (by rfl) (Keeps.c (k := 4) (by conv => lhs; whnf) (by rfl) Keeps.nil)) ?_
     refine seqK fun K39 hK39 => ?_
     refine region ?_
     refine s0 (fieldVA (TK rfl) rfl rfl (TK rfl) rfl rfl) rfl ?_
     refine s0 (loadV (TK rfl) rfl rfl rfl) rfl ?_
     refine s0 (binI rfl rfl rfl) rfl ?_
     refine s0 moveA rfl ?_
     refine gC rfl rfl (fun hC => fieldVA (TK rfl) rfl rfl (TK rfl) rfl rfl) rfl ?_
     refine gC rfl rfl (fun hC => ungdA (k := 37) rfl (loadV (TK rfl) rfl rfl rfl)) rfl ?_
     refine gC rfl rfl (fun hC => ungdA (k := 38) rfl (binI rfl rfl rfl)) rfl ?_
     refine s0 (pickOrA rfl rfl rfl) rfl ?_
     refine s0 moveA rfl ?_
     refine gC rfl rfl (fun hC => fieldVA (TK rfl) rfl rfl (TK rfl) rfl rfl) rfl ?_
     refine gC rfl rfl (fun hC => ungdA (k := 42) rfl (loadV (TK rfl) rfl rfl rfl)) rfl ?_
     refine gC rfl rfl (fun hC => ungdA (k := 43) rfl (binS rfl rfl rfl)) rfl ?_
     refine gC rfl rfl (fun hC => ungdA (k := 44) rfl moveA) rfl ?_
     refine gC rfl rfl (fun hC => fieldVA (TK rfl) rfl rfl (TK rfl) rfl rfl) rfl ?_
     refine gC rfl rfl (fun hC => ungdA (k := 46) rfl (loadV (TK rfl) rfl rfl rfl)) rfl ?_
     obtain ⟨x40, gx40, hE⟩ := guardO_some hE
     refine gC rfl rfl (fun hC => ungdA (k := 47) rfl (callP rfl rfl (fun H => Z12_walk (gx40 hC) H))) rfl ?_
     refine gC rfl rfl (fun hC => ungdA (k := 48) rfl (notB rfl)) rfl ?_
     refine gC rfl rfl (fun hC => ungdA (k := 45) rfl (pickAndA rfl rfl rfl)) rfl ?_
     refine s0 (pickOrA rfl rfl rfl) rfl ?_
     refine s0 moveA rfl ?_
     refine gC rfl rfl (fun hC => fieldVA (TK rfl) rfl rfl (TK rfl) rfl rfl) rfl ?_
     refine gC rfl rfl (fun hC => ungdA (k := 53) rfl (loadV (TK rfl) rfl rfl rfl)) rfl ?_
     obtain ⟨x41, gx41, hE⟩ := guardO_some hE
     refine gC rfl rfl (fun hC => ungdA (k := 54) rfl (callP rfl rfl (fun H => Z45_walk (gx41 hC) H))) rfl ?_
     refine gC rfl rfl (fun hC => ungdA (k := 55) rfl (notB rfl)) rfl ?_
     refine s0 (pickOrA rfl rfl rfl) rfl ?_
     refine s0 moveA rfl ?_
     refine gC rfl rfl (fun hC => fieldVA (TK rfl) rfl rfl (TK rfl) rfl rfl) rfl ?_
     refine gC rfl rfl (fun hC => ungdA (k := 59) rfl (loadV (TK rfl) rfl rfl rfl)) rfl ?_
     obtain ⟨x42, gx42, hE⟩ := guardO_some hE
     refine gC rfl rfl (fun hC => ungdA (k := 60) rfl (callP rfl rfl (fun H => r08_selsRight_walk (gx42 hC) H))) rfl ?_
     refine gC rfl rfl (fun hC => ungdA (k := 61) rfl (notB rfl)) rfl ?_
     refine s0 (pickOrA rfl rfl rfl) rfl ?_
     refine nil ?_
     refine hK39 _ ?_
     clear hK39 K39
     refine condE hE rfl (fun hc43 hE => ?_) (fun hc43 hE => ?_)
     ·refine seqK fun K44 hK44 => ?_
      refine region ?_
      refine s0 assignA rfl ?_
      refine nil ?_
      refine hK44 _ ?_
      clear hK44 K44
      refine AWp.ret ?_
      repeat (first | refine xBlock_ret ?_ | refine xThen_ret ?_)
      obtain rfl := Option.some.inj hE
      refine retQ.retF H rfl ⟨rfl, rfl⟩ ?_
      exact (fun _ _ h => h)
     refine AWp.skip ?_
     refine hK36 _ ?_
     clear hK36 K36
     refine region ?_
     refine s0 moveA rfl ?_
     refine s0 (addIA rfl rfl) rfl ?_
     refine s0 assignA rfl ?_
     refine nil ?_
     exact hK30 _ (n30, (s4_31 + 1)) Weak.toA hE (Nat.lt_succ_self _)
    refine AWp.exit ?_
    exact hK10 _ () Weak.toA hE
 rintro _ hE
 try dsimp only at hE
 unfold Z39_j10 at hE
 refine seqJH KeepsT.nil (fun (z : Unit) => []) (fun z => H) (fun z => Z39_j11  = some r) ?_ ?_
 ·intro K11 hK11
  refine seqK fun K13 hK13 => ?_
  refine region ?_
  refine s0 assignA rfl ?_
  refine nil ?_
  refine hK13 _ ?_
  clear hK13 K13
  refine block ?_
  refine loopH (KeepsT.A (k := 1) KeepsT.nil) (fun (z : Nat × Nat) => [(6, .a (.d (.int .i64 ((z.2 : Nat) : Int))))]) (fun z => H) (fun z => z.1) (fun z => Z39_l14 a0 z.1 z.2 = some r) ((a0.FFrags.l.length + 1), 0) hE Weak.toA ?_
  rintro ⟨n14, s6_15⟩ hE K14 hK14
  try dsimp only at hE
  cases n14 with
  | zero => cases hE
  | succ n14 =>
    rw [Z39_l14] at hE
    refine seqK fun K16 hK16 => ?_
    refine seqK fun K17 hK17 => ?_
    refine region ?_
    refine s0 moveA rfl ?_
    refine s0 (fieldVA (TK rfl) rfl rfl (TK rfl) rfl rfl) rfl ?_
    refine s0 (loadV (TK rfl) rfl rfl rfl) rfl ?_
    refine sLen (f := TFrag.c) (s := a0.FFrags) (TK rfl) rfl rfl rfl rfl fun hL18 => ?_
    refine s0 (binI rfl rfl rfl) rfl ?_
    refine nil ?_
    refine hK17 _ ?_
    clear hK17 K17
    refine condE hE rfl (fun hc19 hE => ?_) (fun hc19 hE => ?_)
    ·try dsimp only at hc19
     have hf19 := of_decide_eq_true hc19
     refine AWp.skip ?_
     refine hK16 _ ?_
     clear hK16 K16
     refine seqK fun K20 hK20 => ?_
     refine block ?_
     refine seqK fun K21 hK21 => ?_
     refine region ?_
     refine s0 (fieldVA (TK rfl) rfl rfl (TK rfl) rfl rfl) rfl ?_
     refine s0 (loadV (TK rfl) rfl rfl rfl) rfl ?_
     refine s0 moveA rfl ?_
     obtain ⟨x22, gx22, hE⟩ := bindO_some hE
     refine s0 (idxMn (f := TFrag.c) (n := s6_15) (TK rfl) rfl (TK rfl) rfl rfl rfl gx22) rfl ?_
     refine s0 (loadV (TK rfl) rfl rfl rfl) rfl ?_
     refine sL (allocLA (TK rfl) rfl) rfl ?_
     refine sLn (storeLFA (TK rfl) rfl rfl rfl rfl rfl) ?_
     refine nil ?_
     refine hK21 _ ?_
     clear hK21 K21
     refine freezeA 7 _ rfl (Keeps.c (k := 1) (by conv => lhs; whnf) (by rfl) (Keeps.c (k := 6) (by conv => lhs; whnf) (by rfl) Keeps.nil)) ?_
     refine seqK fun K23 hK23 => ?_
     refine region ?_
     refine s0 (fieldVA (TK rfl) rfl rfl (TK rfl) rfl rfl) rfl ?_
     refine s0 (loadV (TK rfl) rfl rfl rfl) rfl ?_
     obtain ⟨x24, gx24, hE⟩ := bindO_some hE
     refine s0 (callP rfl rfl (fun H => Z44_walk gx24 H)) rfl ?_
     refine s0 (notB rfl) rfl ?_
     refine s0 moveA rfl ?_
     refine gC rfl rfl (fun hC => fieldVA (TK rfl) rfl rfl (TK rfl) rfl rfl) rfl ?_
     refine gC rfl rfl (fun hC => ungdA (k := 81) rfl (loadV (TK rfl) rfl rfl rfl)) rfl ?_
     obtain ⟨x25, gx25, hE⟩ := guardO_some hE
     refine gC rfl rfl (fun hC => ungdA (k := 82) rfl (callP rfl rfl (fun H => Z12_walk (gx25 hC) H))) rfl ?_
     refine gC rfl rfl (fun hC => ungdA (k := 83) rfl (notB rfl)) rfl ?_
     refine s0 (pickOrA rfl rfl rfl) rfl ?_
     refine s0 moveA rfl ?_
     refine gC rfl rfl (fun hC => fieldVA (TK rfl) rfl rfl (TK rfl) rfl rfl) rfl ?_
     refine gC rfl rfl (fun hC => ungdA (k := 87) rfl (loadV (TK rfl) rfl rfl rfl)) rfl ?_
     obtain ⟨x26, gx26, hE⟩ := guardO_some hE
     refine gC rfl rfl (fun hC => ungdA (k := 88) rfl (callP rfl rfl (fun H => r08_selsRight_walk (gx26 hC) H))) rfl ?_
     refine gC rfl rfl (fun hC => ungdA (k := 89) rfl (notB rfl)) rfl ?_
     refine s0 (pickOrA rfl rfl rfl) rfl ?_
     refine nil ?_
     refine hK23 _ ?_
     clear hK23 K23
     refine condE hE rfl (fun hc27 hE => ?_) (fun hc27 hE => ?_)
     ·refine seqK fun K28 hK28 => ?_
      refine region ?_
      refine s0 assignA rfl ?_
      refine nil ?_
      refine hK28 _ ?_
      clear hK28 K28
      refine AWp.ret ?_
      repeat (first | refine xBlock_ret ?_ | refine xThen_ret ?_)
      obtain rfl := Option.some.inj hE
      refine retQ.retF H rfl ⟨rfl, rfl⟩ ?_
      exact (fun _ _ h => h)
     refine AWp.skip ?_
     refine hK20 _ ?_
     clear hK20 K20
     refine region ?_
     refine s0 moveA rfl ?_
     refine s0 (addIA rfl rfl) rfl ?_
     refine s0 assignA rfl ?_
     refine nil ?_
     exact hK14 _ (n14, (s6_15 + 1)) Weak.toA hE (Nat.lt_succ_self _)
    refine AWp.exit ?_
    exact hK11 _ () Weak.toA hE
 rintro _ hE
 try dsimp only at hE
 unfold Z39_j11 at hE
 refine seqK fun K12 hK12 => ?_
 refine region ?_
 refine s0 assignA rfl ?_
 refine nil ?_
 refine hK12 _ ?_
 clear hK12 K12
 refine AWp.ret ?_
 repeat (first | refine xBlock_ret ?_ | refine xThen_ret ?_)
 obtain rfl := Option.some.inj hE
 refine retQ.retF H rfl ⟨rfl, rfl⟩ ?_
 exact (fun _ _ h => h)
def Z10 (a0 : TDoc) (a1 : TQuery) : Option Bool := (Z51 a0).bind fun x3 => guardO ((!x3)) (Z38 a1) false fun x4 => guardO (((!x3) && (!x4))) (Z30 a0) false fun x5 => guardO ((((!x3) && (!x4)) && x5)) (Z39 a1) false fun x6 => some ((((!x3) && (!x4)) && x5) && x6)
theorem Z10_walk {a0 : TDoc} {a1 : TQuery}   {r : Bool} (hE : Z10 a0 a1 = some r) (H : Heap)  : ACalls Tryz.prog 5 [.agg (TDoc.c a0), .agg (TQuery.c a1)] H fun v h' => v = .a (.d (.bool r)) ∧ h' = H := by
 unfold Z10 at hE
 refine ACalls.of_wp (fn := Tryz.f5) (c := _) Tryz.tab_ok (fun _ _ => Tryz.call5 _ _) Tryz.func5 rfl (n := 21) rfl (rs := [.tmp 4]) rfl rfl ?_
 refine seqK fun K1 hK1 => ?_
 refine region ?_
 refine s0 (boxV rfl) rfl ?_
 refine s0 (boxV rfl) rfl ?_
 refine s0 assignA rfl ?_
 refine nil ?_
 refine hK1 _ ?_
 clear hK1 K1
 refine seqK fun K2 hK2 => ?_
 refine region ?_
 refine s0 (loadV (TK rfl) rfl rfl rfl) rfl ?_
 obtain ⟨x3, gx3, hE⟩ := bindO_some hE
 refine s0 (callP rfl rfl (fun H => Z51_walk gx3 H)) rfl ?_
 refine s0 (notB rfl) rfl ?_
 refine s0 moveA rfl ?_
 refine gC rfl rfl (fun hC => loadV (TK rfl) rfl rfl rfl) rfl ?_
 obtain ⟨x4, gx4, hE⟩ := guardO_some hE
 refine gC rfl rfl (fun hC => ungdA (k := 9) rfl (callP rfl rfl (fun H => Z38_walk (gx4 hC) H))) rfl ?_
 refine gC rfl rfl (fun hC => ungdA (k := 10) rfl (notB rfl)) rfl ?_
 refine s0 (pickAndA rfl rfl rfl) rfl ?_
 refine s0 moveA rfl ?_
 refine gC rfl rfl (fun hC => loadV (TK rfl) rfl rfl rfl) rfl ?_
 obtain ⟨x5, gx5, hE⟩ := guardO_some hE
 refine gC rfl rfl (fun hC => ungdA (k := 14) rfl (callP rfl rfl (fun H => Z30_walk (gx5 hC) H))) rfl ?_
 refine s0 (pickAndA rfl rfl rfl) rfl ?_
 refine s0 moveA rfl ?_
 refine gC rfl rfl (fun hC => loadV (TK rfl) rfl rfl rfl) rfl ?_
 obtain ⟨x6, gx6, hE⟩ := guardO_some hE
 refine gC rfl rfl (fun hC => ungdA (k := 18) rfl (callP rfl rfl (fun H => Z39_walk (gx6 hC) H))) rfl ?_
 refine s0 (pickAndA rfl rfl rfl) rfl ?_
 refine s0 assignA rfl ?_
 refine nil ?_
 refine hK2 _ ?_
 clear hK2 K2
 refine AWp.ret ?_
 repeat (first | refine xBlock_ret ?_ | refine xThen_ret ?_)
 obtain rfl := Option.some.inj hE
 refine retQ.retF H rfl ⟨rfl, rfl⟩ ?_
 exact (fun _ _ h => h)
theorem eqt_57 : eqTab Tryz.prog 57 = some [.str, .str, .str, .int .i64] := by kernel_rfl
def Z61_j8   : Option Bool := some true
def Z61_l11 (a0 : (Sl TUse)) (a1 : (Sl TUse))  : Nat → Nat → Option Bool
 | 0, _ => none
 | n11 + 1, s5_12 => bif (decide (((s5_12 : Nat) : Int) < ((a0.l.length : Nat) : Int))) then ((a0.l[s5_12]?).bind fun x19 => (a1.l[s5_12]?).bind fun x20 => bif (!((x19.FType == x20.FType) && ((x19.FField == x20.FField) && ((x19.FArg == x20.FArg) && (decide (x19.FCount = x20.FCount) && true))))) then (some false) else ((Z61_l11 a0 a1 n11) (s5_12 + 1))) else (Z61_j8   )
def Z61 (a0 : (Sl TUse)) (a1 : (Sl TUse)) : Option Bool := bif (!decide (((a0.l.length : Nat) : Int) = ((a1.l.length : Nat) : Int))) then (some false) else (Z61_l11 a0 a1 (a0.l.length + 1) 0)
theorem Z61_walk {a0 : (Sl TUse)} {a1 : (Sl TUse)} {w0 : Option Nat} {w1 : Option Nat}  {r : Bool} (hE : Z61 a0 a1 = some r) (H : Heap)  : ACalls Tryz.prog 7 [.d (Sl.d 4 TUse.c w0 a0), .d (Sl.d 4 TUse.c w1 a1)] H fun v h' => v = .a (.d (.bool r)) ∧ h' = H := by
 unfold Z61 at hE
 refine ACalls.of_wp (fn := Tryz.f7) (c := _) Tryz.tab_ok (fun _ _ => Tryz.call7 _ _) Tryz.func7 rfl (n := 26) rfl (rs := [.tmp 4]) rfl rfl ?_
 refine seqK fun K1 hK1 => ?_
 refine region ?_
 refine s0 assignA rfl ?_
 refine nil ?_
 refine hK1 _ ?_
 clear hK1 K1
 refine seqK fun K2 hK2 => ?_
 refine seqK fun K3 hK3 => ?_
 refine region ?_
 refine s0 moveA rfl ?_
 refine sLen (f := TUse.c) (s := a0) (TK rfl) rfl rfl rfl rfl fun hL4 => ?_
 refine s0 moveA rfl ?_
 refine sLen (f := TUse.c) (s := a1) (TK rfl) rfl rfl rfl rfl fun hL5 => ?_
 refine s0 (binI rfl rfl rfl) rfl ?_
 refine nil ?_
 refine hK3 _ ?_
 clear hK3 K3
 refine condE hE rfl (fun hc6 hE => ?_) (fun hc6 hE => ?_)
 ·refine seqK fun K7 hK7 => ?_
  refine region ?_
  refine s0 assignA rfl ?_
  refine nil ?_
  refine hK7 _ ?_
  clear hK7 K7
  refine AWp.ret ?_
  repeat (first | refine xBlock_ret ?_ | refine xThen_ret ?_)
  obtain rfl := Option.some.inj hE
  refine retQ.retF H rfl ⟨rfl, rfl⟩ ?_
  exact (fun _ _ h => h)
 refine AWp.skip ?_
 refine hK2 _ ?_
 clear hK2 K2
 refine seqJH KeepsT.nil (fun (z : Unit) => []) (fun z => H) (fun z => Z61_j8  = some r) ?_ ?_
 ·intro K8 hK8
  refine seqK fun K10 hK10 => ?_
  refine region ?_
  refine s0 assignA rfl ?_
  refine nil ?_
  refine hK10 _ ?_
  clear hK10 K10
  refine block ?_
  refine loopH (KeepsT.A (k := 0) (KeepsT.A (k := 1) KeepsT.nil)) (fun (z : Nat × Nat) => [(5, .a (.d (.int .i64 ((z.2 : Nat) : Int))))]) (fun z => H) (fun z => z.1) (fun z => Z61_l11 a0 a1 z.1 z.2 = some r) ((a0.l.length + 1), 0) hE Weak.toA ?_
  rintro ⟨n11, s5_12⟩ hE K11 hK11
  try dsimp only at hE
  cases n11 with
  | zero => cases hE
  | succ n11 =>
    rw [Z61_l11] at hE
    refine seqK fun K13 hK13 => ?_
    refine seqK fun K14 hK14 => ?_
    refine region ?_
    refine s0 moveA rfl ?_
    refine s0 moveA rfl ?_
    refine sLen (f := TUse.c) (s := a0) (TK rfl) rfl rfl rfl rfl fun hL15 => ?_
    refine s0 (binI rfl rfl rfl) rfl ?_
    refine nil ?_
    refine hK14 _ ?_
    clear hK14 K14
    refine condE hE rfl (fun hc16 hE => ?_) (fun hc16 hE => ?_)
    ·try dsimp only at hc16
     have hf16 := of_decide_eq_true hc16
     refine AWp.skip ?_
     refine hK13 _ ?_
     clear hK13 K13
     refine seqK fun K17 hK17 => ?_
     refine block ?_
     refine seqK fun K18 hK18 => ?_
     refine AWp.draw rfl ?_
     refine DOps.s0 moveA rfl ?_
     refine DOps.s0 moveA rfl ?_
     obtain ⟨x19, gx19, hE⟩ := bindO_some hE
     refine DOps.s0 (idxMn (f := TUse.c) (n := s5_12) (TK rfl) rfl (TK rfl) rfl rfl rfl gx19) rfl ?_
     refine DOps.s0 (loadV (TK rfl) rfl rfl rfl) rfl ?_
     refine DOps.s0 moveA rfl ?_
     refine DOps.s0 moveA rfl ?_
     obtain ⟨x20, gx20, hE⟩ := bindO_some hE
     refine DOps.s0 (idxMn (f := TUse.c) (n := s5_12) (TK rfl) rfl (TK rfl) rfl rfl rfl gx20) rfl ?_
     refine DOps.s0 (loadV (TK rfl) rfl rfl rfl) rfl ?_
     refine DOps.s0 (neStruct eqt_57 rfl rfl rfl rfl) rfl ?_
     refine DOps.nil (by decide +kernel) ?_
     refine hK18 _ ?_
     clear hK18 K18
     refine condE hE rfl (fun hc21 hE => ?_) (fun hc21 hE => ?_)
     ·refine seqK fun K22 hK22 => ?_
      refine region ?_
      refine s0 assignA rfl ?_
      refine nil ?_
      refine hK22 _ ?_
      clear hK22 K22
      refine AWp.ret ?_
      repeat (first | refine xBlock_ret ?_ | refine xThen_ret ?_)
      obtain rfl := Option.some.inj hE
      refine retQ.retF H rfl ⟨rfl, rfl⟩ ?_
      exact (fun _ _ h => h)
     refine AWp.skip ?_
     refine hK17 _ ?_
     clear hK17 K17
     refine region ?_
     refine s0 moveA rfl ?_
     refine s0 (addIA rfl rfl) rfl ?_
     refine s0 assignA rfl ?_
     refine nil ?_
     exact hK11 _ (n11, (s5_12 + 1)) Weak.toA hE (Nat.lt_succ_self _)
    refine AWp.exit ?_
    exact hK8 _ () Weak.toA hE
 rintro _ hE
 try dsimp only at hE
 unfold Z61_j8 at hE
 refine seqK fun K9 hK9 => ?_
 refine region ?_
 refine s0 assignA rfl ?_
 refine nil ?_
 refine hK9 _ ?_
 clear hK9 K9
 refine AWp.ret ?_
 repeat (first | refine xBlock_ret ?_ | refine xThen_ret ?_)
 obtain rfl := Option.some.inj hE
 refine retQ.retF H rfl ⟨rfl, rfl⟩ ?_
 exact (fun _ _ h => h)
def Z74 (a0 : Int) : Option Bs := bif (decide (a0 = (1 : Int))) then (some ([81, 117, 101, 114, 121] : Bs)) else (bif (decide (a0 = (2 : Int))) then (some ([77, 117, 116, 97, 116, 105, 111, 110] : Bs)) else (bif (decide (a0 = (3 : Int))) then (some ([83, 117, 98, 115, 99, 114, 105, 112, 116, 105, 111, 110] : Bs)) else (some ([] : Bs))))
theorem Z74_walk {a0 : Int}   {r : Bs} (hE : Z74 a0 = some r) (H : Heap)  : ACalls Tryz.prog 14 [.d (.int .i64 a0)] H fun v h' => v = .a (.d (.str r)) ∧ h' = H := by
 unfold Z74 at hE
 refine ACalls.of_wp (fn := Tryz.f14) (c := _) Tryz.tab_ok (fun _ _ => Tryz.call14 _ _) Tryz.func14 rfl (n := 10) rfl (rs := [.tmp 2]) rfl rfl ?_
 refine seqK fun K1 hK1 => ?_
 refine region ?_
 refine s0 assignA rfl ?_
 refine nil ?_
 refine hK1 _ ?_
 clear hK1 K1
 refine seqK fun K2 hK2 => ?_
 refine seqK fun K3 hK3 => ?_
 refine region ?_
 refine s0 moveA rfl ?_
 refine nil ?_
 refine hK3 _ ?_
 clear hK3 K3
 refine block ?_
 refine seqK fun K4 hK4 => ?_
 refine region ?_
 refine s0 (binI rfl rfl rfl) rfl ?_
 refine s0 assignA rfl ?_
 refine nil ?_
 refine hK4 _ ?_
 clear hK4 K4
 refine condE hE rfl (fun hc5 hE => ?_) (fun hc5 hE => ?_)
 ·refine seqK fun K6 hK6 => ?_
  refine region ?_
  refine s0 assignA rfl ?_
  refine nil ?_
  refine hK6 _ ?_
  clear hK6 K6
  refine AWp.ret ?_
  repeat (first | refine xBlock_ret ?_ | refine xThen_ret ?_)
  obtain rfl := Option.some.inj hE
  refine retQ.retF H rfl ⟨rfl, rfl⟩ ?_
  exact (fun _ _ h => h)
 refine seqK fun K7 hK7 => ?_
 refine region ?_
 refine s0 (binI rfl rfl rfl) rfl ?_
 refine s0 assignA rfl ?_
 refine nil ?_
 refine hK7 _ ?_
 clear hK7 K7
 refine condE hE rfl (fun hc8 hE => ?_) (fun hc8 hE => ?_)
 ·refine seqK fun K9 hK9 => ?_
  refine region ?_
  refine s0 assignA rfl ?_
  refine nil ?_
  refine hK9 _ ?_
  clear hK9 K9
  refine AWp.ret ?_
  repeat (first | refine xBlock_ret ?_ | refine xThen_ret ?_)
  obtain rfl := Option.some.inj hE
  refine retQ.retF H rfl ⟨rfl, rfl⟩ ?_
  exact (fun _ _ h => h)
 refine seqK fun K10 hK10 => ?_
 refine region ?_
 refine s0 (binI rfl rfl rfl) rfl ?_
 refine s0 assignA rfl ?_
 refine nil ?_
 refine hK10 _ ?_
 clear hK10 K10
 refine condE hE rfl (fun hc11 hE => ?_) (fun hc11 hE => ?_)
 ·refine seqK fun K12 hK12 => ?_
  refine region ?_
  refine s0 assignA rfl ?_
  refine nil ?_
  refine hK12 _ ?_
  clear hK12 K12
  refine AWp.ret ?_
  repeat (first | refine xBlock_ret ?_ | refine xThen_ret ?_)
  obtain rfl := Option.some.inj hE
  refine retQ.retF H rfl ⟨rfl, rfl⟩ ?_
  exact (fun _ _ h => h)
 refine AWp.skip ?_
 refine hK2 _ ?_
 clear hK2 K2
 refine seqK fun K13 hK13 => ?_
 refine region ?_
 refine s0 assignA rfl ?_
 refine nil ?_
 refine hK13 _ ?_
 clear hK13 K13
 refine AWp.ret ?_
 repeat (first | refine xBlock_ret ?_ | refine xThen_ret ?_)
 obtain rfl := Option.some.inj hE
 refine retQ.retF H rfl ⟨rfl, rfl⟩ ?_
 exact (fun _ _ h => h)
end Go.Proofs

namespace Go.Proofs
open Go Go.Ab
open AOps Cert AWp
def Z4_j2  (y3_l0 : TFrag) : Option (TFrag × Bool) := some ((TFrag.mk ([] : Bs) ([] : Bs) (Sl.nil : Sl TSel)), false)
def Z4_l7 (a0 : TQuery) (a1 : Bs)  : Nat → Nat → TFrag → Option (TFrag × Bool)
 | 0, _, _ => none
 | n7 + 1, s11_8, y9_l0 => bif (decide (((s11_8 : Nat) : Int) < ((a0.FFrags.l.length : Nat) : Int))) then ((a0.FFrags.l[s11_8]?).bind fun x15 => bif ((x15.FName == a1)) then (some (x15, true)) else ((Z4_l7 a0 a1 n7) (s11_8 + 1) y9_l0)) else (Z4_j2   y9_l0)
def Z4 (a0 : TQuery) (a1 : Bs) : Option (TFrag × Bool) := Z4_l7 a0 a1 (a0.FFrags.l.length + 1) 0 TFrag.zero
theorem Z4_walk {a0 : TQuery} {a1 : Bs}   {r : (TFrag × Bool)} (hE : Z4 a0 a1 = some r) (H : Heap)  : ACalls Tryz.prog 16 [.agg (TQuery.c a0), .d (.str a1)] H fun v h' => v = .tup [.agg (TFrag.c r.1), .d (.bool r.2)] ∧ h' = H := by
 unfold Z4 at hE
 refine ACalls.of_wp (fn := Tryz.f16) (c := _) Tryz.tab_ok (fun _ _ => Tryz.call16 _ _) Tryz.func16 rfl (n := 22) rfl (rs := [.cell 4 48, .tmp 5]) rfl rfl ?_
 refine seqK fun K1 hK1 => ?_
 refine region ?_
 refine s0 (boxV rfl) rfl ?_
 refine sL (allocLA (TK rfl) rfl) rfl ?_
 refine s0 assignA rfl ?_
 refine nil ?_
 refine hK1 _ ?_
 clear hK1 K1
 refine seqJ (KeepsT.A (k := 4) KeepsT.nil) (fun (z : TFrag) => []) (fun z => [TFrag.c z]) (fun z => H) (fun z => Z4_j2 z = some r) ?_ ?_
 ·intro K2 hK2
  refine seqK fun K5 hK5 => ?_
  refine region ?_
  refine s0 (fieldVA (TK rfl) rfl rfl (TK rfl) rfl rfl) rfl ?_
  refine s0 (loadV (TK rfl) rfl rfl rfl) rfl ?_
  refine sLen (f := TFrag.c) (s := a0.FFrags) (TK rfl) rfl rfl rfl rfl fun hL6 => ?_
  refine s0 moveA rfl ?_
  refine nil ?_
  refine hK5 _ ?_
  clear hK5 K5
  refine block ?_
  refine loopO (KeepsT.A (k := 1) (KeepsT.A (k := 4) (KeepsT.A (k := 9) (KeepsT.A (k := 10) KeepsT.nil)))) (fun (z : Nat × Nat × TFrag) => [(11, .a (.d (.int .i64 ((z.2.1 : Nat) : Int))))]) (fun z => [TFrag.c z.2.2]) (fun z => H) (fun z => z.1) (fun z => Z4_l7 a0 a1 z.1 z.2.1 z.2.2 = some r) ((a0.FFrags.l.length + 1), 0, TFrag.zero) hE Weak.toA ?_
  rintro ⟨n7, s11_8, y9_l0⟩ hE K7 hK7
  try dsimp only at hE
  cases n7 with
  | zero => cases hE
  | succ n7 =>
    rw [Z4_l7] at hE
    refine seqK fun K10 hK10 => ?_
    refine region ?_
    refine s0 (binI rfl rfl rfl) rfl ?_
    refine nil ?_
    refine hK10 _ ?_
    clear hK10 K10
    refine seqK fun K11 hK11 => ?_
    refine condE hE rfl (fun hc12 hE => ?_) (fun hc12 hE => ?_)
    ·try dsimp only at hc12
     have hf12 := of_decide_eq_true hc12
     refine AWp.skip ?_
     refine hK11 _ ?_
     clear hK11 K11
     refine seqK fun K13 hK13 => ?_
     refine block ?_
     refine seqK fun K14 hK14 => ?_
     refine region ?_
     obtain ⟨x15, gx15, hE⟩ := bindO_some hE
     refine s0 (idxMn (f := TFrag.c) (n := s11_8) (TK rfl) rfl (TK rfl) rfl rfl rfl gx15) rfl ?_
     refine s0 (loadV (TK rfl) rfl rfl rfl) rfl ?_
     refine sL (allocLA (TK rfl) rfl) rfl ?_
     refine sLn (storeLFA (TK rfl) rfl rfl rfl rfl rfl) ?_
     refine nil ?_
     refine hK14 _ ?_
     clear hK14 K14
     refine freezeA 7 _ rfl (Keeps.c (k := 1) (by conv => lhs; whnf) (by rfl) (Keeps.c (k := 4) (by conv => lhs; whnf) (by rfl) (Keeps.c (k := 9) (by conv => lhs; whnf) (by rfl) (Keeps.c (k := 10) (by conv => lhs; whnf) (by rfl) (Keeps.c (k := 11) (by conv => lhs; whnf) (by rfl) Keeps.nil))))) ?_
     refine seqK fun K16 hK16 => ?_
     refine region ?_
     refine s0 (fieldVA (TK rfl) rfl rfl (TK rfl) rfl rfl) rfl ?_
     refine s0 (loadV (TK rfl) rfl rfl rfl) rfl ?_
     refine s0 moveA rfl ?_
     refine s0 (binS rfl rfl rfl) rfl ?_
     refine nil ?_
     refine hK16 _ ?_
     clear hK16 K16
     refine condE hE rfl (fun hc17 hE => ?_) (fun hc17 hE => ?_)
     ·refine seqK fun K18 hK18 => ?_
      refine region ?_
      refine s0 (loadV (TK rfl) rfl rfl rfl) rfl ?_
      refine sLn (storeLFA (TK rfl) rfl rfl rfl rfl rfl) ?_
      refine s0 assignA rfl ?_
      refine nil ?_
      refine hK18 _ ?_
      clear hK18 K18
      refine AWp.ret ?_
      repeat (first | refine xBlock_ret ?_ | refine xThen_ret ?_)
      obtain rfl := Option.some.inj hE
      refine retQ.retF H rfl ⟨rfl, rfl⟩ ?_
      exact (fun _ _ h => h)
     refine AWp.skip ?_
     refine hK13 _ ?_
     clear hK13 K13
     refine region ?_
     refine s0 (addIA rfl rfl) rfl ?_
     refine s0 moveA rfl ?_
     refine nil ?_
     exact hK7 _ (n7, (s11_8 + 1), y9_l0) Weak.toA hE (Nat.lt_succ_self _)
    refine AWp.exit ?_
    exact hK2 _ y9_l0 Weak.toA hE
 rintro y3_l0 hE
 try dsimp only at hE
 unfold Z4_j2 at hE
 refine seqK fun K4 hK4 => ?_
 refine region ?_
 refine s0 (build Tryz.tab_ok rfl rfl rfl rfl rfl rfl) rfl ?_
 refine sLn (storeLFA (TK rfl) rfl rfl rfl rfl rfl) ?_
 refine s0 assignA rfl ?_
 refine nil ?_
 refine hK4 _ ?_
 clear hK4 K4
 refine AWp.ret ?_
 repeat (first | refine xBlock_ret ?_ | refine xThen_ret ?_)
 obtain rfl := Option.some.inj hE
 refine retQ.retF H rfl ⟨rfl, rfl⟩ ?_
 exact (fun _ _ h => h)
def Z82_j2   : Option Int := some (-1 : Int)
def Z82_l6 (a0 : (Sl Bs)) (a1 : Bs)  : Nat → Nat → Option Int
 | 0, _ => none
 | n6 + 1, s8_7 => bif (decide (((s8_7 : Nat) : Int) < ((a0.l.length : Nat) : Int))) then ((a0.l[s8_7]?).bind fun x14 => bif ((a1 == x14)) then (some ((s8_7 : Nat) : Int)) else ((Z82_l6 a0 a1 n6) (s8_7 + 1))) else (Z82_j2   )
def Z82 (a0 : (Sl Bs)) (a1 : Bs) : Option Int := Z82_l6 a0 a1 (a0.l.length + 1) 0
theorem Z82_walk {a0 : (Sl Bs)} {a1 : Bs} {w0 : Option Nat}  {r : Int} (hE : Z82 a0 a1 = some r) (H : Heap)  : ACalls Tryz.prog 120 [.d (Sl.d 1 strE w0 a0), .d (.str a1)] H fun v h' => v = .a (.d (.int .i64 r)) ∧ h' = H := by
 unfold Z82 at hE
 refine ACalls.of_wp (fn := Tryz.f120) (c := _) Tryz.tab_ok (fun _ _ => Tryz.call120 _ _) Tryz.func120 rfl (n := 19) rfl (rs := [.tmp 4]) rfl rfl ?_
 refine seqK fun K1 hK1 => ?_
 refine region ?_
 refine s0 assignA rfl ?_
 refine nil ?_
 refine hK1 _ ?_
 clear hK1 K1
 refine seqJH KeepsT.nil (fun (z : Unit) => []) (fun z => H) (fun z => Z82_j2  = some r) ?_ ?_
 ·intro K2 hK2
  refine seqK fun K4 hK4 => ?_
  refine region ?_
  refine s0 moveA rfl ?_
  refine sLen (f := strE) (s := a0) (TK rfl) rfl rfl rfl rfl fun hL5 => ?_
  refine s0 moveA rfl ?_
  refine nil ?_
  refine hK4 _ ?_
  clear hK4 K4
  refine block ?_
  refine loopH (KeepsT.A (k := 0) (KeepsT.A (k := 1) (KeepsT.A (k := 7) KeepsT.nil))) (fun (z : Nat × Nat) => [(8, .a (.d (.int .i64 ((z.2 : Nat) : Int))))]) (fun z => H) (fun z => z.1) (fun z => Z82_l6 a0 a1 z.1 z.2 = some r) ((a0.l.length + 1), 0) hE Weak.toA ?_
  rintro ⟨n6, s8_7⟩ hE K6 hK6
  try dsimp only at hE
  cases n6 with
  | zero => cases hE
  | succ n6 =>
    rw [Z82_l6] at hE
    refine seqK fun K8 hK8 => ?_
    refine region ?_
    refine s0 (binI rfl rfl rfl) rfl ?_
    refine nil ?_
    refine hK8 _ ?_
    clear hK8 K8
    refine seqK fun K9 hK9 => ?_
    refine condE hE rfl (fun hc10 hE => ?_) (fun hc10 hE => ?_)
    ·try dsimp only at hc10
     have hf10 := of_decide_eq_true hc10
     refine AWp.skip ?_
     refine hK9 _ ?_
     clear hK9 K9
     refine seqK fun K11 hK11 => ?_
     refine block ?_
     refine seqK fun K12 hK12 => ?_
     refine region ?_
     refine s0 moveA rfl ?_
     refine s0 assignA rfl ?_
     refine nil ?_
     refine hK12 _ ?_
     clear hK12 K12
     refine seqK fun K13 hK13 => ?_
     refine region ?_
     refine s0 moveA rfl ?_
     refine s0 moveA rfl ?_
     refine s0 moveA rfl ?_
     obtain ⟨x14, gx14, hE⟩ := bindO_some hE
     refine s0 (idxMn (f := strE) (n := s8_7) (TK rfl) rfl (TK rfl) rfl rfl rfl gx14) rfl ?_
     refine s0 (loadV (TK rfl) rfl rfl rfl) rfl ?_
     refine s0 (binS rfl rfl rfl) rfl ?_
     refine nil ?_
     refine hK13 _ ?_
     clear hK13 K13
     refine condE hE rfl (fun hc15 hE => ?_) (fun hc15 hE => ?_)
     ·refine seqK fun K16 hK16 => ?_
      refine region ?_
      refine s0 moveA rfl ?_
      refine s0 assignA rfl ?_
      refine nil ?_
      refine hK16 _ ?_
      clear hK16 K16
      refine AWp.ret ?_
      repeat (first | refine xBlock_ret ?_ | refine xThen_ret ?_)
      obtain rfl := Option.some.inj hE
      refine retQ.retF H rfl ⟨rfl, rfl⟩ ?_
      exact (fun _ _ h => h)
     refine AWp.skip ?_
     refine hK11 _ ?_
     clear hK11 K11
     refine region ?_
     refine s0 (addIA rfl rfl) rfl ?_
     refine s0 moveA rfl ?_
     refine nil ?_
     exact hK6 _ (n6, (s8_7 + 1)) Weak.toA hE (Nat.lt_succ_self _)
    refine AWp.exit ?_
    exact hK2 _ () Weak.toA hE
 rintro _ hE
 try dsimp only at hE
 unfold Z82_j2 at hE
 refine seqK fun K3 hK3 => ?_
 refine region ?_
 refine s0 assignA rfl ?_
 refine nil ?_
 refine hK3 _ ?_
 clear hK3 K3
 refine AWp.ret ?_
 repeat (first | refine xBlock_ret ?_ | refine xThen_ret ?_)
 obtain rfl := Option.some.inj hE
 refine retQ.retF H rfl ⟨rfl, rfl⟩ ?_
 exact (fun _ _ h => h)
def Z80 (a0 : (Sl Bs)) (a1 : Bs) : Option Bool := (Z82 a0 a1).bind fun x3 => some (decide ((0 : Int) ≤ x3))
theorem Z80_walk {a0 : (Sl Bs)} {a1 : Bs} {w0 : Option Nat}  {r : Bool} (hE : Z80 a0 a1 = some r) (H : Heap)  : ACalls Tryz.prog 83 [.d (Sl.d 1 strE w0 a0), .d (.str a1)] H fun v h' => v = .a (.d (.bool r)) ∧ h' = H := by
 unfold Z80 at hE
 refine ACalls.of_wp (fn := Tryz.f83) (c := _) Tryz.tab_ok (fun _ _ => Tryz.call83 _ _) Tryz.func83 rfl (n := 9) rfl (rs := [.tmp 4]) rfl rfl ?_
 refine seqK fun K1 hK1 => ?_
 refine region ?_
 refine s0 assignA rfl ?_
 refine nil ?_
 refine hK1 _ ?_
 clear hK1 K1
 refine seqK fun K2 hK2 => ?_
 refine region ?_
 refine s0 moveA rfl ?_
 refine s0 moveA rfl ?_
 obtain ⟨x3, gx3, hE⟩ := bindO_some hE
 refine s0 (callP rfl rfl (fun H => Z82_walk gx3 H)) rfl ?_
 refine s0 (binI rfl rfl rfl) rfl ?_
 refine s0 assignA rfl ?_
 refine nil ?_
 refine hK2 _ ?_
 clear hK2 K2
 refine AWp.ret ?_
 repeat (first | refine xBlock_ret ?_ | refine xThen_ret ?_)
 obtain rfl := Option.some.inj hE
 refine retQ.retF H rfl ⟨rfl, rfl⟩ ?_
 exact (fun _ _ h => h)
def Z7_j3  (s2_4 : (Sl Bs)) (s8_5 : Bool) : Option ((Sl Bs) × Bool) := some (s2_4, s8_5)
def Z7_j16 (s17_12 : Nat) (k_next_9 : (Sl Bs) → Bool → Nat → Option ((Sl Bs) × Bool)) (s2_17 : (Sl Bs)) (s8_18 : Bool) : Option ((Sl Bs) × Bool) := k_next_9 s2_17 s8_18 (s17_12 + 1)
def Z7_j22 (a0 : TQuery) (s17_12 : Nat) (k_next_9 : (Sl Bs) → Bool → Nat → Option ((Sl Bs) × Bool)) (k_rec_40 : TQuery → (Sl TSel) → (Sl Bs) → Option ((Sl Bs) × Bool)) (s2_23 : (Sl Bs)) (s8_24 : Bool) (s11_25 : (Sl TSel)) : Option ((Sl Bs) × Bool) := (k_rec_40 a0 s11_25 s2_23).bind fun x28 => Z7_j16 s17_12 k_next_9 x28.1 (s8_24 && x28.2)
def Z7_l9 (a0 : TQuery) (a1 : (Sl TSel)) (k_rec_40 : TQuery → (Sl TSel) → (Sl Bs) → Option ((Sl Bs) × Bool)) : Nat → (Sl Bs) → Bool → Nat → Option ((Sl Bs) × Bool)
 | 0, _, _, _ => none
 | n9 + 1, s2_10, s8_11, s17_12 => bif (decide (((s17_12 : Nat) : Int) < ((a1.l.length : Nat) : Int))) then ((a1.l[s17_12]?).bind fun x20 => bif (decide (x20.FKind = (2 : Int))) then ((Z4 a0 x20.FName).bind fun x32 => guardO (!(!x32.2)) (Z80 s2_10 x20.FName) false fun x36 => bif ((!x32.2) || x36) then (Z7_j16 s17_12 ((Z7_l9 a0 a1 k_rec_40 n9)) s2_10 (s8_11 && x32.2)) else ((appC 16 s2_10 (⟨false, [x20.FName]⟩ : Sl Bs)).bind fun x39 => Z7_j22 a0 s17_12 ((Z7_l9 a0 a1 k_rec_40 n9)) k_rec_40 x39 (s8_11 && x32.2) x32.1.FSels)) else (Z7_j22 a0 s17_12 ((Z7_l9 a0 a1 k_rec_40 n9)) k_rec_40 s2_10 s8_11 x20.FSels)) else (Z7_j3   s2_10 s8_11)
def Z7_n : Nat → TQuery → (Sl TSel) → (Sl Bs) → Option ((Sl Bs) × Bool)
 | 0, _, _, _ => none
 | n + 1, a0, a1, a2 => Z7_l9 a0 a1 (Z7_n n) (a1.l.length + 1) a2 true 0
theorem Z7_step (n : Nat) (ih_40 : ∀ {a0 : TQuery} {a1 : (Sl TSel)} {a2 : (Sl Bs)} {w1 : Option Nat} {g2 : Nat} {r : ((Sl Bs) × Bool)}, Z7_n n a0 a1 a2 = some r → ∀ (H : Heap) (hg2 : H g2 = some (.tok 1 a2.l.length)), ACalls Tryz.prog 40 [.agg (TQuery.c a0), .d (Sl.d 7 TSel.c w1 a1), .d (Sl.d 1 strE (some g2) a2)] H fun v h' => v = .tup [.d (Sl.d 1 strE (some g2) r.1), .d (.bool r.2)] ∧ h' = (H.set g2 (some (.tok 1 r.1.l.length)))) : ∀ {a0 : TQuery} {a1 : (Sl TSel)} {a2 : (Sl Bs)} {w1 : Option Nat} {g2 : Nat} {r : ((Sl Bs) × Bool)}, Z7_n (n + 1) a0 a1 a2 = some r → ∀ (H : Heap) (hg2 : H g2 = some (.tok 1 a2.l.length)), ACalls Tryz.prog 40 [.agg (TQuery.c a0), .d (Sl.d 7 TSel.c w1 a1), .d (Sl.d 1 strE (some g2) a2)] H fun v h' => v = .tup [.d (Sl.d 1 strE (some g2) r.1), .d (.bool r.2)] ∧ h' = (H.set g2 (some (.tok 1 r.1.l.length))) := by
 intro a0 a1 a2 w1 g2 r hE H hg2
 rw [Z7_n] at hE
 refine ACalls.of_wp (fn := Tryz.f40) (c := _) Tryz.tab_ok (fun _ _ => Tryz.call40 _ _) Tryz.func40 rfl (n := 66) rfl (rs := [.tmp 6, .tmp 7]) rfl rfl ?_
 refine AWp.heqA (h' := (H.set g2 (some (.tok 1 a2.l.length)))) (by funext n_; simp only [Heap.set]; (repeat' split) <;> simp_all) ?_
 refine seqK fun K1 hK1 => ?_
 refine region ?_
 refine s0 (boxV rfl) rfl ?_
 refine s0 assignA rfl ?_
 refine s0 assignA rfl ?_
 refine nil ?_
 refine hK1 _ ?_
 clear hK1 K1
 refine seqK fun K2 hK2 => ?_
 refine region ?_
 refine s0 assignA rfl ?_
 refine nil ?_
 refine hK2 _ ?_
 clear hK2 K2
 refine seqJH KeepsT.nil (fun (z : (Sl Bs) × Bool) => [(2, .a (.d (Sl.d 1 strE (some g2) z.1))), (8, .a (.d (.bool z.2)))]) (fun z => (H.set g2 (some (.tok 1 z.1.l.length)))) (fun z => Z7_j3 z.1 z.2 = some r) ?_ ?_
 ·intro K3 hK3
  refine seqK fun K7 hK7 => ?_
  refine region ?_
  refine s0 moveA rfl ?_
  refine sLen (f := TSel.c) (s := a1) (TK rfl) rfl rfl rfl rfl fun hL8 => ?_
  refine s0 moveA rfl ?_
  refine nil ?_
  refine hK7 _ ?_
  clear hK7 K7
  refine block ?_
  refine loopH (KeepsT.A (k := 3) (KeepsT.A (k := 15) (KeepsT.A (k := 16) KeepsT.nil))) (fun (z : Nat × (Sl Bs) × Bool × Nat) => [(2, .a (.d (Sl.d 1 strE (some g2) z.2.1))), (8, .a (.d (.bool z.2.2.1))), (17, .a (.d (.int .i64 ((z.2.2.2 : Nat) : Int))))]) (fun z => (H.set g2 (some (.tok 1 z.2.1.l.length)))) (fun z => z.1) (fun z => Z7_l9 a0 a1 (Z7_n n) z.1 z.2.1 z.2.2.1 z.2.2.2 = some r) ((a1.l.length + 1), a2, true, 0) hE Weak.toA ?_
  rintro ⟨n9, s2_10, s8_11, s17_12⟩ hE K9 hK9
  try dsimp only at hE
  cases n9 with
  | zero => cases hE
  | succ n9 =>
    rw [Z7_l9] at hE
    refine seqK fun K13 hK13 => ?_
    refine region ?_
    refine s0 (binI rfl rfl rfl) rfl ?_
    refine nil ?_
    refine hK13 _ ?_
    clear hK13 K13
    refine seqK fun K14 hK14 => ?_
    refine condE hE rfl (fun hc15 hE => ?_) (fun hc15 hE => ?_)
    ·try dsimp only at hc15
     have hf15 := of_decide_eq_true hc15
     refine AWp.skip ?_
     refine hK14 _ ?_
     clear hK14 K14
     refine seqJH (KeepsT.A (k := 3) (KeepsT.A (k := 15) (KeepsT.A (k := 16) (KeepsT.A (k := 17) KeepsT.nil)))) (fun (z : (Sl Bs) × Bool) => [(2, .a (.d (Sl.d 1 strE (some g2) z.1))), (8, .a (.d (.bool z.2)))]) (fun z => (H.set g2 (some (.tok 1 z.1.l.length)))) (fun z => Z7_j16 s17_12 ((Z7_l9 a0 a1 (Z7_n n) n9)) z.1 z.2 = some r) ?_ ?_
     ·intro K16 hK16
      refine block ?_
      refine seqK fun K19 hK19 => ?_
      refine region ?_
      obtain ⟨x20, gx20, hE⟩ := bindO_some hE
      refine s0 (idxMn (f := TSel.c) (n := s17_12) (TK rfl) rfl (TK rfl) rfl rfl rfl gx20) rfl ?_
      refine s0 (loadV (TK rfl) rfl rfl rfl) rfl ?_
      refine sL (allocLA (TK rfl) rfl) rfl ?_
      refine sLn (storeLFA (TK rfl) rfl rfl rfl rfl rfl) ?_
      refine nil ?_
      refine hK19 _ ?_
      clear hK19 K19
      refine freezeA 10 _ rfl (Keeps.c (k := 2) (by conv => lhs; whnf) (by rfl) (Keeps.c (k := 3) (by conv => lhs; whnf) (by rfl) (Keeps.c (k := 8) (by conv => lhs; whnf) (by rfl) (Keeps.c (k := 15) (by conv => lhs; whnf) (by rfl) (Keeps.c (k := 16) (by conv => lhs; whnf) (by rfl) (Keeps.c (k := 17) (by conv => lhs; whnf) (by rfl) Keeps.nil)))))) ?_
      refine seqK fun K21 hK21 => ?_
      refine region ?_
      refine s0 (fieldVA (TK rfl) rfl rfl (TK rfl) rfl rfl) rfl ?_
      refine s0 (loadV (TK rfl) rfl rfl (congrArg (fun x => some (A.d x)) (TSel.FSelsD_eq _))) rfl ?_
      refine s0 assignA rfl ?_
      refine nil ?_
      refine hK21 _ ?_
      clear hK21 K21
      refine seqJH (KeepsT.A (k := 3) (KeepsT.A (k := 15) (KeepsT.A (k := 16) (KeepsT.A (k := 17) KeepsT.nil)))) (fun (z : (Sl Bs) × Bool × (Sl TSel)) => [(2, .a (.d (Sl.d 1 strE (some g2) z.1))), (8, .a (.d (.bool z.2.1))), (11, .a (.d (Sl.d 7 TSel.c none z.2.2)))]) (fun z => (H.set g2 (some (.tok 1 z.1.l.length)))) (fun z => Z7_j22 a0 s17_12 ((Z7_l9 a0 a1 (Z7_n n) n9)) (Z7_n n) z.1 z.2.1 z.2.2 = some r) ?_ ?_
      ·intro K22 hK22
       refine seqK fun K29 hK29 => ?_
       refine region ?_
       refine s0 (fieldVA (TK rfl) rfl rfl (TK rfl) rfl rfl) rfl ?_
       refine s0 (loadV (TK rfl) rfl rfl rfl) rfl ?_
       refine s0 (binI rfl rfl rfl) rfl ?_
       refine nil ?_
       refine hK29 _ ?_
       clear hK29 K29
       refine condE hE rfl (fun hc30 hE => ?_) (fun hc30 hE => ?_)
       ·refine seqK fun K31 hK31 => ?_
        refine region ?_
        refine s0 (loadV (TK rfl) rfl rfl rfl) rfl ?_
        refine s0 (fieldVA (TK rfl) rfl rfl (TK rfl) rfl rfl) rfl ?_
        refine s0 (loadV (TK rfl) rfl rfl rfl) rfl ?_
        obtain ⟨x32, gx32, hE⟩ := bindO_some hE
        refine s0 (callP rfl rfl (fun H => Z4_walk gx32 H)) rfl ?_
        refine s0 moveA rfl ?_
        refine s0 (extract rfl rfl) rfl ?_
        refine s0 (extract rfl rfl) rfl ?_
        refine sL (allocLA (TK rfl) rfl) rfl ?_
        refine sLn (storeLFA (TK rfl) rfl rfl rfl rfl rfl) ?_
        refine s0 assignA rfl ?_
        refine nil ?_
        refine hK31 _ ?_
        clear hK31 K31
        refine freezeA 12 _ rfl (Keeps.c (k := 2) (by conv => lhs; whnf) (by rfl) (Keeps.c (k := 3) (by conv => lhs; whnf) (by rfl) (Keeps.c (k := 8) (by conv => lhs; whnf) (by rfl) (Keeps.c (k := 10) (by conv => lhs; whnf) (by rfl) (Keeps.c (k := 13) (by conv => lhs; whnf) (by rfl) (Keeps.c (k := 15) (by conv => lhs; whnf) (by rfl) (Keeps.c (k := 16) (by conv => lhs; whnf) (by rfl) (Keeps.c (k := 17) (by conv => lhs; whnf) (by rfl) Keeps.nil)))))))) ?_
        refine seqK fun K33 hK33 => ?_
        refine region ?_
        refine s0 moveA rfl ?_
        refine s0 moveA rfl ?_
        refine gC rfl rfl (fun hC => moveA) rfl ?_
        refine s0 (pickAndA rfl rfl rfl) rfl ?_
        refine s0 assignA rfl ?_
        refine nil ?_
        refine hK33 _ ?_
        clear hK33 K33
        refine seqK fun K34 hK34 => ?_
        refine seqK fun K35 hK35 => ?_
        refine region ?_
        refine s0 moveA rfl ?_
        refine s0 (notB rfl) rfl ?_
        refine s0 moveA rfl ?_
        refine gC rfl rfl (fun hC => moveA) rfl ?_
        refine gC rfl rfl (fun hC => fieldVA (TK rfl) rfl rfl (TK rfl) rfl rfl) rfl ?_
        refine gC rfl rfl (fun hC => ungdA (k := 41) rfl (loadV (TK rfl) rfl rfl rfl)) rfl ?_
        obtain ⟨x36, gx36, hE⟩ := guardO_some hE
        refine gC rfl rfl (fun hC => ungdA (k := 40) rfl (ungdA (k := 42) rfl (callP rfl rfl (fun H => Z80_walk (gx36 hC) H)))) rfl ?_
        refine s0 (pickOrA rfl rfl rfl) rfl ?_
        refine nil ?_
        refine hK35 _ ?_
        clear hK35 K35
        refine condE hE rfl (fun hc37 hE => ?_) (fun hc37 hE => ?_)
        ·refine AWp.exit ?_
         exact hK16 _ (s2_10, (s8_11 && x32.2)) Weak.toA hE
        refine AWp.skip ?_
        refine hK34 _ ?_
        clear hK34 K34
        refine seqK fun K38 hK38 => ?_
        refine region ?_
        refine s0 moveA rfl ?_
        refine s0 (fieldVA (TK rfl) rfl rfl (TK rfl) rfl rfl) rfl ?_
        refine s0 (loadV (TK rfl) rfl rfl rfl) rfl ?_
        refine s0 (buildSlice (TK rfl) rfl (TK rfl) rfl rfl rfl rfl rfl rfl) rfl ?_
        obtain ⟨x39, gx39, hE⟩ := bindO_some hE
        refine sH (appM (f := strE) (TK rfl) rfl (TK rfl) (TK rfl) ⟨_, rfl⟩ rfl rfl (by decide) rfl rfl rfl rfl hpG rfl gx39) rfl ?_
        refine AOps.heq (h' := (H.set g2 (some (.tok 1 x39.l.length)))) (by first | rfl | (rw [Heap.set_set]; rfl) | (funext n_; simp only [Heap.set]; (repeat' split) <;> first | rfl | (exfalso; simp_all; done) | (simp_all; done))) ?_
        refine s0 assignA rfl ?_
        refine nil ?_
        refine hK38 _ ?_
        clear hK38 K38
        refine region ?_
        refine s0 (fieldVA (TK rfl) rfl rfl (TK rfl) rfl rfl) rfl ?_
        refine s0 (loadV (TK rfl) rfl rfl rfl) rfl ?_
        refine s0 assignA rfl ?_
        refine nil ?_
        exact hK22 _ (x39, (s8_11 && x32.2), x32.1.FSels) Weak.toA hE
       refine AWp.skip ?_
       exact hK22 _ (s2_10, s8_11, x20.FSels) Weak.toA hE
      rintro ⟨s2_23, s8_24, s11_25⟩ hE
      try dsimp only at hE
      unfold Z7_j22 at hE
      refine seqK fun K26 hK26 => ?_
      refine region ?_
      refine s0 assignA rfl ?_
      refine nil ?_
      refine hK26 _ ?_
      clear hK26 K26
      refine seqK fun K27 hK27 => ?_
      refine region ?_
      refine s0 (loadV (TK rfl) rfl rfl rfl) rfl ?_
      refine s0 moveA rfl ?_
      refine s0 moveA rfl ?_
      obtain ⟨x28, gx28, hE⟩ := bindO_some hE
      refine sH (callH rfl rfl (ih_40 gx28 _ hpG)) rfl ?_
      refine AOps.heq (h' := (H.set g2 (some (.tok 1 x28.1.l.length)))) (by first | rfl | (rw [Heap.set_set]; rfl) | (funext n_; simp only [Heap.set]; (repeat' split) <;> first | rfl | (exfalso; simp_all; done) | (simp_all; done))) ?_
      refine s0 moveA rfl ?_
      refine s0 (extract rfl rfl) rfl ?_
      refine s0 (extract rfl rfl) rfl ?_
      refine s0 assignA rfl ?_
      refine s0 assignA rfl ?_
      refine nil ?_
      refine hK27 _ ?_
      clear hK27 K27
      refine region ?_
      refine s0 moveA rfl ?_
      refine s0 moveA rfl ?_
      refine gC rfl rfl (fun hC => moveA) rfl ?_
      refine s0 (pickAndA rfl rfl rfl) rfl ?_
      refine s0 assignA rfl ?_
      refine nil ?_
      exact hK16 _ (x28.1, (s8_24 && x28.2)) Weak.toA hE
     rintro ⟨s2_17, s8_18⟩ hE
     try dsimp only at hE
     unfold Z7_j16 at hE
     refine region ?_
     refine s0 (addIA rfl rfl) rfl ?_
     refine s0 moveA rfl ?_
     refine nil ?_
     exact hK9 _ (n9, s2_17, s8_18, (s17_12 + 1)) Weak.toA hE (Nat.lt_succ_self _)
    refine AWp.exit ?_
    exact hK3 _ (s2_10, s8_11) Weak.toA hE
 rintro ⟨s2_4, s8_5⟩ hE
 try dsimp only at hE
 unfold Z7_j3 at hE
 refine seqK fun K6 hK6 => ?_
 refine region ?_
 refine s0 moveA rfl ?_
 refine s0 moveA rfl ?_
 refine s0 assignA rfl ?_
 refine s0 assignA rfl ?_
 refine nil ?_
 refine hK6 _ ?_
 clear hK6 K6
 refine AWp.ret ?_
 repeat (first | refine xBlock_ret ?_ | refine xThen_ret ?_)
 obtain rfl := Option.some.inj hE
 refine retQ.retF (H.set g2 (some (.tok 1 s2_4.l.length))) rfl ⟨rfl, rfl⟩ ?_
 exact (fun _ _ h => h)
theorem Z7_all : ∀ (n : Nat), (∀ {a0 : TQuery} {a1 : (Sl TSel)} {a2 : (Sl Bs)} {w1 : Option Nat} {g2 : Nat} {r : ((Sl Bs) × Bool)}, Z7_n n a0 a1 a2 = some r → ∀ (H : Heap) (hg2 : H g2 = some (.tok 1 a2.l.length)), ACalls Tryz.prog 40 [.agg (TQuery.c a0), .d (Sl.d 7 TSel.c w1 a1), .d (Sl.d 1 strE (some g2) a2)] H fun v h' => v = .tup [.d (Sl.d 1 strE (some g2) r.1), .d (.bool r.2)] ∧ h' = (H.set g2 (some (.tok 1 r.1.l.length))))
 | 0 => fun hE => by first | cases hE | (rw [Z7_n] at hE; cases hE)
 | n + 1 => Z7_step n (Z7_all n)
def Z7 (a0 : TQuery) (a1 : (Sl TSel)) (a2 : (Sl Bs)) : Option ((Sl Bs) × Bool) := Z7_n F0 a0 a1 a2
theorem Z7_walk {a0 : TQuery} {a1 : (Sl TSel)} {a2 : (Sl Bs)} {w1 : Option Nat} {g2 : Nat} {r : ((Sl Bs) × Bool)} (hE : Z7 a0 a1 a2 = some r) (H : Heap) (hg2 : H g2 = some (.tok 1 a2.l.length)) : ACalls Tryz.prog 40 [.agg (TQuery.c a0), .d (Sl.d 7 TSel.c w1 a1), .d (Sl.d 1 strE (some g2) a2)] H fun v h' => v = .tup [.d (Sl.d 1 strE (some g2) r.1), .d (.bool r.2)] ∧ h' = (H.set g2 (some (.tok 1 r.1.l.length))) := (Z7_all F0) hE H hg2
def Z6 (a0 : TQuery) (a1 : TFrag) : Option Bool := (Z7 a0 a1.FSels (Sl.nil : Sl Bs)).bind fun x4 => (Z80 x4.1 a1.FName).bind fun x6 => some x6
theorem Z6_walk {a0 : TQuery} {a1 : TFrag}   {r : Bool} (hE : Z6 a0 a1 = some r) (H : Heap)  : ACalls Tryz.prog 43 [.agg (TQuery.c a0), .agg (TFrag.c a1)] H fun v h' => v = .a (.d (.bool r)) ∧ h' = H := by
 unfold Z6 at hE
 refine ACalls.of_wp (fn := Tryz.f43) (c := _) Tryz.tab_ok (fun _ _ => Tryz.call43 _ _) Tryz.func43 rfl (n := 18) rfl (rs := [.tmp 4]) rfl rfl ?_
 refine seqK fun K1 hK1 => ?_
 refine region ?_
 refine s0 (boxV rfl) rfl ?_
 refine s0 (boxV rfl) rfl ?_
 refine s0 assignA rfl ?_
 refine nil ?_
 refine hK1 _ ?_
 clear hK1 K1
 refine seqK fun K2 hK2 => ?_
 refine AWp.tok 1 fun tk2_3 htk2_3 => ?_
 refine region ?_
 refine s0 (loadV (TK rfl) rfl rfl rfl) rfl ?_
 refine s0 (fieldVA (TK rfl) rfl rfl (TK rfl) rfl rfl) rfl ?_
 refine s0 (loadV (TK rfl) rfl rfl rfl) rfl ?_
 obtain ⟨x4, gx4, hE⟩ := bindO_some hE
 refine sH (callH rfl rfl (ACalls.asArgs (.cons (.refl _) (.cons (.refl _) (.cons (AsArg.nil (k' := 1) (t := tk2_3) hpG) .nil))) (Z7_walk gx4 _ hpG))) rfl ?_
 refine AOps.heq (h' := (H.set tk2_3 (some (.tok 1 x4.1.l.length)))) (by first | rfl | (rw [Heap.set_set]; rfl) | (funext n_; simp only [Heap.set]; (repeat' split) <;> first | rfl | (exfalso; simp_all; done) | (simp_all; done))) ?_
 refine s0 moveA rfl ?_
 refine s0 (extract rfl rfl) rfl ?_
 refine s0 (extract rfl rfl) rfl ?_
 refine s0 assignA rfl ?_
 refine s0 assignA rfl ?_
 refine nil ?_
 refine hK2 _ ?_
 clear hK2 K2
 refine AWp.dropTok 5 rfl ?_
 refine seqK fun K5 hK5 => ?_
 refine region ?_
 refine s0 moveA rfl ?_
 refine s0 (fieldVA (TK rfl) rfl rfl (TK rfl) rfl rfl) rfl ?_
 refine s0 (loadV (TK rfl) rfl rfl rfl) rfl ?_
 obtain ⟨x6, gx6, hE⟩ := bindO_some hE
 refine s0 (callP rfl rfl (fun H => Z80_walk gx6 H)) rfl ?_
 refine s0 assignA rfl ?_
 refine nil ?_
 refine hK5 _ ?_
 clear hK5 K5
 refine AWp.ret ?_
 repeat (first | refine xBlock_ret ?_ | refine xThen_ret ?_)
 obtain rfl := Option.some.inj hE
 refine retQ.retF H rfl ⟨rfl, rfl⟩ ?_
 first | exact Heap.sub_set htk2_3 | (simp only [Heap.set_set]; exact Heap.sub_set htk2_3)
def Z5_j5 (x4 : ((Sl Bs) × Bool))  (s7_6 : Bool) : Option ((Sl Bs) × Bool) := some (x4.1, s7_6)
def Z5_l10 (a0 : TQuery) (x4 : ((Sl Bs) × Bool))  : Nat → Bool → Nat → Option ((Sl Bs) × Bool)
 | 0, _, _ => none
 | n10 + 1, s7_11, s20_12 => bif (decide (((s20_12 : Nat) : Int) < ((x4.1.l.length : Nat) : Int))) then ((x4.1.l[s20_12]?).bind fun x18 => (Z4 a0 x18).bind fun x20 => guardO (s7_11) (Z6 a0 x20.1) false fun x21 => (Z5_l10 a0 x4 n10) (s7_11 && (!x21)) (s20_12 + 1)) else (Z5_j5 x4  s7_11)
def Z5 (a0 : TQuery) (a1 : (Sl TSel)) : Option ((Sl Bs) × Bool) := (Z7 a0 a1 (Sl.nil : Sl Bs)).bind fun x4 => Z5_l10 a0 x4 (x4.1.l.length + 1) x4.2 0
theorem Z5_walk {a0 : TQuery} {a1 : (Sl TSel)} {w1 : Option Nat}  {r : ((Sl Bs) × Bool)} (hE : Z5 a0 a1 = some r) (H : Heap)  : ACalls Tryz.prog 15 [.agg (TQuery.c a0), .d (Sl.d 7 TSel.c w1 a1)] H fun v h' => v = .tup [.d (Sl.d 1 strE none r.1), .d (.bool r.2)] ∧ h' = H := by
 unfold Z5 at hE
 refine ACalls.of_wp (fn := Tryz.f15) (c := _) Tryz.tab_ok (fun _ _ => Tryz.call15 _ _) Tryz.func15 rfl (n := 40) rfl (rs := [.tmp 4, .tmp 5]) rfl rfl ?_
 refine seqK fun K1 hK1 => ?_
 refine region ?_
 refine s0 (boxV rfl) rfl ?_
 refine s0 (assignNil (k' := 1) rfl) rfl ?_
 refine s0 assignA rfl ?_
 refine nil ?_
 refine hK1 _ ?_
 clear hK1 K1
 refine seqK fun K2 hK2 => ?_
 refine AWp.tok 1 fun tk2_3 htk2_3 => ?_
 refine region ?_
 refine s0 (loadV (TK rfl) rfl rfl rfl) rfl ?_
 refine s0 moveA rfl ?_
 obtain ⟨x4, gx4, hE⟩ := bindO_some hE
 refine sH (callH rfl rfl (ACalls.asArgs (.cons (.refl _) (.cons (.refl _) (.cons (AsArg.nil (k' := 1) (t := tk2_3) hpG) .nil))) (Z7_walk gx4 _ hpG))) rfl ?_
 refine AOps.heq (h' := (H.set tk2_3 (some (.tok 1 x4.1.l.length)))) (by first | rfl | (rw [Heap.set_set]; rfl) | (funext n_; simp only [Heap.set]; (repeat' split) <;> first | rfl | (exfalso; simp_all; done) | (simp_all; done))) ?_
 refine s0 moveA rfl ?_
 refine s0 (extract rfl rfl) rfl ?_
 refine s0 (extract rfl rfl) rfl ?_
 refine s0 assignA rfl ?_
 refine s0 assignA rfl ?_
 refine nil ?_
 refine hK2 _ ?_
 clear hK2 K2
 refine AWp.dropTok 6 rfl ?_
 refine seqJH (KeepsT.A (k := 6) KeepsT.nil) (fun (z : Bool) => [(7, .a (.d (.bool z)))]) (fun z => (H.set tk2_3 (some (.tok 1 x4.1.l.length)))) (fun z => Z5_j5 x4 z = some r) ?_ ?_
 ·intro K5 hK5
  refine seqK fun K8 hK8 => ?_
  refine region ?_
  refine s0 moveA rfl ?_
  refine sLen (f := strE) (s := x4.1) (TK rfl) rfl rfl rfl rfl fun hL9 => ?_
  refine s0 moveA rfl ?_
  refine nil ?_
  refine hK8 _ ?_
  clear hK8 K8
  refine block ?_
  refine loopH (KeepsT.A (k := 2) (KeepsT.A (k := 6) (KeepsT.A (k := 18) (KeepsT.A (k := 19) KeepsT.nil)))) (fun (z : Nat × Bool × Nat) => [(7, .a (.d (.bool z.2.1))), (20, .a (.d (.int .i64 ((z.2.2 : Nat) : Int))))]) (fun z => (H.set tk2_3 (some (.tok 1 x4.1.l.length)))) (fun z => z.1) (fun z => Z5_l10 a0 x4 z.1 z.2.1 z.2.2 = some r) ((x4.1.l.length + 1), x4.2, 0) hE Weak.toA ?_
  rintro ⟨n10, s7_11, s20_12⟩ hE K10 hK10
  try dsimp only at hE
  cases n10 with
  | zero => cases hE
  | succ n10 =>
    rw [Z5_l10] at hE
    refine seqK fun K13 hK13 => ?_
    refine region ?_
    refine s0 (binI rfl rfl rfl) rfl ?_
    refine nil ?_
    refine hK13 _ ?_
    clear hK13 K13
    refine seqK fun K14 hK14 => ?_
    refine condE hE rfl (fun hc15 hE => ?_) (fun hc15 hE => ?_)
    ·try dsimp only at hc15
     have hf15 := of_decide_eq_true hc15
     refine AWp.skip ?_
     refine hK14 _ ?_
     clear hK14 K14
     refine seqK fun K16 hK16 => ?_
     refine block ?_
     refine seqK fun K17 hK17 => ?_
     refine region ?_
     obtain ⟨x18, gx18, hE⟩ := bindO_some hE
     refine s0 (idxMn (f := strE) (n := s20_12) (TK rfl) rfl (TK rfl) rfl rfl rfl gx18) rfl ?_
     refine s0 (loadV (TK rfl) rfl rfl rfl) rfl ?_
     refine s0 assignA rfl ?_
     refine nil ?_
     refine hK17 _ ?_
     clear hK17 K17
     refine seqK fun K19 hK19 => ?_
     refine region ?_
     refine s0 (loadV (TK rfl) rfl rfl rfl) rfl ?_
     refine s0 moveA rfl ?_
     obtain ⟨x20, gx20, hE⟩ := bindO_some hE
     refine s0 (callP rfl rfl (fun H => Z4_walk gx20 H)) rfl ?_
     refine s0 moveA rfl ?_
     refine s0 (extract rfl rfl) rfl ?_
     refine s0 (extract rfl rfl) rfl ?_
     refine sL (allocLA (TK rfl) rfl) rfl ?_
     refine sLn (storeLFA (TK rfl) rfl rfl rfl rfl rfl) ?_
     refine s0 assignA rfl ?_
     refine nil ?_
     refine hK19 _ ?_
     clear hK19 K19
     refine freezeA 10 _ rfl (Keeps.c (k := 2) (by conv => lhs; whnf) (by rfl) (Keeps.c (k := 6) (by conv => lhs; whnf) (by rfl) (Keeps.c (k := 7) (by conv => lhs; whnf) (by rfl) (Keeps.c (k := 18) (by conv => lhs; whnf) (by rfl) (Keeps.c (k := 19) (by conv => lhs; whnf) (by rfl) (Keeps.c (k := 20) (by conv => lhs; whnf) (by rfl) Keeps.nil)))))) ?_
     refine region ?_
     refine s0 moveA rfl ?_
     refine s0 moveA rfl ?_
     refine gC rfl rfl (fun hC => loadV (TK rfl) rfl rfl rfl) rfl ?_
     refine gC rfl rfl (fun hC => loadV (TK rfl) rfl rfl rfl) rfl ?_
     obtain ⟨x21, gx21, hE⟩ := guardO_some hE
     refine gC rfl rfl (fun hC => ungdA (k := 32) rfl (ungdA (k := 33) rfl (callP rfl rfl (fun H => Z6_walk (gx21 hC) H)))) rfl ?_
     refine gC rfl rfl (fun hC => ungdA (k := 34) rfl (notB rfl)) rfl ?_
     refine s0 (pickAndA rfl rfl rfl) rfl ?_
     refine s0 assignA rfl ?_
     refine nil ?_
     refine hK16 _ ?_
     clear hK16 K16
     refine region ?_
     refine s0 (addIA rfl rfl) rfl ?_
     refine s0 moveA rfl ?_
     refine nil ?_
     exact hK10 _ (n10, (s7_11 && (!x21)), (s20_12 + 1)) Weak.toA hE (Nat.lt_succ_self _)
    refine AWp.exit ?_
    exact hK5 _ s7_11 Weak.toA hE
 rintro s7_6 hE
 try dsimp only at hE
 unfold Z5_j5 at hE
 refine seqK fun K7 hK7 => ?_
 refine region ?_
 refine s0 moveA rfl ?_
 refine s0 moveA rfl ?_
 refine s0 assignA rfl ?_
 refine s0 assignA rfl ?_
 refine nil ?_
 refine hK7 _ ?_
 clear hK7 K7
 refine AWp.ret ?_
 repeat (first | refine xBlock_ret ?_ | refine xThen_ret ?_)
 obtain rfl := Option.some.inj hE
 refine retQ.retF H rfl ⟨rfl, rfl⟩ ?_
 first | exact Heap.sub_set htk2_3 | (simp only [Heap.set_set]; exact Heap.sub_set htk2_3)
def Z77 (a0 : (Sl TUse)) : Option (Sl TUse) := bif a0.nl then (some (Sl.nil : Sl TUse)) else ((appC 56 (⟨false, []⟩ : Sl TUse) a0).bind fun x7 => some x7)
theorem Z77_arr {a0 : (Sl TUse)} {w0 : Option Nat}  {ar0 : Nat} {r : (Sl TUse)} (hE : Z77 a0 = some r) (H : Heap) (har0 : H ar0 = some (.arr 4 []))  : ACalls Tryz.prog 55 [.d (Sl.d 4 TUse.c w0 a0)] H fun v h' => v = .a (.d (.arr 4 ar0 r.nl r.l.length)) ∧ h' = H.set ar0 (some (.arr 4 (r.l.map TUse.c))) := by
 unfold Z77 at hE
 refine ACalls.of_wp (fn := Tryz.f55) (c := _) Tryz.tab_ok (fun _ _ => Tryz.call55 _ _) Tryz.func55 rfl (n := 8) rfl (rs := [.tmp 2]) rfl rfl ?_
 refine AWp.heqA (h' := (H.set ar0 (some (.arr 4 [])))) (by funext n_; simp only [Heap.set]; (repeat' split) <;> simp_all) ?_
 refine seqK fun K1 hK1 => ?_
 refine region ?_
 refine s0 (assignNil (k' := 4) rfl) rfl ?_
 refine AOps.nilR 2 4 ar0 rfl hpG ?_
 refine nil ?_
 refine hK1 _ ?_
 clear hK1 K1
 refine seqK fun K2 hK2 => ?_
 refine seqK fun K3 hK3 => ?_
 refine region ?_
 refine s0 moveA rfl ?_
 refine s0 (eqNil (TK rfl) rfl rfl) rfl ?_
 refine nil ?_
 refine hK3 _ ?_
 clear hK3 K3
 refine condE hE rfl (fun hc4 hE => ?_) (fun hc4 hE => ?_)
 ·refine seqK fun K5 hK5 => ?_
  refine region ?_
  refine s0 (assignNil (k' := 4) rfl) rfl ?_
  refine AOps.nilR 2 4 ar0 rfl hpG ?_
  refine nil ?_
  refine hK5 _ ?_
  clear hK5 K5
  refine AWp.ret ?_
  repeat (first | refine xBlock_ret ?_ | refine xThen_ret ?_)
  obtain rfl := Option.some.inj hE
  refine retQ.retF (H.set ar0 (some (.arr 4 []))) rfl ⟨rfl, rfl⟩ ?_
  exact (fun _ _ h => h)
 refine AWp.skip ?_
 refine hK2 _ ?_
 clear hK2 K2
 refine seqK fun K6 hK6 => ?_
 refine region ?_
 refine s0 (buildSliceF (TK rfl) rfl (TK rfl) rfl rfl rfl rfl rfl rfl) rfl ?_
 refine AOps.fullR 5 4 ar0 rfl hpG ?_
 refine s0 moveA rfl ?_
 obtain ⟨x7, gx7, hE⟩ := bindO_some hE
 refine sH (appR (f := TUse.c) (s := (⟨false, []⟩ : Sl TUse)) (TK rfl) rfl (TK rfl) (TK rfl) ⟨_, rfl⟩ rfl rfl rfl rfl rfl rfl hpG (by first | rfl | simp [Sl.setL, Sl.nil, sortL_len]) rfl gx7) rfl ?_
 refine AOps.heq (h' := (H.set ar0 (some (.arr 4 (x7.l.map TUse.c))))) (by first | rfl | (rw [Heap.set_set]; rfl) | (funext n_; simp only [Heap.set]; (repeat' split) <;> first | rfl | (exfalso; simp_all; done) | (simp_all; done))) ?_
 refine s0 assignA rfl ?_
 refine nil ?_
 refine hK6 _ ?_
 clear hK6 K6
 refine AWp.ret ?_
 repeat (first | refine xBlock_ret ?_ | refine xThen_ret ?_)
 obtain rfl := Option.some.inj hE
 refine retQ.retF (H.set ar0 (some (.arr 4 (x7.l.map TUse.c)))) rfl ⟨rfl, rfl⟩ ?_
 exact (fun _ _ h => h)
instance : Inhabited TUse := ⟨TUse.zero⟩
def Tryz.lay56_ren : Go.Shelf.Ren := ⟨fun | 6 => 56 | 15 => 103 | 14 => 102 | 28 => 142 | 29 => 143 | 20 => 134 | 21 => 135 | 22 => 136 | 23 => 137 | 24 => 138 | 25 => 139 | 26 => 140 | 27 => 141 | 46 => 155 | 47 => 156 | 48 => 157 | 49 => 158 | 50 => 159 | 57 => 168 | n => n, fun | 22 => 32 | 24 => 57 | 25 => 126 | 3 => 3 | 39 => 161 | 0 => 0 | 53 => 186 | 55 => 188 | 4 => 4 | 46 => 179 | 45 => 178 | 50 => 183 | 5 => 5 | 9 => 9 | 66 => 195 | 70 => 199 | 76 => 208 | 77 => 209 | n => n, fun | n => n⟩
theorem Tryz.lay56 : Go.Proofs.SlLaysF0.n6 Tryz.prog Tryz.lay56_ren := {
 mixed := by kernel_rfl
 f6 := ⟨Tryz.f56.name, by decide, Tryz.func56.trans (congrArg some (by kernel_rfl))⟩
 f14 := ⟨Tryz.f102.name, by decide, Tryz.func102.trans (congrArg some (by kernel_rfl))⟩
 f15 := Tryz.func103.trans (congrArg some (by kernel_rfl))
 f20 := ⟨Tryz.f134.name, by decide, Tryz.func134.trans (congrArg some (by kernel_rfl))⟩
 f21 := ⟨Tryz.f135.name, by decide, Tryz.func135.trans (congrArg some (by kernel_rfl))⟩
 f22 := ⟨Tryz.f136.name, by decide, Tryz.func136.trans (congrArg some (by kernel_rfl))⟩
 f23 := ⟨Tryz.f137.name, by decide, Tryz.func137.trans (congrArg some (by kernel_rfl))⟩
 f24 := ⟨Tryz.f138.name, by decide, Tryz.func138.trans (congrArg some (by kernel_rfl))⟩
 f25 := ⟨Tryz.f139.name, by decide, Tryz.func139.trans (congrArg some (by kernel_rfl))⟩
 f26 := ⟨Tryz.f140.name, by decide, Tryz.func140.trans (congrArg some (by kernel_rfl))⟩
 f27 := ⟨Tryz.f141.name, by decide, Tryz.func141.trans (congrArg some (by kernel_rfl))⟩
 f28 := Tryz.func142.trans (congrArg some (by kernel_rfl))
 f29 := Tryz.func143.trans (congrArg some (by kernel_rfl))
 f46 := ⟨Tryz.f155.name, by decide, Tryz.func155.trans (congrArg some (by kernel_rfl))⟩
 f47 := Tryz.func156.trans (congrArg some (by kernel_rfl))
 f48 := Tryz.func157.trans (congrArg some (by kernel_rfl))
 f49 := ⟨Tryz.f158.name, by decide, Tryz.func158.trans (congrArg some (by kernel_rfl))⟩
 f50 := ⟨Tryz.f159.name, by decide, Tryz.func159.trans (congrArg some (by kernel_rfl))⟩
 f57 := ⟨Tryz.f168.name, by decide, Tryz.func168.trans (congrArg some (by kernel_rfl))⟩
 t0 := Tryz.underlying0
 a0 := Tryz.isAgg0
 z0 := Tryz.sizeOf0
 v0 := Tryz.zeroValue0
 t3 := Tryz.underlying3
 a3 := Tryz.isAgg3
 z3 := Tryz.sizeOf3
 v3 := Tryz.zeroValue3
 t4 := Tryz.underlying4
 a4 := Tryz.isAgg4
 z4 := Tryz.sizeOf4
 v4 := Tryz.zeroValue4
 t5 := Tryz.underlying5
 a5 := Tryz.isAgg5
 z5 := Tryz.sizeOf5
 v5 := Tryz.zeroValue5
 t9 := Tryz.underlying9
 a9 := Tryz.isAgg9
 z9 := Tryz.sizeOf9
 v9 := Tryz.zeroValue9
 t22 := Tryz.underlying32
 a22 := Tryz.isAgg32
 z22 := Tryz.sizeOf32
 v22 := Tryz.zeroValue32
 t25 := Tryz.underlying126
 a25 := Tryz.isAgg126
 z25 := Tryz.sizeOf126
 v25 := Tryz.zeroValue126
 t39 := Tryz.underlying161
 a39 := Tryz.isAgg161
 z39 := Tryz.sizeOf161
 v39 := Tryz.zeroValue161
 t45 := Tryz.underlying178
 a45 := Tryz.isAgg178
 z45 := Tryz.sizeOf178
 v45 := Tryz.zeroValue178
 t46 := Tryz.underlying179
 a46 := Tryz.isAgg179
 z46 := Tryz.sizeOf179
 v46 := Tryz.zeroValue179
 t50 := Tryz.underlying183
 a50 := Tryz.isAgg183
 z50 := Tryz.sizeOf183
 v50 := Tryz.zeroValue183
 t53 := Tryz.underlying186
 a53 := Tryz.isAgg186
 z53 := Tryz.sizeOf186
 v53 := Tryz.zeroValue186
 t55 := Tryz.underlying188
 a55 := Tryz.isAgg188
 z55 := Tryz.sizeOf188
 v55 := Tryz.zeroValue188
 t66 := Tryz.underlying195
 a66 := Tryz.isAgg195
 z66 := Tryz.sizeOf195
 v66 := Tryz.zeroValue195
 t70 := Tryz.underlying199
 a70 := Tryz.isAgg199
 z70 := Tryz.sizeOf199
 v70 := Tryz.zeroValue199
 t76 := Tryz.underlying208
 a76 := Tryz.isAgg208
 z76 := Tryz.sizeOf208
 v76 := Tryz.zeroValue208
 t77 := Tryz.underlying209
 a77 := Tryz.isAgg209
 z77 := Tryz.sizeOf209
 v77 := Tryz.zeroValue209 }
theorem Z83_sc : ∀ x, ∀ d, d ∈ TUse.c x → IsScal d := by
 intro x d hd
 simp only [TUse.c, strE, boolE, intE, List.mem_append, List.mem_cons, List.not_mem_nil, or_false] at hd
 rcases hd with rfl | rfl | rfl | rfl <;> first | exact .inl ⟨_, rfl⟩ | exact .inr (.inl ⟨_, _, rfl⟩) | exact .inr (.inr ⟨_, rfl⟩)
theorem Z83_walk {s : Sl TUse} {f : TUse → TUse → Option Int} {g : Nat} (ht : ∀ x y, ∃ z, f x y = some z) (hO : Go.Sort.SWO (Go.Proofs.ltOf (cmpO f))) (hw : ∀ {x y : TUse} {r : Int}, f x y = some r → ∀ H, ACalls Tryz.prog g [.agg (TUse.c x), .agg (TUse.c y)] H fun v h' => v = .a (.d (.int .i64 r)) ∧ h' = H)
  {H : Heap} {id m : Nat} {nl : Bool} (hH : H id = some (.arr 4 (s.l.map TUse.c))) (hm : m = s.l.length) : ACalls Tryz.prog 56 [.d (.arr 4 id nl m), .d (.func g [])] H fun r h' => r = .tup [] ∧ h' = H.set id (some (.arr 4 ((sortL TUse.c f s).l.map TUse.c))) :=
 sortL_calls Tryz.lay56 Tryz.isAgg57 Tryz.sizeOf57 (fun _ => rfl) Z83_sc (by kernel_rfl) ht hO hw hH hm rfl
end Go.Proofs
