import Derived.Test.YtjghdpblmakljaaGreatV3
set_option maxRecDepth 100000
set_option maxHeartbeats 2000000
set_option linter.unusedVariables false
set_option linter.unusedSimpArgs false
namespace Go.Proofs
open Go Go.Ab
open AOps Cert AWp
def r08_selsRight_j7   : Option Bool := some true
def r08_selsRight_l10 (a0 : (Sl TSel)) (a1 : Int) (k_rec_88 : TSel → Int → Option Bool) : Nat → Nat → Option Bool
 | 0, _ => none
 | n10 + 1, s5_11 => bif (decide (((s5_11 : Nat) : Int) < ((a0.l.length : Nat) : Int))) then ((a0.l[s5_11]?).bind fun x18 => (k_rec_88 x18 a1).bind fun x19 => bif (!x19) then (some false) else ((r08_selsRight_l10 a0 a1 k_rec_88 n10) (s5_11 + 1))) else (r08_selsRight_j7   )
mutual
def r08_selsRight_n : Nat → (Sl TSel) → Int → Option Bool
 | 0, _, _ => none
 | n + 1, a0, a1 => bif (((decide (((a0.l.length : Nat) : Int) = (0 : Int))) || (decide ((64 : Int) < ((a0.l.length : Nat) : Int)))) || (decide ((24 : Int) < a1))) then (some false) else (r08_selsRight_l10 a0 a1 (Z53_n n) (a0.l.length + 1) 0)
def Z53_n : Nat → TSel → Int → Option Bool
 | 0, _, _ => none
 | n + 1, a0, a1 => (Z52 a0.FDirs).bind fun x4 => guardO (!(!x4)) (Z50 a0.FArgs) false fun x5 => bif ((!x4) || (!x5)) then (some false) else (bif (decide (a0.FKind = (1 : Int))) then ((Z19 a0.FName).bind fun x13 => guardO ((x13 && !((a0.FAlias == ([] : Bs))))) (Z19 a0.FAlias) false fun x14 => guardO ((((x13 && (((a0.FAlias == ([] : Bs))) || x14)) && ((a0.FOn == ([] : Bs)))) && !(decide (((a0.FSels.l.length : Nat) : Int) = (0 : Int))))) (addC a1 (1 : Int)) (0 : Int) fun x15 => guardO ((((x13 && (((a0.FAlias == ([] : Bs))) || x14)) && ((a0.FOn == ([] : Bs)))) && !(decide (((a0.FSels.l.length : Nat) : Int) = (0 : Int))))) ((r08_selsRight_n n) a0.FSels x15) false fun x16 => some (((x13 && (((a0.FAlias == ([] : Bs))) || x14)) && ((a0.FOn == ([] : Bs)))) && ((decide (((a0.FSels.l.length : Nat) : Int) = (0 : Int))) || x16))) else (bif (decide (a0.FKind = (2 : Int))) then ((Z54 a0.FName).bind fun x20 => some ((((x20 && ((a0.FAlias == ([] : Bs)))) && ((a0.FOn == ([] : Bs)))) && (decide (((a0.FArgs.l.length : Nat) : Int) = (0 : Int)))) && (decide (((a0.FSels.l.length : Nat) : Int) = (0 : Int))))) else (bif (decide (a0.FKind = (3 : Int))) then (guardO (((((a0.FName == ([] : Bs))) && ((a0.FAlias == ([] : Bs)))) && !((a0.FOn == ([] : Bs))))) (Z19 a0.FOn) false fun x24 => guardO ((((((a0.FName == ([] : Bs))) && ((a0.FAlias == ([] : Bs)))) && (((a0.FOn == ([] : Bs))) || x24)) && (decide (((a0.FArgs.l.length : Nat) : Int) = (0 : Int))))) (addC a1 (1 : Int)) (0 : Int) fun x25 => guardO ((((((a0.FName == ([] : Bs))) && ((a0.FAlias == ([] : Bs)))) && (((a0.FOn == ([] : Bs))) || x24)) && (decide (((a0.FArgs.l.length : Nat) : Int) = (0 : Int))))) ((r08_selsRight_n n) a0.FSels x25) false fun x26 => some ((((((a0.FName == ([] : Bs))) && ((a0.FAlias == ([] : Bs)))) && (((a0.FOn == ([] : Bs))) || x24)) && (decide (((a0.FArgs.l.length : Nat) : Int) = (0 : Int)))) && x26)) else (some false))))
end
theorem r08_selsRight_step (n : Nat) (ih_49 : ∀ {a0 : (Sl TSel)} {a1 : Int} {w0 : Option Nat}  {r : Bool}, r08_selsRight_n n a0 a1 = some r → ∀ (H : Heap), ACalls Tryz.prog 49 [.d (Sl.d 7 TSel.c w0 a0), .d (.int .i64 a1)] H fun v h' => v = .a (.d (.bool r)) ∧ h' = H) (ih_88 : ∀ {a0 : TSel} {a1 : Int}   {r : Bool}, Z53_n n a0 a1 = some r → ∀ (H : Heap), ACalls Tryz.prog 88 [.agg (TSel.c a0), .d (.int .i64 a1)] H fun v h' => v = .a (.d (.bool r)) ∧ h' = H) : ∀ {a0 : (Sl TSel)} {a1 : Int} {w0 : Option Nat}  {r : Bool}, r08_selsRight_n (n + 1) a0 a1 = some r → ∀ (H : Heap), ACalls Tryz.prog 49 [.d (Sl.d 7 TSel.c w0 a0), .d (.int .i64 a1)] H fun v h' => v = .a (.d (.bool r)) ∧ h' = H := by
 intro a0 a1 w0  r hE H 
 rw [r08_selsRight_n] at hE
 refine ACalls.of_wp (fn := Tryz.f49) (c := _) Tryz.tab_ok (fun _ _ => Tryz.call49 _ _) Tryz.func49 rfl (n := 31) rfl (rs := [.tmp 4]) rfl rfl ?_
 refine seqK fun K1 hK1 => ?_
 refine region ?_
 refine s0 assignA rfl ?_
 refine nil ?_
 refine hK1 _ ?_
 clear hK1 K1
 refine seqK fun K2 hK2 => ?_
 refine seqK fun K3 hK3 => ?_
 refine region ?_
 refine s0 moveA rfl ?_
 refine sLen (f := TSel.c) (s := a0) (TK rfl) rfl rfl rfl rfl fun hL4 => ?_
 refine s0 (binI rfl rfl rfl) rfl ?_
 refine s0 moveA rfl ?_
 refine gC rfl rfl (fun hC => moveA) rfl ?_
 refine gC rfl rfl (fun hC => ungdA (k := 10) rfl (lenM' (f := TSel.c) (s := a0) (TK rfl) rfl rfl rfl)) rfl ?_
 refine gC rfl rfl (fun hC => ungdA (k := 11) rfl (binI rfl rfl rfl)) rfl ?_
 refine s0 (pickOrA rfl rfl rfl) rfl ?_
 refine s0 moveA rfl ?_
 refine gC rfl rfl (fun hC => moveA) rfl ?_
 refine gC rfl rfl (fun hC => ungdA (k := 15) rfl (binI rfl rfl rfl)) rfl ?_
 refine s0 (pickOrA rfl rfl rfl) rfl ?_
 refine nil ?_
 refine hK3 _ ?_
 clear hK3 K3
 refine condE hE rfl (fun hc5 hE => ?_) (fun hc5 hE => ?_)
 ·refine seqK fun K6 hK6 => ?_
  refine region ?_
  refine s0 assignA rfl ?_
  refine nil ?_
  refine hK6 _ ?_
  clear hK6 K6
  refine AWp.ret ?_
  repeat (first | refine xBlock_ret ?_ | refine xThen_ret ?_)
  obtain rfl := Option.some.inj hE
  refine retQ.retF H rfl ⟨rfl, rfl⟩ ?_
  exact (fun _ _ h => h)
 refine AWp.skip ?_
 refine hK2 _ ?_
 clear hK2 K2
 refine seqJH KeepsT.nil (fun (z : Unit) => []) (fun z => H) (fun z => r08_selsRight_j7  = some r) ?_ ?_
 ·intro K7 hK7
  refine seqK fun K9 hK9 => ?_
  refine region ?_
  refine s0 assignA rfl ?_
  refine nil ?_
  refine hK9 _ ?_
  clear hK9 K9
  refine block ?_
  refine loopH (KeepsT.A (k := 0) (KeepsT.A (k := 1) KeepsT.nil)) (fun (z : Nat × Nat) => [(5, .a (.d (.int .i64 ((z.2 : Nat) : Int))))]) (fun z => H) (fun z => z.1) (fun z => r08_selsRight_l10 a0 a1 (Z53_n n) z.1 z.2 = some r) ((a0.l.length + 1), 0) hE Weak.toA ?_
  rintro ⟨n10, s5_11⟩ hE K10 hK10
  try dsimp only at hE
  cases n10 with
  | zero => cases hE
  | succ n10 =>
    rw [r08_selsRight_l10] at hE
    refine seqK fun K12 hK12 => ?_
    refine seqK fun K13 hK13 => ?_
    refine region ?_
    refine s0 moveA rfl ?_
    refine s0 moveA rfl ?_
    refine sLen (f := TSel.c) (s := a0) (TK rfl) rfl rfl rfl rfl fun hL14 => ?_
    refine s0 (binI rfl rfl rfl) rfl ?_
    refine nil ?_
    refine hK13 _ ?_
    clear hK13 K13
    refine condE hE rfl (fun hc15 hE => ?_) (fun hc15 hE => ?_)
    ·try dsimp only at hc15
     have hf15 := of_decide_eq_true hc15
     refine AWp.skip ?_
     refine hK12 _ ?_
     clear hK12 K12
     refine seqK fun K16 hK16 => ?_
     refine block ?_
     refine seqK fun K17 hK17 => ?_
     refine region ?_
     refine s0 moveA rfl ?_
     refine s0 moveA rfl ?_
     obtain ⟨x18, gx18, hE⟩ := bindO_some hE
     refine s0 (idxMn (f := TSel.c) (n := s5_11) (TK rfl) rfl (TK rfl) rfl rfl rfl gx18) rfl ?_
     refine s0 (loadV (TK rfl) rfl rfl rfl) rfl ?_
     refine s0 moveA rfl ?_
     obtain ⟨x19, gx19, hE⟩ := bindO_some hE
     refine s0 (callP rfl rfl (fun H => ih_88 gx19 H)) rfl ?_
     refine s0 (notB rfl) rfl ?_
     refine nil ?_
     refine hK17 _ ?_
     clear hK17 K17
     refine condE hE rfl (fun hc20 hE => ?_) (fun hc20 hE => ?_)
     ·refine seqK fun K21 hK21 => ?_
      refine region ?_
      refine s0 assignA rfl ?_
      refine nil ?_
      refine hK21 _ ?_
      clear hK21 K21
      refine AWp.ret ?_
      repeat (first | refine xBlock_ret ?_ | refine xThen_ret ?_)
      obtain rfl := Option.some.inj hE
      refine retQ.retF H rfl ⟨rfl, rfl⟩ ?_
      exact (fun _ _ h => h)
     refine AWp.skip ?_
     refine hK16 _ ?_
     clear hK16 K16
     refine region ?_
     refine s0 moveA rfl ?_
     refine s0 (addIA rfl rfl) rfl ?_
     refine s0 assignA rfl ?_
     refine nil ?_
     exact hK10 _ (n10, (s5_11 + 1)) Weak.toA hE (Nat.lt_succ_self _)
    refine AWp.exit ?_
    exact hK7 _ () Weak.toA hE
 rintro _ hE
 try dsimp only at hE
 unfold r08_selsRight_j7 at hE
 refine seqK fun K8 hK8 => ?_
 refine region ?_
 refine s0 assignA rfl ?_
 refine nil ?_
 refine hK8 _ ?_
 clear hK8 K8
 refine AWp.ret ?_
 repeat (first | refine xBlock_ret ?_ | refine xThen_ret ?_)
 obtain rfl := Option.some.inj hE
 refine retQ.retF H rfl ⟨rfl, rfl⟩ ?_
 exact (fun _ _ h => h)
theorem Z53_step (n : Nat) (ih_49 : ∀ {a0 : (Sl TSel)} {a1 : Int} {w0 : Option Nat}  {r : Bool}, r08_selsRight_n n a0 a1 = some r → ∀ (H : Heap), ACalls Tryz.prog 49 [.d (Sl.d 7 TSel.c w0 a0), .d (.int .i64 a1)] H fun v h' => v = .a (.d (.bool r)) ∧ h' = H) (ih_88 : ∀ {a0 : TSel} {a1 : Int}   {r : Bool}, Z53_n n a0 a1 = some r → ∀ (H : Heap), ACalls Tryz.prog 88 [.agg (TSel.c a0), .d (.int .i64 a1)] H fun v h' => v = .a (.d (.bool r)) ∧ h' = H) : ∀ {a0 : TSel} {a1 : Int}   {r : Bool}, Z53_n (n + 1) a0 a1 = some r → ∀ (H : Heap), ACalls Tryz.prog 88 [.agg (TSel.c a0), .d (.int .i64 a1)] H fun v h' => v = .a (.d (.bool r)) ∧ h' = H := by
 intro a0 a1   r hE H 
 rw [Z53_n] at hE
 refine ACalls.of_wp (fn := Tryz.f88) (c := _) Tryz.tab_ok (fun _ _ => Tryz.call88 _ _) Tryz.func88 rfl (n := 110) rfl (rs := [.tmp 4]) rfl rfl ?_
 refine seqK fun K1 hK1 => ?_
 refine region ?_
 refine s0 (boxV rfl) rfl ?_
 refine s0 assignA rfl ?_
 refine nil ?_
 refine hK1 _ ?_
 clear hK1 K1
 refine seqK fun K2 hK2 => ?_
 refine seqK fun K3 hK3 => ?_
 refine region ?_
 refine s0 (fieldVA (TK rfl) rfl rfl (TK rfl) rfl rfl) rfl ?_
 refine s0 (loadV (TK rfl) rfl rfl rfl) rfl ?_
 obtain ⟨x4, gx4, hE⟩ := bindO_some hE
 refine s0 (callP rfl rfl (fun H => Z52_walk gx4 H)) rfl ?_
 refine s0 (notB rfl) rfl ?_
 refine s0 moveA rfl ?_
 refine gC rfl rfl (fun hC => fieldVA (TK rfl) rfl rfl (TK rfl) rfl rfl) rfl ?_
 refine gC rfl rfl (fun hC => ungdA (k := 10) rfl (loadV (TK rfl) rfl rfl rfl)) rfl ?_
 obtain ⟨x5, gx5, hE⟩ := guardO_some hE
 refine gC rfl rfl (fun hC => ungdA (k := 11) rfl (callP rfl rfl (fun H => Z50_walk (gx5 hC) H))) rfl ?_
 refine gC rfl rfl (fun hC => ungdA (k := 12) rfl (notB rfl)) rfl ?_
 refine s0 (pickOrA rfl rfl rfl) rfl ?_
 refine nil ?_
 refine hK3 _ ?_
 clear hK3 K3
 refine condE hE rfl (fun hc6 hE => ?_) (fun hc6 hE => ?_)
 ·refine seqK fun K7 hK7 => ?_
  refine region ?_
  refine s0 assignA rfl ?_
  refine nil ?_
  refine hK7 _ ?_
  clear hK7 K7
  refine AWp.ret ?_
  repeat (first | refine xBlock_ret ?_ | refine xThen_ret ?_)
  obtain rfl := Option.some.inj hE
  refine retQ.retF H rfl ⟨rfl, rfl⟩ ?_
  exact (fun _ _ h => h)
 refine AWp.skip ?_
 refine hK2 _ ?_
 clear hK2 K2
 refine seqK fun K8 hK8 => ?_
 refine seqK fun K9 hK9 => ?_
 refine region ?_
 refine s0 (fieldVA (TK rfl) rfl rfl (TK rfl) rfl rfl) rfl ?_
 refine s0 (loadV (TK rfl) rfl rfl rfl) rfl ?_
 refine nil ?_
 refine hK9 _ ?_
 clear hK9 K9
 refine block ?_
 refine seqK fun K10 hK10 => ?_
 refine region ?_
 refine s0 (binI rfl rfl rfl) rfl ?_
 refine s0 assignA rfl ?_
 refine nil ?_
 refine hK10 _ ?_
 clear hK10 K10
 refine condE hE rfl (fun hc11 hE => ?_) (fun hc11 hE => ?_)
 ·refine seqK fun K12 hK12 => ?_
  refine region ?_
  refine s0 (fieldVA (TK rfl) rfl rfl (TK rfl) rfl rfl) rfl ?_
  refine s0 (loadV (TK rfl) rfl rfl rfl) rfl ?_
  obtain ⟨x13, gx13, hE⟩ := bindO_some hE
  refine s0 (callP rfl rfl (fun H => Z19_walk gx13 H)) rfl ?_
  refine s0 moveA rfl ?_
  refine gC rfl rfl (fun hC => fieldVA (TK rfl) rfl rfl (TK rfl) rfl rfl) rfl ?_
  refine gC rfl rfl (fun hC => ungdA (k := 23) rfl (loadV (TK rfl) rfl rfl rfl)) rfl ?_
  refine gC rfl rfl (fun hC => ungdA (k := 24) rfl (binS rfl rfl rfl)) rfl ?_
  refine gC rfl rfl (fun hC => ungdA (k := 25) rfl moveA) rfl ?_
  refine gC rfl rfl (fun hC => fieldVA (TK rfl) rfl rfl (TK rfl) rfl rfl) rfl ?_
  refine gC rfl rfl (fun hC => ungdA (k := 27) rfl (loadV (TK rfl) rfl rfl rfl)) rfl ?_
  obtain ⟨x14, gx14, hE⟩ := guardO_some hE
  refine gC rfl rfl (fun hC => ungdA (k := 28) rfl (callP rfl rfl (fun H => Z19_walk (gx14 hC) H))) rfl ?_
  refine gC rfl rfl (fun hC => ungdA (k := 26) rfl (pickOrA rfl rfl rfl)) rfl ?_
  refine s0 (pickAndA rfl rfl rfl) rfl ?_
  refine s0 moveA rfl ?_
  refine gC rfl rfl (fun hC => fieldVA (TK rfl) rfl rfl (TK rfl) rfl rfl) rfl ?_
  refine gC rfl rfl (fun hC => ungdA (k := 33) rfl (loadV (TK rfl) rfl rfl rfl)) rfl ?_
  refine gC rfl rfl (fun hC => ungdA (k := 34) rfl (binS rfl rfl rfl)) rfl ?_
  refine s0 (pickAndA rfl rfl rfl) rfl ?_
  refine s0 moveA rfl ?_
  refine gC rfl rfl (fun hC => fieldVA (TK rfl) rfl rfl (TK rfl) rfl rfl) rfl ?_
  refine gC rfl rfl (fun hC => ungdA (k := 38) rfl (loadV (TK rfl) rfl rfl (congrArg (fun x => some (A.d x)) (TSel.FSelsD_eq _)))) rfl ?_
  refine gC rfl rfl (fun hC => ungdA (k := 39) rfl (lenM' (f := TSel.c) (s := a0.FSels) (TK rfl) rfl rfl rfl)) rfl ?_
  refine gC rfl rfl (fun hC => ungdA (k := 40) rfl (binI rfl rfl rfl)) rfl ?_
  refine gC rfl rfl (fun hC => ungdA (k := 41) rfl moveA) rfl ?_
  refine gC rfl rfl (fun hC => fieldVA (TK rfl) rfl rfl (TK rfl) rfl rfl) rfl ?_
  refine gC rfl rfl (fun hC => ungdA (k := 43) rfl (loadV (TK rfl) rfl rfl (congrArg (fun x => some (A.d x)) (TSel.FSelsD_eq _)))) rfl ?_
  refine gC rfl rfl (fun hC => moveA) rfl ?_
  obtain ⟨x15, gx15, hE⟩ := guardO_some hE
  refine gC rfl rfl (fun hC => ungdA (k := 45) rfl (addM rfl rfl (gx15 hC))) rfl ?_
  obtain ⟨x16, gx16, hE⟩ := guardO_some hE
  refine gC rfl rfl (fun hC => ungdA (k := 44) rfl (ungdA (k := 46) rfl (callP rfl rfl (fun H => ih_49 (gx16 hC) H)))) rfl ?_
  refine gC rfl rfl (fun hC => ungdA (k := 42) rfl (pickOrA rfl rfl rfl)) rfl ?_
  refine s0 (pickAndA rfl rfl rfl) rfl ?_
  refine s0 assignA rfl ?_
  refine nil ?_
  refine hK12 _ ?_
  clear hK12 K12
  refine AWp.ret ?_
  repeat (first | refine xBlock_ret ?_ | refine xThen_ret ?_)
  obtain rfl := Option.some.inj hE
  refine retQ.retF H rfl ⟨rfl, rfl⟩ ?_
  exact (fun _ _ h => h)
 refine seqK fun K17 hK17 => ?_
 refine region ?_
 refine s0 (binI rfl rfl rfl) rfl ?_
 refine s0 assignA rfl ?_
 refine nil ?_
 refine hK17 _ ?_
 clear hK17 K17
 refine condE hE rfl (fun hc18 hE => ?_) (fun hc18 hE => ?_)
 ·refine seqK fun K19 hK19 => ?_
  refine region ?_
  refine s0 (fieldVA (TK rfl) rfl rfl (TK rfl) rfl rfl) rfl ?_
  refine s0 (loadV (TK rfl) rfl rfl rfl) rfl ?_
  obtain ⟨x20, gx20, hE⟩ := bindO_some hE
  refine s0 (callP rfl rfl (fun H => Z54_walk gx20 H)) rfl ?_
  refine s0 moveA rfl ?_
  refine gC rfl rfl (fun hC => fieldVA (TK rfl) rfl rfl (TK rfl) rfl rfl) rfl ?_
  refine gC rfl rfl (fun hC => ungdA (k := 56) rfl (loadV (TK rfl) rfl rfl rfl)) rfl ?_
  refine gC rfl rfl (fun hC => ungdA (k := 57) rfl (binS rfl rfl rfl)) rfl ?_
  refine s0 (pickAndA rfl rfl rfl) rfl ?_
  refine s0 moveA rfl ?_
  refine gC rfl rfl (fun hC => fieldVA (TK rfl) rfl rfl (TK rfl) rfl rfl) rfl ?_
  refine gC rfl rfl (fun hC => ungdA (k := 61) rfl (loadV (TK rfl) rfl rfl rfl)) rfl ?_
  refine gC rfl rfl (fun hC => ungdA (k := 62) rfl (binS rfl rfl rfl)) rfl ?_
  refine s0 (pickAndA rfl rfl rfl) rfl ?_
  refine s0 moveA rfl ?_
  refine gC rfl rfl (fun hC => fieldVA (TK rfl) rfl rfl (TK rfl) rfl rfl) rfl ?_
  refine gC rfl rfl (fun hC => ungdA (k := 66) rfl (loadV (TK rfl) rfl rfl rfl)) rfl ?_
  refine gC rfl rfl (fun hC => ungdA (k := 67) rfl (lenM' (f := TArg.c) (s := a0.FArgs) (TK rfl) rfl rfl rfl)) rfl ?_
  refine gC rfl rfl (fun hC => ungdA (k := 68) rfl (binI rfl rfl rfl)) rfl ?_
  refine s0 (pickAndA rfl rfl rfl) rfl ?_
  refine s0 moveA rfl ?_
  refine gC rfl rfl (fun hC => fieldVA (TK rfl) rfl rfl (TK rfl) rfl rfl) rfl ?_
  refine gC rfl rfl (fun hC => ungdA (k := 72) rfl (loadV (TK rfl) rfl rfl (congrArg (fun x => some (A.d x)) (TSel.FSelsD_eq _)))) rfl ?_
  refine gC rfl rfl (fun hC => ungdA (k := 73) rfl (lenM' (f := TSel.c) (s := a0.FSels) (TK rfl) rfl rfl rfl)) rfl ?_
  refine gC rfl rfl (fun hC => ungdA (k := 74) rfl (binI rfl rfl rfl)) rfl ?_
  refine s0 (pickAndA rfl rfl rfl) rfl ?_
  refine s0 assignA rfl ?_
  refine nil ?_
  refine hK19 _ ?_
  clear hK19 K19
  refine AWp.ret ?_
  repeat (first | refine xBlock_ret ?_ | refine xThen_ret ?_)
  obtain rfl := Option.some.inj hE
  refine retQ.retF H rfl ⟨rfl, rfl⟩ ?_
  exact (fun _ _ h => h)
 refine seqK fun K21 hK21 => ?_
 refine region ?_
 refine s0 (binI rfl rfl rfl) rfl ?_
 refine s0 assignA rfl ?_
 refine nil ?_
 refine hK21 _ ?_
 clear hK21 K21
 refine condE hE rfl (fun hc22 hE => ?_) (fun hc22 hE => ?_)
 ·refine seqK fun K23 hK23 => ?_
  refine region ?_
  refine s0 (fieldVA (TK rfl) rfl rfl (TK rfl) rfl rfl) rfl ?_
  refine s0 (loadV (TK rfl) rfl rfl rfl) rfl ?_
  refine s0 (binS rfl rfl rfl) rfl ?_
  refine s0 moveA rfl ?_
  refine gC rfl rfl (fun hC => fieldVA (TK rfl) rfl rfl (TK rfl) rfl rfl) rfl ?_
  refine gC rfl rfl (fun hC => ungdA (k := 83) rfl (loadV (TK rfl) rfl rfl rfl)) rfl ?_
  refine gC rfl rfl (fun hC => ungdA (k := 84) rfl (binS rfl rfl rfl)) rfl ?_
  refine s0 (pickAndA rfl rfl rfl) rfl ?_
  refine s0 moveA rfl ?_
  refine gC rfl rfl (fun hC => fieldVA (TK rfl) rfl rfl (TK rfl) rfl rfl) rfl ?_
  refine gC rfl rfl (fun hC => ungdA (k := 88) rfl (loadV (TK rfl) rfl rfl rfl)) rfl ?_
  refine gC rfl rfl (fun hC => ungdA (k := 89) rfl (binS rfl rfl rfl)) rfl ?_
  refine gC rfl rfl (fun hC => ungdA (k := 90) rfl moveA) rfl ?_
  refine gC rfl rfl (fun hC => fieldVA (TK rfl) rfl rfl (TK rfl) rfl rfl) rfl ?_
  refine gC rfl rfl (fun hC => ungdA (k := 92) rfl (loadV (TK rfl) rfl rfl rfl)) rfl ?_
  obtain ⟨x24, gx24, hE⟩ := guardO_some hE
  refine gC rfl rfl (fun hC => ungdA (k := 93) rfl (callP rfl rfl (fun H => Z19_walk (gx24 hC) H))) rfl ?_
  refine gC rfl rfl (fun hC => ungdA (k := 91) rfl (pickOrA rfl rfl rfl)) rfl ?_
  refine s0 (pickAndA rfl rfl rfl) rfl ?_
  refine s0 moveA rfl ?_
  refine gC rfl rfl (fun hC => fieldVA (TK rfl) rfl rfl (TK rfl) rfl rfl) rfl ?_
  refine gC rfl rfl (fun hC => ungdA (k := 98) rfl (loadV (TK rfl) rfl rfl rfl)) rfl ?_
  refine gC rfl rfl (fun hC => ungdA (k := 99) rfl (lenM' (f := TArg.c) (s := a0.FArgs) (TK rfl) rfl rfl rfl)) rfl ?_
  refine gC rfl rfl (fun hC => ungdA (k := 100) rfl (binI rfl rfl rfl)) rfl ?_
  refine s0 (pickAndA rfl rfl rfl) rfl ?_
  refine s0 moveA rfl ?_
  refine gC rfl rfl (fun hC => fieldVA (TK rfl) rfl rfl (TK rfl) rfl rfl) rfl ?_
  refine gC rfl rfl (fun hC => ungdA (k := 104) rfl (loadV (TK rfl) rfl rfl (congrArg (fun x => some (A.d x)) (TSel.FSelsD_eq _)))) rfl ?_
  refine gC rfl rfl (fun hC => moveA) rfl ?_
  obtain ⟨x25, gx25, hE⟩ := guardO_some hE
  refine gC rfl rfl (fun hC => ungdA (k := 106) rfl (addM rfl rfl (gx25 hC))) rfl ?_
  obtain ⟨x26, gx26, hE⟩ := guardO_some hE
  refine gC rfl rfl (fun hC => ungdA (k := 105) rfl (ungdA (k := 107) rfl (callP rfl rfl (fun H => ih_49 (gx26 hC) H)))) rfl ?_
  refine s0 (pickAndA rfl rfl rfl) rfl ?_
  refine s0 assignA rfl ?_
  refine nil ?_
  refine hK23 _ ?_
  clear hK23 K23
  refine AWp.ret ?_
  repeat (first | refine xBlock_ret ?_ | refine xThen_ret ?_)
  obtain rfl := Option.some.inj hE
  refine retQ.retF H rfl ⟨rfl, rfl⟩ ?_
  exact (fun _ _ h => h)
 refine AWp.skip ?_
 refine hK8 _ ?_
 clear hK8 K8
 refine seqK fun K27 hK27 => ?_
 refine region ?_
 refine s0 assignA rfl ?_
 refine nil ?_
 refine hK27 _ ?_
 clear hK27 K27
 refine AWp.ret ?_
 repeat (first | refine xBlock_ret ?_ | refine xThen_ret ?_)
 obtain rfl := Option.some.inj hE
 refine retQ.retF H rfl ⟨rfl, rfl⟩ ?_
 exact (fun _ _ h => h)
theorem r08_selsRight_all : ∀ (n : Nat), (∀ {a0 : (Sl TSel)} {a1 : Int} {w0 : Option Nat}  {r : Bool}, r08_selsRight_n n a0 a1 = some r → ∀ (H : Heap), ACalls Tryz.prog 49 [.d (Sl.d 7 TSel.c w0 a0), .d (.int .i64 a1)] H fun v h' => v = .a (.d (.bool r)) ∧ h' = H) ∧ (∀ {a0 : TSel} {a1 : Int}   {r : Bool}, Z53_n n a0 a1 = some r → ∀ (H : Heap), ACalls Tryz.prog 88 [.agg (TSel.c a0), .d (.int .i64 a1)] H fun v h' => v = .a (.d (.bool r)) ∧ h' = H)
 | 0 => ⟨fun hE => by first | cases hE | (rw [r08_selsRight_n] at hE; cases hE), fun hE => by first | cases hE | (rw [Z53_n] at hE; cases hE)⟩
 | n + 1 => ⟨r08_selsRight_step n (r08_selsRight_all n).1 (r08_selsRight_all n).2, Z53_step n (r08_selsRight_all n).1 (r08_selsRight_all n).2⟩
def r08_selsRight (a0 : (Sl TSel)) (a1 : Int) : Option Bool := r08_selsRight_n F0 a0 a1
theorem r08_selsRight_walk {a0 : (Sl TSel)} {a1 : Int} {w0 : Option Nat}  {r : Bool} (hE : r08_selsRight a0 a1 = some r) (H : Heap)  : ACalls Tryz.prog 49 [.d (Sl.d 7 TSel.c w0 a0), .d (.int .i64 a1)] H fun v h' => v = .a (.d (.bool r)) ∧ h' = H := (r08_selsRight_all F0).1 hE H 
def Z49_j11   : Option Bool := some true
def Z49_l14 (a0 : TQuery)  : Nat → Nat → Option Bool
 | 0, _ => none
 | n14 + 1, s6_15 => bif (decide (((s6_15 : Nat) : Int) < ((a0.FFrags.l.length : Nat) : Int))) then ((a0.FFrags.l[s6_15]?).bind fun x22 => (Z54 x22.FName).bind fun x24 => guardO (!(!x24)) (Z19 x22.FOn) false fun x25 => guardO (!((!x24) || (!x25))) (r08_selsRight x22.FSels (1 : Int)) false fun x26 => bif (((!x24) || (!x25)) || (!x26)) then (some false) else ((Z49_l14 a0 n14) (s6_15 + 1))) else (Z49_j11   )
def Z49_j10 (a0 : TQuery)   : Option Bool := Z49_l14 a0 (a0.FFrags.l.length + 1) 0
def Z49_l30 (a0 : TQuery)  : Nat → Nat → Option Bool
 | 0, _ => none
 | n30 + 1, s4_31 => bif (decide (((s4_31 : Nat) : Int) < ((a0.FOps.l.length : Nat) : Int))) then ((a0.FOps.l[s4_31]?).bind fun x38 => guardO ((!((decide (x38.FKind < (1 : Int))) || (decide ((3 : Int) < x38.FKind))) && (!(x38.FName == ([] : Bs))))) (Z19 x38.FName) false fun x40 => guardO (!(((decide (x38.FKind < (1 : Int))) || (decide ((3 : Int) < x38.FKind))) || ((!(x38.FName == ([] : Bs))) && (!x40)))) (Z55 x38.FVars) false fun x41 => guardO (!((((decide (x38.FKind < (1 : Int))) || (decide ((3 : Int) < x38.FKind))) || ((!(x38.FName == ([] : Bs))) && (!x40))) || (!x41))) (r08_selsRight x38.FSels (1 : Int)) false fun x42 => bif (((((decide (x38.FKind < (1 : Int))) || (decide ((3 : Int) < x38.FKind))) || ((!(x38.FName == ([] : Bs))) && (!x40))) || (!x41)) || (!x42)) then (some false) else ((Z49_l30 a0 n30) (s4_31 + 1))) else (Z49_j10 a0  )
def Z49 (a0 : TQuery) : Option Bool := (addC ((a0.FOps.l.length : Nat) : Int) ((a0.FFrags.l.length : Nat) : Int)).bind fun x5 => bif ((decide (x5 < (1 : Int))) || (decide ((64 : Int) < x5))) then (some false) else (Z49_l30 a0 (a0.FOps.l.length + 1) 0)
theorem Z49_walk {a0 : TQuery}   {r : Bool} (hE : Z49 a0 = some r) (H : Heap)  : ACalls Tryz.prog 18 [.agg (TQuery.c a0)] H fun v h' => v = .a (.d (.bool r)) ∧ h' = H := by
 unfold Z49 at hE
 refine ACalls.of_wp (fn := Tryz.f18) (c := _) Tryz.tab_ok (fun _ _ => Tryz.call18 _ _) Tryz.func18 rfl (n := 92) rfl (rs := [.tmp 2]) rfl rfl ?_
 refine seqK fun K1 hK1 => ?_
 refine region ?_
 refine s0 (boxV rfl) rfl ?_
 refine s0 assignA rfl ?_
 refine nil ?_
 refine hK1 _ ?_
 clear hK1 K1
 refine seqK fun K2 hK2 => ?_
 refine region ?_
 refine s0 (fieldVA (TK rfl) rfl rfl (TK rfl) rfl rfl) rfl ?_
 refine s0 (loadV (TK rfl) rfl rfl rfl) rfl ?_
 refine sLen (f := TOp.c) (s := a0.FOps) (TK rfl) rfl rfl rfl rfl fun hL3 => ?_
 refine s0 (fieldVA (TK rfl) rfl rfl (TK rfl) rfl rfl) rfl ?_
 refine s0 (loadV (TK rfl) rfl rfl rfl) rfl ?_
 refine sLen (f := TFrag.c) (s := a0.FFrags) (TK rfl) rfl rfl rfl rfl fun hL4 => ?_
 obtain ⟨x5, gx5, hE⟩ := bindO_some hE
 refine s0 (addM rfl rfl gx5) rfl ?_
 refine s0 assignA rfl ?_
 refine nil ?_
 refine hK2 _ ?_
 clear hK2 K2
 refine seqK fun K6 hK6 => ?_
 refine seqK fun K7 hK7 => ?_
 refine region ?_
 refine s0 moveA rfl ?_
 refine s0 (binI rfl rfl rfl) rfl ?_
 refine s0 moveA rfl ?_
 refine gC rfl rfl (fun hC => moveA) rfl ?_
 refine gC rfl rfl (fun hC => ungdA (k := 18) rfl (binI rfl rfl rfl)) rfl ?_
 refine s0 (pickOrA rfl rfl rfl) rfl ?_
 refine nil ?_
 refine hK7 _ ?_
 clear hK7 K7
 refine condE hE rfl (fun hc8 hE => ?_) (fun hc8 hE => ?_)
 ·refine seqK fun K9 hK9 => ?_
  refine region ?_
  refine s0 assignA rfl ?_
  refine nil ?_
  refine hK9 _ ?_
  clear hK9 K9
  refine AWp.ret ?_
  repeat (first | refine xBlock_ret ?_ | refine xThen_ret ?_)
  obtain rfl := Option.some.inj hE
  refine retQ.retF H rfl ⟨rfl, rfl⟩ ?_
  exact (fun _ _ h => h)
 refine AWp.skip ?_
 refine hK6 _ ?_
 clear hK6 K6
 refine seqJH (KeepsT.A (k := 1) KeepsT.nil) (fun (z : Unit) => []) (fun z => H) (fun z => Z49_j10 a0  = some r) ?_ ?_
 ·intro K10 hK10
  refine seqK fun K29 hK29 => ?_
  refine region ?_
  refine s0 assignA rfl ?_
  refine nil ?_
  refine hK29 _ ?_
  clear hK29 K29
  refine block ?_
  refine loopH (KeepsT.A (k := 1) KeepsT.nil) (fun (z : Nat × Nat) => [(4, .a (.d (.int .i64 ((z.2 : Nat) : Int))))]) (fun z => H) (fun z => z.1) (fun z => Z49_l30 a0 z.1 z.2 = some r) ((a0.FOps.l.length + 1), 0) hE Weak.toA ?_
  rintro ⟨n30, s4_31⟩ hE K30 hK30
  try dsimp only at hE
  cases n30 with
  | zero => cases hE
  | succ n30 =>
    rw [Z49_l30] at hE
    refine seqK fun K32 hK32 => ?_
    refine seqK fun K33 hK33 => ?_
    refine region ?_
    refine s0 moveA rfl ?_
    refine s0 (fieldVA (TK rfl) rfl rfl (TK rfl) rfl rfl) rfl ?_
    refine s0 (loadV (TK rfl) rfl rfl rfl) rfl ?_
    refine sLen (f := TOp.c) (s := a0.FOps) (TK rfl) rfl rfl rfl rfl fun hL34 => ?_
    refine s0 (binI rfl rfl rfl) rfl ?_
    refine nil ?_
    refine hK33 _ ?_
    clear hK33 K33
    refine condE hE rfl (fun hc35 hE => ?_) (fun hc35 hE => ?_)
    ·try dsimp only at hc35
     have hf35 := of_decide_eq_true hc35
     refine AWp.skip ?_
     refine hK32 _ ?_
     clear hK32 K32
     refine seqK fun K36 hK36 => ?_
     refine block ?_
     refine seqK fun K37 hK37 => ?_
     refine region ?_
     refine s0 (fieldVA (TK rfl) rfl rfl (TK rfl) rfl rfl) rfl ?_
     refine s0 (loadV (TK rfl) rfl rfl rfl) rfl ?_
     refine s0 moveA rfl ?_
     obtain ⟨x38, gx38, hE⟩ := bindO_some hE
     refine s0 (idxMn (f := TOp.c) (n := s4_31) (TK rfl) rfl (TK rfl) rfl rfl rfl gx38) rfl ?_
     refine s0 (loadV (TK rfl) rfl rfl rfl) rfl ?_
     refine sL (allocLA (TK rfl) rfl) rfl ?_
     refine sLn (storeLFA (TK rfl) rfl rfl rfl rfl rfl) ?_
     refine nil ?_
     refine hK37 _ ?_
     clear hK37 K37
     refine freezeA 5 _ rfl (Keeps.c (k := 1) (by conv => lhs; whnf) (by rfl) (Keeps.c (k := 4) (by conv => lhs; whnf) (by rfl) Keeps.nil)) ?_
     refine seqK fun K39 hK39 => ?_
     refine region ?_
     refine s0 (fieldVA (TK rfl) rfl rfl (TK rfl) rfl rfl) rfl ?_
     refine s0 (loadV (TK rfl) rfl rfl rfl) rfl ?_
     refine s0 (binI rfl rfl rfl) rfl ?_
     refine s0 moveA rfl ?_
     refine gC rfl rfl (fun hC => fieldVA (TK rfl) rfl rfl (TK rfl) rfl rfl) rfl ?_
     refine gC rfl rfl (fun hC => ungdA (k := 37) rfl (loadV (TK rfl) rfl rfl rfl)) rfl ?_
     refine gC rfl rfl (fun hC => ungdA (k := 38) rfl (binI rfl rfl rfl)) rfl ?_
     refine s0 (pickOrA rfl rfl rfl) rfl ?_
     refine s0 moveA rfl ?_
     refine gC rfl rfl (fun hC => fieldVA (TK rfl) rfl rfl (TK rfl) rfl rfl) rfl ?_
     refine gC rfl rfl (fun hC => ungdA (k := 42) rfl (loadV (TK rfl) rfl rfl rfl)) rfl ?_
     refine gC rfl rfl (fun hC => ungdA (k := 43) rfl (binS rfl rfl rfl)) rfl ?_
     refine gC rfl rfl (fun hC => ungdA (k := 44) rfl moveA) rfl ?_
     refine gC rfl rfl (fun hC => fieldVA (TK rfl) rfl rfl (TK rfl) rfl rfl) rfl ?_
     refine gC rfl rfl (fun hC => ungdA (k := 46) rfl (loadV (TK rfl) rfl rfl rfl)) rfl ?_
     obtain ⟨x40, gx40, hE⟩ := guardO_some hE
     refine gC rfl rfl (fun hC => ungdA (k := 47) rfl (callP rfl rfl (fun H => Z19_walk (gx40 hC) H))) rfl ?_
     refine gC rfl rfl (fun hC => ungdA (k := 48) rfl (notB rfl)) rfl ?_
     refine gC rfl rfl (fun hC => ungdA (k := 45) rfl (pickAndA rfl rfl rfl)) rfl ?_
     refine s0 (pickOrA rfl rfl rfl) rfl ?_
     refine s0 moveA rfl ?_
     refine gC rfl rfl (fun hC => fieldVA (TK rfl) rfl rfl (TK rfl) rfl rfl) rfl ?_
     refine gC rfl rfl (fun hC => ungdA (k := 53) rfl (loadV (TK rfl) rfl rfl rfl)) rfl ?_
     obtain ⟨x41, gx41, hE⟩ := guardO_some hE
     refine gC rfl rfl (fun hC => ungdA (k := 54) rfl (callP rfl rfl (fun H => Z55_walk (gx41 hC) H))) rfl ?_
     refine gC rfl rfl (fun hC => ungdA (k := 55) rfl (notB rfl)) rfl ?_
     refine s0 (pickOrA rfl rfl rfl) rfl ?_
     refine s0 moveA rfl ?_
     refine gC rfl rfl (fun hC => fieldVA (TK rfl) rfl rfl (TK rfl) rfl rfl) rfl ?_
     refine gC rfl rfl (fun hC => ungdA (k := 59) rfl (loadV (TK rfl) rfl rfl rfl)) rfl ?_
     obtain ⟨x42, gx42, hE⟩ := guardO_some hE
     refine gC rfl rfl (fun hC => ungdA (k := 60) rfl (callP rfl rfl (fun H => r08_selsRight_walk (gx42 hC) H))) rfl ?_
     refine gC rfl rfl (fun hC => ungdA (k := 61) rfl (notB rfl)) rfl ?_
     refine s0 (pickOrA rfl rfl rfl) rfl ?_
     refine nil ?_
     refine hK39 _ ?_
     clear hK39 K39
     refine condE hE rfl (fun hc43 hE => ?_) (fun hc43 hE => ?_)
     ·refine seqK fun K44 hK44 => ?_
      refine region ?_
      refine s0 assignA rfl ?_
      refine nil ?_
      refine hK44 _ ?_
      clear hK44 K44
      refine AWp.ret ?_
      repeat (first | refine xBlock_ret ?_ | refine xThen_ret ?_)
      obtain rfl := Option.some.inj hE
      refine retQ.retF H rfl ⟨rfl, rfl⟩ ?_
      exact (fun _ _ h => h)
     refine AWp.skip ?_
     refine hK36 _ ?_
     clear hK36 K36
     refine region ?_
     refine s0 moveA rfl ?_
     refine s0 (addIA rfl rfl) rfl ?_
     refine s0 assignA rfl ?_
     refine nil ?_
     exact hK30 _ (n30, (s4_31 + 1)) Weak.toA hE (Nat.lt_succ_self _)
    refine AWp.exit ?_
    exact hK10 _ () Weak.toA hE
 rintro _ hE
 try dsimp only at hE
 unfold Z49_j10 at hE
 refine seqJH KeepsT.nil (fun (z : Unit) => []) (fun z => H) (fun z => Z49_j11  = some r) ?_ ?_
 ·intro K11 hK11
  refine seqK fun K13 hK13 => ?_
  refine region ?_
  refine s0 assignA rfl ?_
  refine nil ?_
  refine hK13 _ ?_
  clear hK13 K13
  refine block ?_
  refine loopH (KeepsT.A (k := 1) KeepsT.nil) (fun (z : Nat × Nat) => [(6, .a (.d (.int .i64 ((z.2 : Nat) : Int))))]) (fun z => H) (fun z => z.1) (fun z => Z49_l14 a0 z.1 z.2 = some r) ((a0.FFrags.l.length + 1), 0) hE Weak.toA ?_
  rintro ⟨n14, s6_15⟩ hE K14 hK14
  try dsimp only at hE
  cases n14 with
  | zero => cases hE
  | succ n14 =>
    rw [Z49_l14] at hE
    refine seqK fun K16 hK16 => ?_
    refine seqK fun K17 hK17 => ?_
    refine region ?_
    refine s0 moveA rfl ?_
    refine s0 (fieldVA (TK rfl) rfl rfl (TK rfl) rfl rfl) rfl ?_
    refine s0 (loadV (TK rfl) rfl rfl rfl) rfl ?_
    refine sLen (f := TFrag.c) (s := a0.FFrags) (TK rfl) rfl rfl rfl rfl fun hL18 => ?_
    refine s0 (binI rfl rfl rfl) rfl ?_
    refine nil ?_
    refine hK17 _ ?_
    clear hK17 K17
    refine condE hE rfl (fun hc19 hE => ?_) (fun hc19 hE => ?_)
    ·try dsimp only at hc19
     have hf19 := of_decide_eq_true hc19
     refine AWp.skip ?_
     refine hK16 _ ?_
     clear hK16 K16
     refine seqK fun K20 hK20 => ?_
     refine block ?_
     refine seqK fun K21 hK21 => ?_
     refine region ?_
     refine s0 (fieldVA (TK rfl) rfl rfl (TK rfl) rfl rfl) rfl ?_
     refine s0 (loadV (TK rfl) rfl rfl rfl) rfl ?_
     refine s0 moveA rfl ?_
     obtain ⟨x22, gx22, hE⟩ := bindO_some hE
     refine s0 (idxMn (f := TFrag.c) (n := s6_15) (TK rfl) rfl (TK rfl) rfl rfl rfl gx22) rfl ?_
     refine s0 (loadV (TK rfl) rfl rfl rfl) rfl ?_
     refine sL (allocLA (TK rfl) rfl) rfl ?_
     refine sLn (storeLFA (TK rfl) rfl rfl rfl rfl rfl) ?_
     refine nil ?_
     refine hK21 _ ?_
     clear hK21 K21
     refine freezeA 7 _ rfl (Keeps.c (k := 1) (by conv => lhs; whnf) (by rfl) (Keeps.c (k := 6) (by conv => lhs; whnf) (by rfl) Keeps.nil)) ?_
     refine seqK fun K23 hK23 => ?_
     refine region ?_
     refine s0 (fieldVA (TK rfl) rfl rfl (TK rfl) rfl rfl) rfl ?_
     refine s0 (loadV (TK rfl) rfl rfl rfl) rfl ?_
     obtain ⟨x24, gx24, hE⟩ := bindO_some hE
     refine s0 (callP rfl rfl (fun H => Z54_walk gx24 H)) rfl ?_
     refine s0 (notB rfl) rfl ?_
     refine s0 moveA rfl ?_
     refine gC rfl rfl (fun hC => fieldVA (TK rfl) rfl rfl (TK rfl) rfl rfl) rfl ?_
     refine gC rfl rfl (fun hC => ungdA (k := 81) rfl (loadV (TK rfl) rfl rfl rfl)) rfl ?_
     obtain ⟨x25, gx25, hE⟩ := guardO_some hE
     refine gC rfl rfl (fun hC => ungdA (k := 82) rfl (callP rfl rfl (fun H => Z19_walk (gx25 hC) H))) rfl ?_
     refine gC rfl rfl (fun hC => ungdA (k := 83) rfl (notB rfl)) rfl ?_
     refine s0 (pickOrA rfl rfl rfl) rfl ?_
     refine s0 moveA rfl ?_
     refine gC rfl rfl (fun hC => fieldVA (TK rfl) rfl rfl (TK rfl) rfl rfl) rfl ?_
     refine gC rfl rfl (fun hC => ungdA (k := 87) rfl (loadV (TK rfl) rfl rfl rfl)) rfl ?_
     obtain ⟨x26, gx26, hE⟩ := guardO_some hE
     refine gC rfl rfl (fun hC => ungdA (k := 88) rfl (callP rfl rfl (fun H => r08_selsRight_walk (gx26 hC) H))) rfl ?_
     refine gC rfl rfl (fun hC => ungdA (k := 89) rfl (notB rfl)) rfl ?_
     refine s0 (pickOrA rfl rfl rfl) rfl ?_
     refine nil ?_
     refine hK23 _ ?_
     clear hK23 K23
     refine condE hE rfl (fun hc27 hE => ?_) (fun hc27 hE => ?_)
     ·refine seqK fun K28 hK28 => ?_
      refine region ?_
      refine s0 assignA rfl ?_
      refine nil ?_
      refine hK28 _ ?_
      clear hK28 K28
      refine AWp.ret ?_
      repeat (first | refine xBlock_ret ?_ | refine xThen_ret ?_)
      obtain rfl := Option.some.inj hE
      refine retQ.retF H rfl ⟨rfl, rfl⟩ ?_
      exact (fun _ _ h => h)
     refine AWp.skip ?_
     refine hK20 _ ?_
     clear hK20 K20
     refine region ?_
     refine s0 moveA rfl ?_
     refine s0 (addIA rfl rfl) rfl ?_
     refine s0 assignA rfl ?_
     refine nil ?_
     exact hK14 _ (n14, (s6_15 + 1)) Weak.toA hE (Nat.lt_succ_self _)
    refine AWp.exit ?_
    exact hK11 _ () Weak.toA hE
 rintro _ hE
 try dsimp only at hE
 unfold Z49_j11 at hE
 refine seqK fun K12 hK12 => ?_
 refine region ?_
 refine s0 assignA rfl ?_
 refine nil ?_
 refine hK12 _ ?_
 clear hK12 K12
 refine AWp.ret ?_
 repeat (first | refine xBlock_ret ?_ | refine xThen_ret ?_)
 obtain rfl := Option.some.inj hE
 refine retQ.retF H rfl ⟨rfl, rfl⟩ ?_
 exact (fun _ _ h => h)
def Z17 (a0 : TDoc) (a1 : TQuery) : Option Bool := (Z63 a0).bind fun x3 => guardO ((!x3)) (Z48 a1) false fun x4 => guardO (((!x3) && (!x4))) (Z40 a0) false fun x5 => guardO ((((!x3) && (!x4)) && x5)) (Z49 a1) false fun x6 => some ((((!x3) && (!x4)) && x5) && x6)
theorem Z17_walk {a0 : TDoc} {a1 : TQuery}   {r : Bool} (hE : Z17 a0 a1 = some r) (H : Heap)  : ACalls Tryz.prog 5 [.agg (TDoc.c a0), .agg (TQuery.c a1)] H fun v h' => v = .a (.d (.bool r)) ∧ h' = H := by
 unfold Z17 at hE
 refine ACalls.of_wp (fn := Tryz.f5) (c := _) Tryz.tab_ok (fun _ _ => Tryz.call5 _ _) Tryz.func5 rfl (n := 21) rfl (rs := [.tmp 4]) rfl rfl ?_
 refine seqK fun K1 hK1 => ?_
 refine region ?_
 refine s0 (boxV rfl) rfl ?_
 refine s0 (boxV rfl) rfl ?_
 refine s0 assignA rfl ?_
 refine nil ?_
 refine hK1 _ ?_
 clear hK1 K1
 refine seqK fun K2 hK2 => ?_
 refine region ?_
 refine s0 (loadV (TK rfl) rfl rfl rfl) rfl ?_
 obtain ⟨x3, gx3, hE⟩ := bindO_some hE
 refine s0 (callP rfl rfl (fun H => Z63_walk gx3 H)) rfl ?_
 refine s0 (notB rfl) rfl ?_
 refine s0 moveA rfl ?_
 refine gC rfl rfl (fun hC => loadV (TK rfl) rfl rfl rfl) rfl ?_
 obtain ⟨x4, gx4, hE⟩ := guardO_some hE
 refine gC rfl rfl (fun hC => ungdA (k := 9) rfl (callP rfl rfl (fun H => Z48_walk (gx4 hC) H))) rfl ?_
 refine gC rfl rfl (fun hC => ungdA (k := 10) rfl (notB rfl)) rfl ?_
 refine s0 (pickAndA rfl rfl rfl) rfl ?_
 refine s0 moveA rfl ?_
 refine gC rfl rfl (fun hC => loadV (TK rfl) rfl rfl rfl) rfl ?_
 obtain ⟨x5, gx5, hE⟩ := guardO_some hE
 refine gC rfl rfl (fun hC => ungdA (k := 14) rfl (callP rfl rfl (fun H => Z40_walk (gx5 hC) H))) rfl ?_
 refine s0 (pickAndA rfl rfl rfl) rfl ?_
 refine s0 moveA rfl ?_
 refine gC rfl rfl (fun hC => loadV (TK rfl) rfl rfl rfl) rfl ?_
 obtain ⟨x6, gx6, hE⟩ := guardO_some hE
 refine gC rfl rfl (fun hC => ungdA (k := 18) rfl (callP rfl rfl (fun H => Z49_walk (gx6 hC) H))) rfl ?_
 refine s0 (pickAndA rfl rfl rfl) rfl ?_
 refine s0 assignA rfl ?_
 refine nil ?_
 refine hK2 _ ?_
 clear hK2 K2
 refine AWp.ret ?_
 repeat (first | refine xBlock_ret ?_ | refine xThen_ret ?_)
 obtain rfl := Option.some.inj hE
 refine retQ.retF H rfl ⟨rfl, rfl⟩ ?_
 exact (fun _ _ h => h)
theorem eqt_52 : eqTab Tryz.prog 52 = some [.int .i64, .str] := by kernel_rfl
def Z58_j8   : Option Bool := some true
def Z58_l11 (a0 : (Sl TFault)) (a1 : (Sl TFault))  : Nat → Nat → Option Bool
 | 0, _ => none
 | n11 + 1, s5_12 => bif (decide (((s5_12 : Nat) : Int) < ((a0.l.length : Nat) : Int))) then ((a0.l[s5_12]?).bind fun x19 => (a1.l[s5_12]?).bind fun x20 => bif (!(decide (x19.FErr = x20.FErr) && ((x19.FAt == x20.FAt) && true))) then (some false) else ((Z58_l11 a0 a1 n11) (s5_12 + 1))) else (Z58_j8   )
def Z58 (a0 : (Sl TFault)) (a1 : (Sl TFault)) : Option Bool := bif (!decide (((a0.l.length : Nat) : Int) = ((a1.l.length : Nat) : Int))) then (some false) else (Z58_l11 a0 a1 (a0.l.length + 1) 0)
theorem Z58_walk {a0 : (Sl TFault)} {a1 : (Sl TFault)} {w0 : Option Nat} {w1 : Option Nat}  {r : Bool} (hE : Z58 a0 a1 = some r) (H : Heap)  : ACalls Tryz.prog 7 [.d (Sl.d 2 TFault.c w0 a0), .d (Sl.d 2 TFault.c w1 a1)] H fun v h' => v = .a (.d (.bool r)) ∧ h' = H := by
 unfold Z58 at hE
 refine ACalls.of_wp (fn := Tryz.f7) (c := _) Tryz.tab_ok (fun _ _ => Tryz.call7 _ _) Tryz.func7 rfl (n := 26) rfl (rs := [.tmp 4]) rfl rfl ?_
 refine seqK fun K1 hK1 => ?_
 refine region ?_
 refine s0 assignA rfl ?_
 refine nil ?_
 refine hK1 _ ?_
 clear hK1 K1
 refine seqK fun K2 hK2 => ?_
 refine seqK fun K3 hK3 => ?_
 refine region ?_
 refine s0 moveA rfl ?_
 refine sLen (f := TFault.c) (s := a0) (TK rfl) rfl rfl rfl rfl fun hL4 => ?_
 refine s0 moveA rfl ?_
 refine sLen (f := TFault.c) (s := a1) (TK rfl) rfl rfl rfl rfl fun hL5 => ?_
 refine s0 (binI rfl rfl rfl) rfl ?_
 refine nil ?_
 refine hK3 _ ?_
 clear hK3 K3
 refine condE hE rfl (fun hc6 hE => ?_) (fun hc6 hE => ?_)
 ·refine seqK fun K7 hK7 => ?_
  refine region ?_
  refine s0 assignA rfl ?_
  refine nil ?_
  refine hK7 _ ?_
  clear hK7 K7
  refine AWp.ret ?_
  repeat (first | refine xBlock_ret ?_ | refine xThen_ret ?_)
  obtain rfl := Option.some.inj hE
  refine retQ.retF H rfl ⟨rfl, rfl⟩ ?_
  exact (fun _ _ h => h)
 refine AWp.skip ?_
 refine hK2 _ ?_
 clear hK2 K2
 refine seqJH KeepsT.nil (fun (z : Unit) => []) (fun z => H) (fun z => Z58_j8  = some r) ?_ ?_
 ·intro K8 hK8
  refine seqK fun K10 hK10 => ?_
  refine region ?_
  refine s0 assignA rfl ?_
  refine nil ?_
  refine hK10 _ ?_
  clear hK10 K10
  refine block ?_
  refine loopH (KeepsT.A (k := 0) (KeepsT.A (k := 1) KeepsT.nil)) (fun (z : Nat × Nat) => [(5, .a (.d (.int .i64 ((z.2 : Nat) : Int))))]) (fun z => H) (fun z => z.1) (fun z => Z58_l11 a0 a1 z.1 z.2 = some r) ((a0.l.length + 1), 0) hE Weak.toA ?_
  rintro ⟨n11, s5_12⟩ hE K11 hK11
  try dsimp only at hE
  cases n11 with
  | zero => cases hE
  | succ n11 =>
    rw [Z58_l11] at hE
    refine seqK fun K13 hK13 => ?_
    refine seqK fun K14 hK14 => ?_
    refine region ?_
    refine s0 moveA rfl ?_
    refine s0 moveA rfl ?_
    refine sLen (f := TFault.c) (s := a0) (TK rfl) rfl rfl rfl rfl fun hL15 => ?_
    refine s0 (binI rfl rfl rfl) rfl ?_
    refine nil ?_
    refine hK14 _ ?_
    clear hK14 K14
    refine condE hE rfl (fun hc16 hE => ?_) (fun hc16 hE => ?_)
    ·try dsimp only at hc16
     have hf16 := of_decide_eq_true hc16
     refine AWp.skip ?_
     refine hK13 _ ?_
     clear hK13 K13
     refine seqK fun K17 hK17 => ?_
     refine block ?_
     refine seqK fun K18 hK18 => ?_
     refine AWp.draw rfl ?_
     refine DOps.s0 moveA rfl ?_
     refine DOps.s0 moveA rfl ?_
     obtain ⟨x19, gx19, hE⟩ := bindO_some hE
     refine DOps.s0 (idxMn (f := TFault.c) (n := s5_12) (TK rfl) rfl (TK rfl) rfl rfl rfl gx19) rfl ?_
     refine DOps.s0 (loadV (TK rfl) rfl rfl rfl) rfl ?_
     refine DOps.s0 moveA rfl ?_
     refine DOps.s0 moveA rfl ?_
     obtain ⟨x20, gx20, hE⟩ := bindO_some hE
     refine DOps.s0 (idxMn (f := TFault.c) (n := s5_12) (TK rfl) rfl (TK rfl) rfl rfl rfl gx20) rfl ?_
     refine DOps.s0 (loadV (TK rfl) rfl rfl rfl) rfl ?_
     refine DOps.s0 (neStruct eqt_52 rfl rfl rfl rfl) rfl ?_
     refine DOps.nil (by decide +kernel) ?_
     refine hK18 _ ?_
     clear hK18 K18
     refine condE hE rfl (fun hc21 hE => ?_) (fun hc21 hE => ?_)
     ·refine seqK fun K22 hK22 => ?_
      refine region ?_
      refine s0 assignA rfl ?_
      refine nil ?_
      refine hK22 _ ?_
      clear hK22 K22
      refine AWp.ret ?_
      repeat (first | refine xBlock_ret ?_ | refine xThen_ret ?_)
      obtain rfl := Option.some.inj hE
      refine retQ.retF H rfl ⟨rfl, rfl⟩ ?_
      exact (fun _ _ h => h)
     refine AWp.skip ?_
     refine hK17 _ ?_
     clear hK17 K17
     refine region ?_
     refine s0 moveA rfl ?_
     refine s0 (addIA rfl rfl) rfl ?_
     refine s0 assignA rfl ?_
     refine nil ?_
     exact hK11 _ (n11, (s5_12 + 1)) Weak.toA hE (Nat.lt_succ_self _)
    refine AWp.exit ?_
    exact hK8 _ () Weak.toA hE
 rintro _ hE
 try dsimp only at hE
 unfold Z58_j8 at hE
 refine seqK fun K9 hK9 => ?_
 refine region ?_
 refine s0 assignA rfl ?_
 refine nil ?_
 refine hK9 _ ?_
 clear hK9 K9
 refine AWp.ret ?_
 repeat (first | refine xBlock_ret ?_ | refine xThen_ret ?_)
 obtain rfl := Option.some.inj hE
 refine retQ.retF H rfl ⟨rfl, rfl⟩ ?_
 exact (fun _ _ h => h)
def Z88 (a0 : Int) : Option Bs := bif (decide (a0 = (1 : Int))) then (some ([81, 117, 101, 114, 121] : Bs)) else (bif (decide (a0 = (2 : Int))) then (some ([77, 117, 116, 97, 116, 105, 111, 110] : Bs)) else (bif (decide (a0 = (3 : Int))) then (some ([83, 117, 98, 115, 99, 114, 105, 112, 116, 105, 111, 110] : Bs)) else (some ([] : Bs))))
theorem Z88_walk {a0 : Int}   {r : Bs} (hE : Z88 a0 = some r) (H : Heap)  : ACalls Tryz.prog 14 [.d (.int .i64 a0)] H fun v h' => v = .a (.d (.str r)) ∧ h' = H := by
 unfold Z88 at hE
 refine ACalls.of_wp (fn := Tryz.f14) (c := _) Tryz.tab_ok (fun _ _ => Tryz.call14 _ _) Tryz.func14 rfl (n := 10) rfl (rs := [.tmp 2]) rfl rfl ?_
 refine seqK fun K1 hK1 => ?_
 refine region ?_
 refine s0 assignA rfl ?_
 refine nil ?_
 refine hK1 _ ?_
 clear hK1 K1
 refine seqK fun K2 hK2 => ?_
 refine seqK fun K3 hK3 => ?_
 refine region ?_
 refine s0 moveA rfl ?_
 refine nil ?_
 refine hK3 _ ?_
 clear hK3 K3
 refine block ?_
 refine seqK fun K4 hK4 => ?_
 refine region ?_
 refine s0 (binI rfl rfl rfl) rfl ?_
 refine s0 assignA rfl ?_
 refine nil ?_
 refine hK4 _ ?_
 clear hK4 K4
 refine condE hE rfl (fun hc5 hE => ?_) (fun hc5 hE => ?_)
 ·refine seqK fun K6 hK6 => ?_
  refine region ?_
  refine s0 assignA rfl ?_
  refine nil ?_
  refine hK6 _ ?_
  clear hK6 K6
  refine AWp.ret ?_
  repeat (first | refine xBlock_ret ?_ | refine xThen_ret ?_)
  obtain rfl := Option.some.inj hE
  refine retQ.retF H rfl ⟨rfl, rfl⟩ ?_
  exact (fun _ _ h => h)
 refine seqK fun K7 hK7 => ?_
 refine region ?_
 refine s0 (binI rfl rfl rfl) rfl ?_
 refine s0 assignA rfl ?_
 refine nil ?_
 refine hK7 _ ?_
 clear hK7 K7
 refine condE hE rfl (fun hc8 hE => ?_) (fun hc8 hE => ?_)
 ·refine seqK fun K9 hK9 => ?_
  refine region ?_
  refine s0 assignA rfl ?_
  refine nil ?_
  refine hK9 _ ?_
  clear hK9 K9
  refine AWp.ret ?_
  repeat (first | refine xBlock_ret ?_ | refine xThen_ret ?_)
  obtain rfl := Option.some.inj hE
  refine retQ.retF H rfl ⟨rfl, rfl⟩ ?_
  exact (fun _ _ h => h)
 refine seqK fun K10 hK10 => ?_
 refine region ?_
 refine s0 (binI rfl rfl rfl) rfl ?_
 refine s0 assignA rfl ?_
 refine nil ?_
 refine hK10 _ ?_
 clear hK10 K10
 refine condE hE rfl (fun hc11 hE => ?_) (fun hc11 hE => ?_)
 ·refine seqK fun K12 hK12 => ?_
  refine region ?_
  refine s0 assignA rfl ?_
  refine nil ?_
  refine hK12 _ ?_
  clear hK12 K12
  refine AWp.ret ?_
  repeat (first | refine xBlock_ret ?_ | refine xThen_ret ?_)
  obtain rfl := Option.some.inj hE
  refine retQ.retF H rfl ⟨rfl, rfl⟩ ?_
  exact (fun _ _ h => h)
 refine AWp.skip ?_
 refine hK2 _ ?_
 clear hK2 K2
 refine seqK fun K13 hK13 => ?_
 refine region ?_
 refine s0 assignA rfl ?_
 refine nil ?_
 refine hK13 _ ?_
 clear hK13 K13
 refine AWp.ret ?_
 repeat (first | refine xBlock_ret ?_ | refine xThen_ret ?_)
 obtain rfl := Option.some.inj hE
 refine retQ.retF H rfl ⟨rfl, rfl⟩ ?_
 exact (fun _ _ h => h)
end Go.Proofs

namespace Go.Proofs
open Go Go.Ab
open AOps Cert AWp
def Z84_j2  (y3_l0 : TDef) : Option (TDef × Bool) := some ((TDef.mk (0 : Int) ([] : Bs) (Sl.nil : Sl Bs) (Sl.nil : Sl TDir) (Sl.nil : Sl TField) (Sl.nil : Sl TMember) (Sl.nil : Sl TInput)), false)
def Z84_l7 (a0 : TDoc) (a1 : Bs)  : Nat → Nat → TDef → Option (TDef × Bool)
 | 0, _, _ => none
 | n7 + 1, s11_8, y9_l0 => bif (decide (((s11_8 : Nat) : Int) < ((a0.FDefs.l.length : Nat) : Int))) then ((a0.FDefs.l[s11_8]?).bind fun x15 => bif ((x15.FName == a1)) then (some (x15, true)) else ((Z84_l7 a0 a1 n7) (s11_8 + 1) y9_l0)) else (Z84_j2   y9_l0)
def Z84 (a0 : TDoc) (a1 : Bs) : Option (TDef × Bool) := Z84_l7 a0 a1 (a0.FDefs.l.length + 1) 0 TDef.zero
theorem Z84_walk {a0 : TDoc} {a1 : Bs}   {r : (TDef × Bool)} (hE : Z84 a0 a1 = some r) (H : Heap)  : ACalls Tryz.prog 24 [.agg (TDoc.c a0), .d (.str a1)] H fun v h' => v = .tup [.agg (TDef.c r.1), .d (.bool r.2)] ∧ h' = H := by
 unfold Z84 at hE
 refine ACalls.of_wp (fn := Tryz.f24) (c := _) Tryz.tab_ok (fun _ _ => Tryz.call24 _ _) Tryz.func24 rfl (n := 22) rfl (rs := [.cell 4 70, .tmp 5]) rfl rfl ?_
 refine seqK fun K1 hK1 => ?_
 refine region ?_
 refine s0 (boxV rfl) rfl ?_
 refine sL (allocLA (TK rfl) rfl) rfl ?_
 refine s0 assignA rfl ?_
 refine nil ?_
 refine hK1 _ ?_
 clear hK1 K1
 refine seqJ (KeepsT.A (k := 4) KeepsT.nil) (fun (z : TDef) => []) (fun z => [TDef.c z]) (fun z => H) (fun z => Z84_j2 z = some r) ?_ ?_
 ·intro K2 hK2
  refine seqK fun K5 hK5 => ?_
  refine region ?_
  refine s0 (fieldVA (TK rfl) rfl rfl (TK rfl) rfl rfl) rfl ?_
  refine s0 (loadV (TK rfl) rfl rfl rfl) rfl ?_
  refine sLen (f := TDef.c) (s := a0.FDefs) (TK rfl) rfl rfl rfl rfl fun hL6 => ?_
  refine s0 moveA rfl ?_
  refine nil ?_
  refine hK5 _ ?_
  clear hK5 K5
  refine block ?_
  refine loopO (KeepsT.A (k := 1) (KeepsT.A (k := 4) (KeepsT.A (k := 9) (KeepsT.A (k := 10) KeepsT.nil)))) (fun (z : Nat × Nat × TDef) => [(11, .a (.d (.int .i64 ((z.2.1 : Nat) : Int))))]) (fun z => [TDef.c z.2.2]) (fun z => H) (fun z => z.1) (fun z => Z84_l7 a0 a1 z.1 z.2.1 z.2.2 = some r) ((a0.FDefs.l.length + 1), 0, TDef.zero) hE Weak.toA ?_
  rintro ⟨n7, s11_8, y9_l0⟩ hE K7 hK7
  try dsimp only at hE
  cases n7 with
  | zero => cases hE
  | succ n7 =>
    rw [Z84_l7] at hE
    refine seqK fun K10 hK10 => ?_
    refine region ?_
    refine s0 (binI rfl rfl rfl) rfl ?_
    refine nil ?_
    refine hK10 _ ?_
    clear hK10 K10
    refine seqK fun K11 hK11 => ?_
    refine condE hE rfl (fun hc12 hE => ?_) (fun hc12 hE => ?_)
    ·try dsimp only at hc12
     have hf12 := of_decide_eq_true hc12
     refine AWp.skip ?_
     refine hK11 _ ?_
     clear hK11 K11
     refine seqK fun K13 hK13 => ?_
     refine block ?_
     refine seqK fun K14 hK14 => ?_
     refine region ?_
     obtain ⟨x15, gx15, hE⟩ := bindO_some hE
     refine s0 (idxMn (f := TDef.c) (n := s11_8) (TK rfl) rfl (TK rfl) rfl rfl rfl gx15) rfl ?_
     refine s0 (loadV (TK rfl) rfl rfl rfl) rfl ?_
     refine sL (allocLA (TK rfl) rfl) rfl ?_
     refine sLn (storeLFA (TK rfl) rfl rfl rfl rfl rfl) ?_
     refine nil ?_
     refine hK14 _ ?_
     clear hK14 K14
     refine freezeA 7 _ rfl (Keeps.c (k := 1) (by conv => lhs; whnf) (by rfl) (Keeps.c (k := 4) (by conv => lhs; whnf) (by rfl) (Keeps.c (k := 9) (by conv => lhs; whnf) (by rfl) (Keeps.c (k := 10) (by conv => lhs; whnf) (by rfl) (Keeps.c (k := 11) (by conv => lhs; whnf) (by rfl) Keeps.nil))))) ?_
     refine seqK fun K16 hK16 => ?_
     refine region ?_
     refine s0 (fieldVA (TK rfl) rfl rfl (TK rfl) rfl rfl) rfl ?_
     refine s0 (loadV (TK rfl) rfl rfl rfl) rfl ?_
     refine s0 moveA rfl ?_
     refine s0 (binS rfl rfl rfl) rfl ?_
     refine nil ?_
     refine hK16 _ ?_
     clear hK16 K16
     refine condE hE rfl (fun hc17 hE => ?_) (fun hc17 hE => ?_)
     ·refine seqK fun K18 hK18 => ?_
      refine region ?_
      refine s0 (loadV (TK rfl) rfl rfl rfl) rfl ?_
      refine sLn (storeLFA (TK rfl) rfl rfl rfl rfl rfl) ?_
      refine s0 assignA rfl ?_
      refine nil ?_
      refine hK18 _ ?_
      clear hK18 K18
      refine AWp.ret ?_
      repeat (first | refine xBlock_ret ?_ | refine xThen_ret ?_)
      obtain rfl := Option.some.inj hE
      refine retQ.retF H rfl ⟨rfl, rfl⟩ ?_
      exact (fun _ _ h => h)
     refine AWp.skip ?_
     refine hK13 _ ?_
     clear hK13 K13
     refine region ?_
     refine s0 (addIA rfl rfl) rfl ?_
     refine s0 moveA rfl ?_
     refine nil ?_
     exact hK7 _ (n7, (s11_8 + 1), y9_l0) Weak.toA hE (Nat.lt_succ_self _)
    refine AWp.exit ?_
    exact hK2 _ y9_l0 Weak.toA hE
 rintro y3_l0 hE
 try dsimp only at hE
 unfold Z84_j2 at hE
 refine seqK fun K4 hK4 => ?_
 refine region ?_
 refine s0 (build Tryz.tab_ok rfl rfl rfl rfl rfl rfl) rfl ?_
 refine sLn (storeLFA (TK rfl) rfl rfl rfl rfl rfl) ?_
 refine s0 assignA rfl ?_
 refine nil ?_
 refine hK4 _ ?_
 clear hK4 K4
 refine AWp.ret ?_
 repeat (first | refine xBlock_ret ?_ | refine xThen_ret ?_)
 obtain rfl := Option.some.inj hE
 refine retQ.retF H rfl ⟨rfl, rfl⟩ ?_
 exact (fun _ _ h => h)
def Z8_j10 (s14_4 : Nat) (k_next_3 : Nat → (List Bs) → (List Bs) → Option ((List Bs) × (List Bs))) (y11_c2 : (List Bs)) (y12_c3 : (List Bs)) : Option ((List Bs) × (List Bs)) := k_next_3 (s14_4 + 1) y11_c2 y12_c3
def Z8_j30 (s45_24 : Nat) (k_next_23 : Nat → (List Bs) → (List Bs) → Option ((List Bs) × (List Bs))) (y31_c2 : (List Bs)) (y32_c3 : (List Bs)) : Option ((List Bs) × (List Bs)) := k_next_23 (s45_24 + 1) y31_c2 y32_c3
def Z8_l23 (a0 : Fields_checker) (s14_4 : Nat) (x14 : TSel) (k_next_3 : Nat → (List Bs) → (List Bs) → Option ((List Bs) × (List Bs))) (k_rec_25 : Fields_checker → (Sl TSel) → (List Bs) → (List Bs) → Option ((List Bs) × (List Bs))) : Nat → Nat → (List Bs) → (List Bs) → Option ((List Bs) × (List Bs))
 | 0, _, _, _ => none
 | n23 + 1, s45_24, y25_c2, y26_c3 => bif (decide (((s45_24 : Nat) : Int) < ((a0.Fq.FFrags.l.length : Nat) : Int))) then ((a0.Fq.FFrags.l[s45_24]?).bind fun x34 => bif (((x34.FName == x14.FName)) && (!(y26_c3.contains x14.FName))) then ((k_rec_25 a0 x34.FSels y25_c2 (insS y26_c3 x14.FName)).bind fun x38 => Z8_j30 s45_24 ((Z8_l23 a0 s14_4 x14 k_next_3 k_rec_25 n23)) x38.1 x38.2) else (Z8_j30 s45_24 ((Z8_l23 a0 s14_4 x14 k_next_3 k_rec_25 n23)) y25_c2 y26_c3)) else (Z8_j10 s14_4 k_next_3 y25_c2 y26_c3)
def Z8_l3 (a0 : Fields_checker) (a1 : (Sl TSel)) (k_rec_25 : Fields_checker → (Sl TSel) → (List Bs) → (List Bs) → Option ((List Bs) × (List Bs))) : Nat → Nat → (List Bs) → (List Bs) → Option ((List Bs) × (List Bs))
 | 0, _, _, _ => none
 | n3 + 1, s14_4, y5_c2, y6_c3 => bif (decide (((s14_4 : Nat) : Int) < ((a1.l.length : Nat) : Int))) then ((a1.l[s14_4]?).bind fun x14 => bif (decide (x14.FKind = (3 : Int))) then ((k_rec_25 a0 x14.FSels y5_c2 y6_c3).bind fun x18 => Z8_j10 s14_4 ((Z8_l3 a0 a1 k_rec_25 n3)) x18.1 x18.2) else (bif (decide (x14.FKind = (2 : Int))) then (Z8_l23 a0 s14_4 x14 ((Z8_l3 a0 a1 k_rec_25 n3)) k_rec_25 (a0.Fq.FFrags.l.length + 1) 0 y5_c2 y6_c3) else (bif (!(x14.FAlias == ([] : Bs))) then (Z8_j10 s14_4 ((Z8_l3 a0 a1 k_rec_25 n3)) (insS y5_c2 x14.FAlias) y6_c3) else (Z8_j10 s14_4 ((Z8_l3 a0 a1 k_rec_25 n3)) (insS y5_c2 x14.FName) y6_c3)))) else (some (y5_c2, y6_c3))
def Z8_n : Nat → Fields_checker → (Sl TSel) → (List Bs) → (List Bs) → Option ((List Bs) × (List Bs))
 | 0, _, _, _, _ => none
 | n + 1, a0, a1, a2, a3 => Z8_l3 a0 a1 (Z8_n n) (a1.l.length + 1) 0 a2 a3
theorem Z8_step (n : Nat) (ih_25 : ∀ {a0 : Fields_checker} {a1 : (Sl TSel)} {a2 : (List Bs)} {a3 : (List Bs)} {w1 : Option Nat} {q0_2 : Option Nat} {c0 : Nat} {c2 : Nat} {c3 : Nat} {r : ((List Bs) × (List Bs))}, Z8_n n a0 a1 a2 a3 = some r → ∀ (H : Heap) (hc0 : H c0 = some (.cells (Fields_checker.cg q0_2 a0))) (hc2 : H c2 = some (.map (seenM a2))) (hc3 : H c3 = some (.map (seenM a3))) (ne_c3_c2 : c3 ≠ c2), ACalls Tryz.prog 25 [.d (.ptr c0 0), .d (Sl.d 7 TSel.c w1 a1), .d (.map c2), .d (.map c3)] H fun v h' => v = .tup [] ∧ h' = ((H.set c2 (some (.map (seenM r.1)))).set c3 (some (.map (seenM r.2))))) : ∀ {a0 : Fields_checker} {a1 : (Sl TSel)} {a2 : (List Bs)} {a3 : (List Bs)} {w1 : Option Nat} {q0_2 : Option Nat} {c0 : Nat} {c2 : Nat} {c3 : Nat} {r : ((List Bs) × (List Bs))}, Z8_n (n + 1) a0 a1 a2 a3 = some r → ∀ (H : Heap) (hc0 : H c0 = some (.cells (Fields_checker.cg q0_2 a0))) (hc2 : H c2 = some (.map (seenM a2))) (hc3 : H c3 = some (.map (seenM a3))) (ne_c3_c2 : c3 ≠ c2), ACalls Tryz.prog 25 [.d (.ptr c0 0), .d (Sl.d 7 TSel.c w1 a1), .d (.map c2), .d (.map c3)] H fun v h' => v = .tup [] ∧ h' = ((H.set c2 (some (.map (seenM r.1)))).set c3 (some (.map (seenM r.2)))) := by
 intro a0 a1 a2 a3 w1 q0_2 c0 c2 c3 r hE H hc0 hc2 hc3 ne_c3_c2
 rw [Z8_n] at hE
 refine ACalls.of_wp (fn := Tryz.f25) (c := _) Tryz.tab_ok (fun _ _ => Tryz.call25 _ _) Tryz.func25 rfl (n := 72) rfl (rs := []) rfl rfl ?_
 have ne_c2_c0 : c2 ≠ c0 := fun e_ => by subst e_; simp_all
 have ne_c3_c0 : c3 ≠ c0 := fun e_ => by subst e_; simp_all
 refine AWp.heqA (h' := ((H.set c2 (some (.map (seenM a2)))).set c3 (some (.map (seenM a3))))) (by funext n_; simp only [Heap.set]; (repeat' split) <;> simp_all) ?_
 refine seqK fun K1 hK1 => ?_
 refine region ?_
 refine s0 moveA rfl ?_
 refine sLen (f := TSel.c) (s := a1) (TK rfl) rfl rfl rfl rfl fun hL2 => ?_
 refine s0 moveA rfl ?_
 refine nil ?_
 refine hK1 _ ?_
 clear hK1 K1
 refine block ?_
 refine loopH (KeepsT.A (k := 0) (KeepsT.A (k := 2) (KeepsT.A (k := 3) (KeepsT.A (k := 12) (KeepsT.A (k := 13) KeepsT.nil))))) (fun (z : Nat × Nat × (List Bs) × (List Bs)) => [(14, .a (.d (.int .i64 ((z.2.1 : Nat) : Int))))]) (fun z => ((H.set c2 (some (.map (seenM z.2.2.1)))).set c3 (some (.map (seenM z.2.2.2))))) (fun z => z.1) (fun z => Z8_l3 a0 a1 (Z8_n n) z.1 z.2.1 z.2.2.1 z.2.2.2 = some r) ((a1.l.length + 1), 0, a2, a3) hE Weak.toA ?_
 rintro ⟨n3, s14_4, y5_c2, y6_c3⟩ hE K3 hK3
 try dsimp only at hE
 cases n3 with
 | zero => cases hE
 | succ n3 =>
   rw [Z8_l3] at hE
   refine seqK fun K7 hK7 => ?_
   refine region ?_
   refine s0 (binI rfl rfl rfl) rfl ?_
   refine nil ?_
   refine hK7 _ ?_
   clear hK7 K7
   refine seqK fun K8 hK8 => ?_
   refine condE hE rfl (fun hc9 hE => ?_) (fun hc9 hE => ?_)
   ·try dsimp only at hc9
    have hf9 := of_decide_eq_true hc9
    refine AWp.skip ?_
    refine hK8 _ ?_
    clear hK8 K8
    refine seqJH (KeepsT.A (k := 0) (KeepsT.A (k := 2) (KeepsT.A (k := 3) (KeepsT.A (k := 12) (KeepsT.A (k := 13) (KeepsT.A (k := 14) KeepsT.nil)))))) (fun (z : (List Bs) × (List Bs)) => []) (fun z => ((H.set c2 (some (.map (seenM z.1)))).set c3 (some (.map (seenM z.2))))) (fun z => Z8_j10 s14_4 ((Z8_l3 a0 a1 (Z8_n n) n3)) z.1 z.2 = some r) ?_ ?_
    ·intro K10 hK10
     refine block ?_
     refine seqK fun K13 hK13 => ?_
     refine region ?_
     obtain ⟨x14, gx14, hE⟩ := bindO_some hE
     refine s0 (idxMn (f := TSel.c) (n := s14_4) (TK rfl) rfl (TK rfl) rfl rfl rfl gx14) rfl ?_
     refine s0 (loadV (TK rfl) rfl rfl rfl) rfl ?_
     refine sL (allocLA (TK rfl) rfl) rfl ?_
     refine sLn (storeLFA (TK rfl) rfl rfl rfl rfl rfl) ?_
     refine nil ?_
     refine hK13 _ ?_
     clear hK13 K13
     refine freezeA 9 _ rfl (Keeps.c (k := 0) (by conv => lhs; whnf) (by rfl) (Keeps.c (k := 2) (by conv => lhs; whnf) (by rfl) (Keeps.c (k := 3) (by conv => lhs; whnf) (by rfl) (Keeps.c (k := 12) (by conv => lhs; whnf) (by rfl) (Keeps.c (k := 13) (by conv => lhs; whnf) (by rfl) (Keeps.c (k := 14) (by conv => lhs; whnf) (by rfl) Keeps.nil)))))) ?_
     refine seqK fun K15 hK15 => ?_
     refine region ?_
     refine s0 (fieldVA (TK rfl) rfl rfl (TK rfl) rfl rfl) rfl ?_
     refine s0 (loadV (TK rfl) rfl rfl rfl) rfl ?_
     refine nil ?_
     refine hK15 _ ?_
     clear hK15 K15
     refine block ?_
     refine seqK fun K16 hK16 => ?_
     refine region ?_
     refine s0 (binI rfl rfl rfl) rfl ?_
     refine s0 assignA rfl ?_
     refine nil ?_
     refine hK16 _ ?_
     clear hK16 K16
     refine condE hE rfl (fun hc17 hE => ?_) (fun hc17 hE => ?_)
     ·refine region ?_
      refine s0 moveA rfl ?_
      refine s0 (fieldVA (TK rfl) rfl rfl (TK rfl) rfl rfl) rfl ?_
      refine s0 (loadV (TK rfl) rfl rfl (congrArg (fun x => some (A.d x)) (TSel.FSelsD_eq _))) rfl ?_
      refine s0 moveA rfl ?_
      refine s0 moveA rfl ?_
      obtain ⟨x18, gx18, hE⟩ := bindO_some hE
      refine sH (callH rfl rfl (ih_25 gx18 _ hpG hpG hpG (by assumption))) rfl ?_
      refine AOps.heq (h' := ((H.set c2 (some (.map (seenM x18.1)))).set c3 (some (.map (seenM x18.2))))) (by first | rfl | (rw [Heap.set_set]; rfl) | (funext n_; simp only [Heap.set]; (repeat' split) <;> first | rfl | (exfalso; simp_all; done) | (simp_all; done))) ?_
      refine nil ?_
      exact hK10 _ (x18.1, x18.2) Weak.toA hE
     refine seqK fun K19 hK19 => ?_
     refine region ?_
     refine s0 (binI rfl rfl rfl) rfl ?_
     refine s0 assignA rfl ?_
     refine nil ?_
     refine hK19 _ ?_
     clear hK19 K19
     refine condE hE rfl (fun hc20 hE => ?_) (fun hc20 hE => ?_)
     ·refine seqK fun K21 hK21 => ?_
      refine region ?_
      refine s0 moveA rfl ?_
      refine s0 (nilP rfl) rfl ?_
      refine s0 (fieldP (TK rfl) rfl rfl (TK rfl) rfl rfl) rfl ?_
      refine s0 (fieldP (TK rfl) rfl rfl (TK rfl) rfl rfl) rfl ?_
      refine s0 (loadP (TK rfl) rfl rfl hpG rfl) rfl ?_
      refine sLen (f := TFrag.c) (s := a0.Fq.FFrags) (TK rfl) rfl rfl rfl rfl fun hL22 => ?_
      refine s0 moveA rfl ?_
      refine nil ?_
      refine hK21 _ ?_
      clear hK21 K21
      refine block ?_
      refine loopH (KeepsT.A (k := 0) (KeepsT.A (k := 2) (KeepsT.A (k := 3) (KeepsT.A (k := 9) (KeepsT.A (k := 12) (KeepsT.A (k := 13) (KeepsT.A (k := 14) (KeepsT.A (k := 43) (KeepsT.A (k := 44) KeepsT.nil))))))))) (fun (z : Nat × Nat × (List Bs) × (List Bs)) => [(45, .a (.d (.int .i64 ((z.2.1 : Nat) : Int))))]) (fun z => ((H.set c2 (some (.map (seenM z.2.2.1)))).set c3 (some (.map (seenM z.2.2.2))))) (fun z => z.1) (fun z => Z8_l23 a0 s14_4 x14 ((Z8_l3 a0 a1 (Z8_n n) n3)) (Z8_n n) z.1 z.2.1 z.2.2.1 z.2.2.2 = some r) ((a0.Fq.FFrags.l.length + 1), 0, y5_c2, y6_c3) hE Weak.toA ?_
      rintro ⟨n23, s45_24, y25_c2, y26_c3⟩ hE K23 hK23
      try dsimp only at hE
      cases n23 with
      | zero => cases hE
      | succ n23 =>
        rw [Z8_l23] at hE
        refine seqK fun K27 hK27 => ?_
        refine region ?_
        refine s0 (binI rfl rfl rfl) rfl ?_
        refine nil ?_
        refine hK27 _ ?_
        clear hK27 K27
        refine seqK fun K28 hK28 => ?_
        refine condE hE rfl (fun hc29 hE => ?_) (fun hc29 hE => ?_)
        ·try dsimp only at hc29
         have hf29 := of_decide_eq_true hc29
         refine AWp.skip ?_
         refine hK28 _ ?_
         clear hK28 K28
         refine seqJH (KeepsT.A (k := 0) (KeepsT.A (k := 2) (KeepsT.A (k := 3) (KeepsT.A (k := 9) (KeepsT.A (k := 12) (KeepsT.A (k := 13) (KeepsT.A (k := 14) (KeepsT.A (k := 43) (KeepsT.A (k := 44) (KeepsT.A (k := 45) KeepsT.nil)))))))))) (fun (z : (List Bs) × (List Bs)) => []) (fun z => ((H.set c2 (some (.map (seenM z.1)))).set c3 (some (.map (seenM z.2))))) (fun z => Z8_j30 s45_24 ((Z8_l23 a0 s14_4 x14 ((Z8_l3 a0 a1 (Z8_n n) n3)) (Z8_n n) n23)) z.1 z.2 = some r) ?_ ?_
         ·intro K30 hK30
          refine block ?_
          refine seqK fun K33 hK33 => ?_
          refine region ?_
          obtain ⟨x34, gx34, hE⟩ := bindO_some hE
          refine s0 (idxMn (f := TFrag.c) (n := s45_24) (TK rfl) rfl (TK rfl) rfl rfl rfl gx34) rfl ?_
          refine s0 (loadV (TK rfl) rfl rfl rfl) rfl ?_
          refine sL (allocLA (TK rfl) rfl) rfl ?_
          refine sLn (storeLFA (TK rfl) rfl rfl rfl rfl rfl) ?_
          refine nil ?_
          refine hK33 _ ?_
          clear hK33 K33
          refine freezeA 11 _ rfl (Keeps.c (k := 0) (by conv => lhs; whnf) (by rfl) (Keeps.c (k := 2) (by conv => lhs; whnf) (by rfl) (Keeps.c (k := 3) (by conv => lhs; whnf) (by rfl) (Keeps.c (k := 9) (by conv => lhs; whnf) (by rfl) (Keeps.c (k := 12) (by conv => lhs; whnf) (by rfl) (Keeps.c (k := 13) (by conv => lhs; whnf) (by rfl) (Keeps.c (k := 14) (by conv => lhs; whnf) (by rfl) (Keeps.c (k := 43) (by conv => lhs; whnf) (by rfl) (Keeps.c (k := 44) (by conv => lhs; whnf) (by rfl) (Keeps.c (k := 45) (by conv => lhs; whnf) (by rfl) Keeps.nil)))))))))) ?_
          refine seqK fun K35 hK35 => ?_
          refine region ?_
          refine s0 (fieldVA (TK rfl) rfl rfl (TK rfl) rfl rfl) rfl ?_
          refine s0 (loadV (TK rfl) rfl rfl rfl) rfl ?_
          refine s0 (fieldVA (TK rfl) rfl rfl (TK rfl) rfl rfl) rfl ?_
          refine s0 (loadV (TK rfl) rfl rfl rfl) rfl ?_
          refine s0 (binS rfl rfl rfl) rfl ?_
          refine s0 moveA rfl ?_
          refine gC rfl rfl (fun hC => moveA) rfl ?_
          refine gC rfl rfl (fun hC => fieldVA (TK rfl) rfl rfl (TK rfl) rfl rfl) rfl ?_
          refine gC rfl rfl (fun hC => ungdA (k := 56) rfl (loadV (TK rfl) rfl rfl rfl)) rfl ?_
          refine gC rfl rfl (fun hC => ungdA (k := 55) rfl (ungdA (k := 57) rfl (lookupSeen (TK rfl) rfl (TK rfl) (TK rfl) rfl rfl rfl rfl hpG))) rfl ?_
          refine gC rfl rfl (fun hC => ungdA (k := 58) rfl (notB rfl)) rfl ?_
          refine s0 (pickAndA rfl rfl rfl) rfl ?_
          refine nil ?_
          refine hK35 _ ?_
          clear hK35 K35
          refine condE hE rfl (fun hc36 hE => ?_) (fun hc36 hE => ?_)
          ·refine seqK fun K37 hK37 => ?_
           refine region ?_
           refine s0 moveA rfl ?_
           refine s0 (fieldVA (TK rfl) rfl rfl (TK rfl) rfl rfl) rfl ?_
           refine s0 (loadV (TK rfl) rfl rfl rfl) rfl ?_
           refine sHn (mapUpdate (TK rfl) rfl (TK rfl) rfl rfl rfl rfl hpG (seen_upd _ _) rfl) rfl rfl ?_
           refine AOps.heq (h' := ((H.set c2 (some (.map (seenM y25_c2)))).set c3 (some (.map (seenM (insS y26_c3 x14.FName)))))) (by first | rfl | (rw [Heap.set_set]; rfl) | (funext n_; simp only [Heap.set]; (repeat' split) <;> first | rfl | (exfalso; simp_all; done) | (simp_all; done))) ?_
           refine nil ?_
           refine hK37 _ ?_
           clear hK37 K37
           refine region ?_
           refine s0 moveA rfl ?_
           refine s0 (fieldVA (TK rfl) rfl rfl (TK rfl) rfl rfl) rfl ?_
           refine s0 (loadV (TK rfl) rfl rfl rfl) rfl ?_
           refine s0 moveA rfl ?_
           refine s0 moveA rfl ?_
           obtain ⟨x38, gx38, hE⟩ := bindO_some hE
           refine sH (callH rfl rfl (ih_25 gx38 _ hpG hpG hpG (by assumption))) rfl ?_
           refine AOps.heq (h' := ((H.set c2 (some (.map (seenM x38.1)))).set c3 (some (.map (seenM x38.2))))) (by first | rfl | (rw [Heap.set_set]; rfl) | (funext n_; simp only [Heap.set]; (repeat' split) <;> first | rfl | (exfalso; simp_all; done) | (simp_all; done))) ?_
           refine nil ?_
           exact hK30 _ (x38.1, x38.2) Weak.toA hE
          refine AWp.skip ?_
          exact hK30 _ (y25_c2, y26_c3) Weak.toA hE
         rintro ⟨y31_c2, y32_c3⟩ hE
         try dsimp only at hE
         unfold Z8_j30 at hE
         refine region ?_
         refine s0 (addIA rfl rfl) rfl ?_
         refine s0 moveA rfl ?_
         refine nil ?_
         exact hK23 _ (n23, (s45_24 + 1), y31_c2, y32_c3) Weak.toA hE (Nat.lt_succ_self _)
        refine AWp.exit ?_
        exact hK10 _ (y25_c2, y26_c3) Weak.toA hE
     refine seqK fun K39 hK39 => ?_
     refine region ?_
     refine s0 (fieldVA (TK rfl) rfl rfl (TK rfl) rfl rfl) rfl ?_
     refine s0 (loadV (TK rfl) rfl rfl rfl) rfl ?_
     refine s0 (binS rfl rfl rfl) rfl ?_
     refine nil ?_
     refine hK39 _ ?_
     clear hK39 K39
     refine condE hE rfl (fun hc40 hE => ?_) (fun hc40 hE => ?_)
     ·refine region ?_
      refine s0 moveA rfl ?_
      refine s0 (fieldVA (TK rfl) rfl rfl (TK rfl) rfl rfl) rfl ?_
      refine s0 (loadV (TK rfl) rfl rfl rfl) rfl ?_
      refine sHn (mapUpdate (TK rfl) rfl (TK rfl) rfl rfl rfl rfl hpG (seen_upd _ _) rfl) rfl rfl ?_
      refine AOps.heq (h' := ((H.set c2 (some (.map (seenM (insS y5_c2 x14.FAlias))))).set c3 (some (.map (seenM y6_c3))))) (by first | rfl | (rw [Heap.set_set]; rfl) | (funext n_; simp only [Heap.set]; (repeat' split) <;> first | rfl | (exfalso; simp_all; done) | (simp_all; done))) ?_
      refine nil ?_
      exact hK10 _ ((insS y5_c2 x14.FAlias), y6_c3) Weak.toA hE
     refine region ?_
     refine s0 moveA rfl ?_
     refine s0 (fieldVA (TK rfl) rfl rfl (TK rfl) rfl rfl) rfl ?_
     refine s0 (loadV (TK rfl) rfl rfl rfl) rfl ?_
     refine sHn (mapUpdate (TK rfl) rfl (TK rfl) rfl rfl rfl rfl hpG (seen_upd _ _) rfl) rfl rfl ?_
     refine AOps.heq (h' := ((H.set c2 (some (.map (seenM (insS y5_c2 x14.FName))))).set c3 (some (.map (seenM y6_c3))))) (by first | rfl | (rw [Heap.set_set]; rfl) | (funext n_; simp only [Heap.set]; (repeat' split) <;> first | rfl | (exfalso; simp_all; done) | (simp_all; done))) ?_
     refine nil ?_
     exact hK10 _ ((insS y5_c2 x14.FName), y6_c3) Weak.toA hE
    rintro ⟨y11_c2, y12_c3⟩ hE
    try dsimp only at hE
    unfold Z8_j10 at hE
    refine region ?_
    refine s0 (addIA rfl rfl) rfl ?_
    refine s0 moveA rfl ?_
    refine nil ?_
    exact hK3 _ (n3, (s14_4 + 1), y11_c2, y12_c3) Weak.toA hE (Nat.lt_succ_self _)
   refine AWp.exit ?_
   repeat (first | refine xBlock_normal ?_ | refine xThen_exit ?_ | refine xBlock_exit ?_)
   obtain rfl := Option.some.inj hE
   refine retQ.normalF ((H.set c2 (some (.map (seenM y5_c2)))).set c3 (some (.map (seenM y6_c3)))) (xs := []) rfl ⟨rfl, rfl⟩ ?_
   exact (fun _ _ h => h)
theorem Z8_all : ∀ (n : Nat), (∀ {a0 : Fields_checker} {a1 : (Sl TSel)} {a2 : (List Bs)} {a3 : (List Bs)} {w1 : Option Nat} {q0_2 : Option Nat} {c0 : Nat} {c2 : Nat} {c3 : Nat} {r : ((List Bs) × (List Bs))}, Z8_n n a0 a1 a2 a3 = some r → ∀ (H : Heap) (hc0 : H c0 = some (.cells (Fields_checker.cg q0_2 a0))) (hc2 : H c2 = some (.map (seenM a2))) (hc3 : H c3 = some (.map (seenM a3))) (ne_c3_c2 : c3 ≠ c2), ACalls Tryz.prog 25 [.d (.ptr c0 0), .d (Sl.d 7 TSel.c w1 a1), .d (.map c2), .d (.map c3)] H fun v h' => v = .tup [] ∧ h' = ((H.set c2 (some (.map (seenM r.1)))).set c3 (some (.map (seenM r.2)))))
 | 0 => fun hE => by first | cases hE | (rw [Z8_n] at hE; cases hE)
 | n + 1 => Z8_step n (Z8_all n)
def Z8 (a0 : Fields_checker) (a1 : (Sl TSel)) (a2 : (List Bs)) (a3 : (List Bs)) : Option ((List Bs) × (List Bs)) := Z8_n F0 a0 a1 a2 a3
theorem Z8_walk {a0 : Fields_checker} {a1 : (Sl TSel)} {a2 : (List Bs)} {a3 : (List Bs)} {w1 : Option Nat} {q0_2 : Option Nat} {c0 : Nat} {c2 : Nat} {c3 : Nat} {r : ((List Bs) × (List Bs))} (hE : Z8 a0 a1 a2 a3 = some r) (H : Heap) (hc0 : H c0 = some (.cells (Fields_checker.cg q0_2 a0))) (hc2 : H c2 = some (.map (seenM a2))) (hc3 : H c3 = some (.map (seenM a3))) (ne_c3_c2 : c3 ≠ c2) : ACalls Tryz.prog 25 [.d (.ptr c0 0), .d (Sl.d 7 TSel.c w1 a1), .d (.map c2), .d (.map c3)] H fun v h' => v = .tup [] ∧ h' = ((H.set c2 (some (.map (seenM r.1)))).set c3 (some (.map (seenM r.2)))) := (Z8_all F0) hE H hc0 hc2 hc3 ne_c3_c2
def Z3 (a0 : Fields_checker) (a1 : Bool) (a2 : Int) (a3 : Bs) : Option Fields_checker := bif a1 then ((appC 24 a0.Fout (⟨false, [(TFault.mk a2 a3)]⟩ : Sl TFault)).bind fun x3 => some (Fields_checker.mk a0.Fd a0.Fq x3)) else (some a0)
theorem Z3_walk {a0 : Fields_checker} {a1 : Bool} {a2 : Int} {a3 : Bs}  {c0 : Nat} {c0_2 : Nat} {r : Fields_checker} (hE : Z3 a0 a1 a2 a3 = some r) (H : Heap) (hc0 : H c0 = some (.cells (Fields_checker.cg (some c0_2) a0))) (ht0_2 : H c0_2 = some (.tok 2 a0.Fout.l.length)) : ACalls Tryz.prog 26 [.d (.ptr c0 0), .d (.bool a1), .d (.int .i64 a2), .d (.str a3)] H fun v h' => v = .tup [] ∧ h' = ((H.set c0_2 (some (.tok 2 r.Fout.l.length))).set c0 (some (.cells (Fields_checker.cg (some c0_2) r)))) := by
 unfold Z3 at hE
 refine ACalls.of_wp (fn := Tryz.f26) (c := _) Tryz.tab_ok (fun _ _ => Tryz.call26 _ _) Tryz.func26 rfl (n := 21) rfl (rs := []) rfl rfl ?_
 have ne_c0_c0_2 : c0 ≠ c0_2 := fun e_ => by subst e_; simp_all
 refine AWp.heqA (h' := ((H.set c0_2 (some (.tok 2 a0.Fout.l.length))).set c0 (some (.cells (Fields_checker.cg (some c0_2) a0))))) (by funext n_; simp only [Heap.set]; (repeat' split) <;> simp_all) ?_
 refine seqK fun K1 hK1 => ?_
 refine region ?_
 refine s0 moveA rfl ?_
 refine nil ?_
 refine hK1 _ ?_
 clear hK1 K1
 refine condE hE rfl (fun hc2 hE => ?_) (fun hc2 hE => ?_)
 ·refine region ?_
  refine s0 moveA rfl ?_
  refine s0 moveA rfl ?_
  refine s0 (nilP rfl) rfl ?_
  refine s0 (fieldP (TK rfl) rfl rfl (TK rfl) rfl rfl) rfl ?_
  refine s0 (loadP (TK rfl) rfl rfl hpG rfl) rfl ?_
  refine s0 moveA rfl ?_
  refine s0 moveA rfl ?_
  refine s0 (build Tryz.tab_ok rfl rfl rfl rfl rfl rfl) rfl ?_
  refine s0 (buildSlice (TK rfl) rfl (TK rfl) rfl rfl rfl rfl rfl rfl) rfl ?_
  obtain ⟨x3, gx3, hE⟩ := bindO_some hE
  refine sH (appM (f := TFault.c) (TK rfl) rfl (TK rfl) (TK rfl) ⟨_, rfl⟩ rfl rfl (by decide) rfl rfl rfl rfl hpG rfl gx3) rfl ?_
  refine AOps.heq (h' := ((H.set c0_2 (some (.tok 2 x3.l.length))).set c0 (some (.cells (Fields_checker.cg (some c0_2) a0))))) (by first | rfl | (rw [Heap.set_set]; rfl) | (funext n_; simp only [Heap.set]; (repeat' split) <;> first | rfl | (exfalso; simp_all; done) | (simp_all; done))) ?_
  refine s0 (nilP rfl) rfl ?_
  refine s0 (fieldP (TK rfl) rfl rfl (TK rfl) rfl rfl) rfl ?_
  refine sHn (storeP1 (TK rfl) rfl rfl hpG rfl (by repeat (first | exact SetAt.zero | apply SetAt.succ))) rfl rfl ?_
  refine AOps.heq (h' := ((H.set c0_2 (some (.tok 2 x3.l.length))).set c0 (some (.cells (Fields_checker.cg (some c0_2) (Fields_checker.mk a0.Fd a0.Fq x3)))))) (by first | rfl | (rw [Heap.set_set]; rfl) | (funext n_; simp only [Heap.set]; (repeat' split) <;> first | rfl | (exfalso; simp_all; done) | (simp_all; done))) ?_
  refine nil ?_
  repeat (first | refine xBlock_normal ?_ | refine xThen_exit ?_ | refine xBlock_exit ?_)
  obtain rfl := Option.some.inj hE
  refine retQ.normalF ((H.set c0_2 (some (.tok 2 x3.l.length))).set c0 (some (.cells (Fields_checker.cg (some c0_2) (Fields_checker.mk a0.Fd a0.Fq x3))))) (xs := []) rfl ⟨rfl, rfl⟩ ?_
  exact (fun _ _ h => h)
 refine AWp.skip ?_
 repeat (first | refine xBlock_normal ?_ | refine xThen_exit ?_ | refine xBlock_exit ?_)
 obtain rfl := Option.some.inj hE
 refine retQ.normalF ((H.set c0_2 (some (.tok 2 a0.Fout.l.length))).set c0 (some (.cells (Fields_checker.cg (some c0_2) a0)))) (xs := []) rfl ⟨rfl, rfl⟩ ?_
 exact (fun _ _ h => h)
def Z91 (a0 : (Sl Int)) : Option (Sl Int) := bif a0.nl then (some (Sl.nil : Sl Int)) else ((appC 8 (⟨false, []⟩ : Sl Int) a0).bind fun x7 => some x7)
theorem Z91_walk {a0 : (Sl Int)} {w0 : Option Nat}  {r : (Sl Int)} (hE : Z91 a0 = some r) (H : Heap)  : ACalls Tryz.prog 54 [.d (Sl.d 1 (intE .i64) w0 a0)] H fun v h' => v = .a (.d (Sl.d 1 (intE .i64) none r)) ∧ h' = H := by
 unfold Z91 at hE
 refine ACalls.of_wp (fn := Tryz.f54) (c := _) Tryz.tab_ok (fun _ _ => Tryz.call54 _ _) Tryz.func54 rfl (n := 8) rfl (rs := [.tmp 2]) rfl rfl ?_
 refine seqK fun K1 hK1 => ?_
 refine region ?_
 refine s0 (assignNil (k' := 1) rfl) rfl ?_
 refine nil ?_
 refine hK1 _ ?_
 clear hK1 K1
 refine seqK fun K2 hK2 => ?_
 refine seqK fun K3 hK3 => ?_
 refine region ?_
 refine s0 moveA rfl ?_
 refine s0 (eqNil (TK rfl) rfl rfl) rfl ?_
 refine nil ?_
 refine hK3 _ ?_
 clear hK3 K3
 refine condE hE rfl (fun hc4 hE => ?_) (fun hc4 hE => ?_)
 ·refine seqK fun K5 hK5 => ?_
  refine region ?_
  refine s0 (assignNil (k' := 1) rfl) rfl ?_
  refine nil ?_
  refine hK5 _ ?_
  clear hK5 K5
  refine AWp.ret ?_
  repeat (first | refine xBlock_ret ?_ | refine xThen_ret ?_)
  obtain rfl := Option.some.inj hE
  refine retQ.retF H rfl ⟨rfl, rfl⟩ ?_
  exact (fun _ _ h => h)
 refine AWp.skip ?_
 refine hK2 _ ?_
 clear hK2 K2
 refine seqK fun K6 hK6 => ?_
 refine region ?_
 refine s0 (buildSliceF (TK rfl) rfl (TK rfl) rfl rfl rfl rfl rfl rfl) rfl ?_
 refine s0 moveA rfl ?_
 obtain ⟨x7, gx7, hE⟩ := bindO_some hE
 refine s0 (appFM (f := (intE .i64)) (TK rfl) rfl (TK rfl) (TK rfl) ⟨_, rfl⟩ rfl rfl (by decide) rfl rfl rfl (by intro q h; cases h <;> decide) rfl rfl gx7) rfl ?_
 refine s0 assignA rfl ?_
 refine nil ?_
 refine hK6 _ ?_
 clear hK6 K6
 refine AWp.ret ?_
 repeat (first | refine xBlock_ret ?_ | refine xThen_ret ?_)
 obtain rfl := Option.some.inj hE
 refine retQ.retF H rfl ⟨rfl, rfl⟩ ?_
 exact (fun _ _ h => h)
def Z106 (a0 : TRef) : Option Bool := guardO ((decide ((0 : Int) < ((a0.FWraps.l.length : Nat) : Int)))) (a0.FWraps.l[0]?) (0 : Int) fun x4 => some ((decide ((0 : Int) < ((a0.FWraps.l.length : Nat) : Int))) && (decide (x4 = (1 : Int))))
theorem Z106_walk {a0 : TRef}   {r : Bool} (hE : Z106 a0 = some r) (H : Heap)  : ACalls Tryz.prog 89 [.agg (TRef.c a0)] H fun v h' => v = .a (.d (.bool r)) ∧ h' = H := by
 unfold Z106 at hE
 refine ACalls.of_wp (fn := Tryz.f89) (c := _) Tryz.tab_ok (fun _ _ => Tryz.call89 _ _) Tryz.func89 rfl (n := 14) rfl (rs := [.tmp 2]) rfl rfl ?_
 refine seqK fun K1 hK1 => ?_
 refine region ?_
 refine s0 (boxV rfl) rfl ?_
 refine s0 assignA rfl ?_
 refine nil ?_
 refine hK1 _ ?_
 clear hK1 K1
 refine seqK fun K2 hK2 => ?_
 refine region ?_
 refine s0 (fieldVA (TK rfl) rfl rfl (TK rfl) rfl rfl) rfl ?_
 refine s0 (loadV (TK rfl) rfl rfl rfl) rfl ?_
 refine sLen (f := (intE .i64)) (s := a0.FWraps) (TK rfl) rfl rfl rfl rfl fun hL3 => ?_
 refine s0 (binI rfl rfl rfl) rfl ?_
 refine s0 moveA rfl ?_
 refine gC rfl rfl (fun hC => fieldVA (TK rfl) rfl rfl (TK rfl) rfl rfl) rfl ?_
 refine gC rfl rfl (fun hC => ungdA (k := 8) rfl (loadV (TK rfl) rfl rfl rfl)) rfl ?_
 obtain ⟨x4, gx4, hE⟩ := guardO_some hE
 refine gC rfl rfl (fun hC => ungdA (k := 9) rfl (idxMn (f := (intE .i64)) (n := 0) (TK rfl) rfl (TK rfl) rfl rfl rfl (gx4 hC))) rfl ?_
 refine gC rfl rfl (fun hC => ungdA (k := 10) rfl (loadV (TK rfl) rfl rfl rfl)) rfl ?_
 refine gC rfl rfl (fun hC => ungdA (k := 11) rfl (binI rfl rfl rfl)) rfl ?_
 refine s0 (pickAndA rfl rfl rfl) rfl ?_
 refine s0 assignA rfl ?_
 refine nil ?_
 refine hK2 _ ?_
 clear hK2 K2
 refine AWp.ret ?_
 repeat (first | refine xBlock_ret ?_ | refine xThen_ret ?_)
 obtain rfl := Option.some.inj hE
 refine retQ.retF H rfl ⟨rfl, rfl⟩ ?_
 exact (fun _ _ h => h)
def Z108 (a0 : TRef) : Option TRef := (Z106 a0).bind fun x4 => bif x4 then ((Z91 a0.FWraps).bind fun x7 => some (TRef.mk a0.FName x7)) else ((appC 8 (⟨false, [(1 : Int)]⟩ : Sl Int) a0.FWraps).bind fun x9 => some (TRef.mk a0.FName x9))
theorem Z108_walk {a0 : TRef}   {r : TRef} (hE : Z108 a0 = some r) (H : Heap)  : ACalls Tryz.prog 51 [.agg (TRef.c a0)] H fun v h' => v = .a (.agg (TRef.c r)) ∧ h' = H := by
 unfold Z108 at hE
 refine ACalls.of_wp (fn := Tryz.f51) (c := _) Tryz.tab_ok (fun _ _ => Tryz.call51 _ _) Tryz.func51 rfl (n := 18) rfl (rs := [.cell 2 55]) rfl rfl ?_
 refine seqK fun K1 hK1 => ?_
 refine region ?_
 refine s0 (boxV rfl) rfl ?_
 refine sL (allocLA (TK rfl) rfl) rfl ?_
 refine nil ?_
 refine hK1 _ ?_
 clear hK1 K1
 refine seqK fun K2 hK2 => ?_
 refine seqK fun K3 hK3 => ?_
 refine region ?_
 refine s0 (loadV (TK rfl) rfl rfl rfl) rfl ?_
 obtain ⟨x4, gx4, hE⟩ := bindO_some hE
 refine s0 (callP rfl rfl (fun H => Z106_walk gx4 H)) rfl ?_
 refine nil ?_
 refine hK3 _ ?_
 clear hK3 K3
 refine condE hE rfl (fun hc5 hE => ?_) (fun hc5 hE => ?_)
 ·refine seqK fun K6 hK6 => ?_
  refine AWp.draw rfl ?_
  refine DOps.s0 (fieldVA (TK rfl) rfl rfl (TK rfl) rfl rfl) rfl ?_
  refine DOps.s0 (loadV (TK rfl) rfl rfl rfl) rfl ?_
  refine DOps.s0 (fieldVA (TK rfl) rfl rfl (TK rfl) rfl rfl) rfl ?_
  refine DOps.s0 (loadV (TK rfl) rfl rfl rfl) rfl ?_
  obtain ⟨x7, gx7, hE⟩ := bindO_some hE
  refine DOps.s0 (callP rfl rfl (fun H => Z91_walk gx7 H)) rfl ?_
  refine DOps.s0 (build Tryz.tab_ok rfl rfl rfl rfl rfl rfl) rfl ?_
  refine DOps.sLn (storeLFA (TK rfl) rfl rfl rfl rfl rfl) ?_
  refine DOps.nil (by decide +kernel) ?_
  refine hK6 _ ?_
  clear hK6 K6
  refine AWp.ret ?_
  repeat (first | refine xBlock_ret ?_ | refine xThen_ret ?_)
  obtain rfl := Option.some.inj hE
  refine retQ.retF H rfl ⟨rfl, rfl⟩ ?_
  exact (fun _ _ h => h)
 refine AWp.skip ?_
 refine hK2 _ ?_
 clear hK2 K2
 refine seqK fun K8 hK8 => ?_
 refine AWp.draw rfl ?_
 refine DOps.s0 (fieldVA (TK rfl) rfl rfl (TK rfl) rfl rfl) rfl ?_
 refine DOps.s0 (loadV (TK rfl) rfl rfl rfl) rfl ?_
 refine DOps.s0 (buildSliceF (TK rfl) rfl (TK rfl) rfl rfl rfl rfl rfl rfl) rfl ?_
 refine DOps.s0 (fieldVA (TK rfl) rfl rfl (TK rfl) rfl rfl) rfl ?_
 refine DOps.s0 (loadV (TK rfl) rfl rfl rfl) rfl ?_
 obtain ⟨x9, gx9, hE⟩ := bindO_some hE
 refine DOps.s0 (appFM (f := (intE .i64)) (TK rfl) rfl (TK rfl) (TK rfl) ⟨_, rfl⟩ rfl rfl (by decide) rfl rfl rfl (by intro q h; cases h <;> decide) rfl rfl gx9) rfl ?_
 refine DOps.s0 (build Tryz.tab_ok rfl rfl rfl rfl rfl rfl) rfl ?_
 refine DOps.sLn (storeLFA (TK rfl) rfl rfl rfl rfl rfl) ?_
 refine DOps.nil (by decide +kernel) ?_
 refine hK8 _ ?_
 clear hK8 K8
 refine AWp.ret ?_
 repeat (first | refine xBlock_ret ?_ | refine xThen_ret ?_)
 obtain rfl := Option.some.inj hE
 refine retQ.retF H rfl ⟨rfl, rfl⟩ ?_
 exact (fun _ _ h => h)
def Z107 (a0 : Bs) : Option TRef := some (TRef.mk a0 (Sl.nil : Sl Int))
theorem Z107_walk {a0 : Bs}   {r : TRef} (hE : Z107 a0 = some r) (H : Heap)  : ACalls Tryz.prog 52 [.d (.str a0)] H fun v h' => v = .a (.agg (TRef.c r)) ∧ h' = H := by
 unfold Z107 at hE
 refine ACalls.of_wp (fn := Tryz.f52) (c := _) Tryz.tab_ok (fun _ _ => Tryz.call52 _ _) Tryz.func52 rfl (n := 5) rfl (rs := [.cell 2 55]) rfl rfl ?_
 refine seqK fun K1 hK1 => ?_
 refine region ?_
 refine sL (allocLA (TK rfl) rfl) rfl ?_
 refine nil ?_
 refine hK1 _ ?_
 clear hK1 K1
 refine seqK fun K2 hK2 => ?_
 refine region ?_
 refine s0 moveA rfl ?_
 refine s0 (build Tryz.tab_ok rfl rfl rfl rfl rfl rfl) rfl ?_
 refine sLn (storeLFA (TK rfl) rfl rfl rfl rfl rfl) ?_
 refine nil ?_
 refine hK2 _ ?_
 clear hK2 K2
 refine AWp.ret ?_
 repeat (first | refine xBlock_ret ?_ | refine xThen_ret ?_)
 obtain rfl := Option.some.inj hE
 refine retQ.retF H rfl ⟨rfl, rfl⟩ ?_
 exact (fun _ _ h => h)
def Z11 (a0 : Bs) (a1 : Bs) : Option TInput := (Z107 a1).bind fun x3 => (Z108 x3).bind fun x4 => some (TInput.mk a0 x4 false TValue.zero (Sl.nil : Sl TDir))
theorem Z11_walk {a0 : Bs} {a1 : Bs}   {r : TInput} (hE : Z11 a0 a1 = some r) (H : Heap)  : ACalls Tryz.prog 120 [.d (.str a0), .d (.str a1)] H fun v h' => v = .a (.agg (TInput.c r)) ∧ h' = H := by
 unfold Z11 at hE
 refine ACalls.of_wp (fn := Tryz.f120) (c := _) Tryz.tab_ok (fun _ _ => Tryz.call120 _ _) Tryz.func120 rfl (n := 10) rfl (rs := [.cell 4 116]) rfl rfl ?_
 refine seqK fun K1 hK1 => ?_
 refine region ?_
 refine sL (allocLA (TK rfl) rfl) rfl ?_
 refine nil ?_
 refine hK1 _ ?_
 clear hK1 K1
 refine seqK fun K2 hK2 => ?_
 refine region ?_
 refine s0 moveA rfl ?_
 refine s0 moveA rfl ?_
 obtain ⟨x3, gx3, hE⟩ := bindO_some hE
 refine s0 (callP rfl rfl (fun H => Z107_walk gx3 H)) rfl ?_
 obtain ⟨x4, gx4, hE⟩ := bindO_some hE
 refine s0 (callP rfl rfl (fun H => Z108_walk gx4 H)) rfl ?_
 refine s0 (build Tryz.tab_ok rfl rfl rfl rfl rfl rfl) rfl ?_
 refine sLn (storeLFA (TK rfl) rfl rfl rfl rfl rfl) ?_
 refine nil ?_
 refine hK2 _ ?_
 clear hK2 K2
 refine AWp.ret ?_
 repeat (first | refine xBlock_ret ?_ | refine xThen_ret ?_)
 obtain rfl := Option.some.inj hE
 refine retQ.retF H rfl ⟨rfl, rfl⟩ ?_
 exact (fun _ _ h => h)
def Z2 (a0 : Bs) (a1 : Bool) : Option (Sl TInput) := bif (((a0 == ([115, 107, 105, 112] : Bs))) || ((a0 == ([105, 110, 99, 108, 117, 100, 101] : Bs)))) then ((Z11 ([105, 102] : Bs) ([66, 111, 111, 108, 101, 97, 110] : Bs)).bind fun x6 => some (⟨false, [x6]⟩ : Sl TInput)) else (bif (((a0 == ([100, 101, 102, 101, 114] : Bs))) && (!a1)) then ((Z11 ([108, 97, 98, 101, 108] : Bs) ([83, 116, 114, 105, 110, 103] : Bs)).bind fun x10 => some (⟨false, [x10]⟩ : Sl TInput)) else (bif (((a0 == ([115, 116, 114, 101, 97, 109] : Bs))) && a1) then ((Z11 ([108, 97, 98, 101, 108] : Bs) ([83, 116, 114, 105, 110, 103] : Bs)).bind fun x14 => (Z11 ([105, 110, 105, 116, 105, 97, 108, 67, 111, 117, 110, 116] : Bs) ([73, 110, 116] : Bs)).bind fun x15 => some (⟨false, [x14, x15]⟩ : Sl TInput)) else (some (Sl.nil : Sl TInput))))
theorem Z2_walk {a0 : Bs} {a1 : Bool}   {r : (Sl TInput)} (hE : Z2 a0 a1 = some r) (H : Heap)  : ACalls Tryz.prog 90 [.d (.str a0), .d (.bool a1)] H fun v h' => v = .a (.d (Sl.d 10 TInput.c none r)) ∧ h' = H := by
 unfold Z2 at hE
 refine ACalls.of_wp (fn := Tryz.f90) (c := _) Tryz.tab_ok (fun _ _ => Tryz.call90 _ _) Tryz.func90 rfl (n := 32) rfl (rs := [.tmp 4]) rfl rfl ?_
 refine seqK fun K1 hK1 => ?_
 refine region ?_
 refine s0 (assignNil (k' := 10) rfl) rfl ?_
 refine nil ?_
 refine hK1 _ ?_
 clear hK1 K1
 refine seqK fun K2 hK2 => ?_
 refine block ?_
 refine seqK fun K3 hK3 => ?_
 refine region ?_
 refine s0 moveA rfl ?_
 refine s0 (binS rfl rfl rfl) rfl ?_
 refine s0 moveA rfl ?_
 refine gC rfl rfl (fun hC => moveA) rfl ?_
 refine gC rfl rfl (fun hC => ungdA (k := 9) rfl (binS rfl rfl rfl)) rfl ?_
 refine s0 (pickOrA rfl rfl rfl) rfl ?_
 refine s0 assignA rfl ?_
 refine nil ?_
 refine hK3 _ ?_
 clear hK3 K3
 refine condE hE rfl (fun hc4 hE => ?_) (fun hc4 hE => ?_)
 ·refine seqK fun K5 hK5 => ?_
  refine region ?_
  obtain ⟨x6, gx6, hE⟩ := bindO_some hE
  refine s0 (callP rfl rfl (fun H => Z11_walk gx6 H)) rfl ?_
  refine s0 (buildSlice (TK rfl) rfl (TK rfl) rfl rfl rfl rfl rfl rfl) rfl ?_
  refine s0 assignA rfl ?_
  refine nil ?_
  refine hK5 _ ?_
  clear hK5 K5
  refine AWp.ret ?_
  repeat (first | refine xBlock_ret ?_ | refine xThen_ret ?_)
  obtain rfl := Option.some.inj hE
  refine retQ.retF H rfl ⟨rfl, rfl⟩ ?_
  exact (fun _ _ h => h)
 refine seqK fun K7 hK7 => ?_
 refine region ?_
 refine s0 moveA rfl ?_
 refine s0 (binS rfl rfl rfl) rfl ?_
 refine s0 moveA rfl ?_
 refine gC rfl rfl (fun hC => moveA) rfl ?_
 refine gC rfl rfl (fun hC => ungdA (k := 18) rfl (notB rfl)) rfl ?_
 refine s0 (pickAndA rfl rfl rfl) rfl ?_
 refine s0 assignA rfl ?_
 refine nil ?_
 refine hK7 _ ?_
 clear hK7 K7
 refine condE hE rfl (fun hc8 hE => ?_) (fun hc8 hE => ?_)
 ·refine seqK fun K9 hK9 => ?_
  refine region ?_
  obtain ⟨x10, gx10, hE⟩ := bindO_some hE
  refine s0 (callP rfl rfl (fun H => Z11_walk gx10 H)) rfl ?_
  refine s0 (buildSlice (TK rfl) rfl (TK rfl) rfl rfl rfl rfl rfl rfl) rfl ?_
  refine s0 assignA rfl ?_
  refine nil ?_
  refine hK9 _ ?_
  clear hK9 K9
  refine AWp.ret ?_
  repeat (first | refine xBlock_ret ?_ | refine xThen_ret ?_)
  obtain rfl := Option.some.inj hE
  refine retQ.retF H rfl ⟨rfl, rfl⟩ ?_
  exact (fun _ _ h => h)
 refine seqK fun K11 hK11 => ?_
 refine region ?_
 refine s0 moveA rfl ?_
 refine s0 (binS rfl rfl rfl) rfl ?_
 refine s0 moveA rfl ?_
 refine gC rfl rfl (fun hC => moveA) rfl ?_
 refine s0 (pickAndA rfl rfl rfl) rfl ?_
 refine s0 assignA rfl ?_
 refine nil ?_
 refine hK11 _ ?_
 clear hK11 K11
 refine condE hE rfl (fun hc12 hE => ?_) (fun hc12 hE => ?_)
 ·refine seqK fun K13 hK13 => ?_
  refine region ?_
  obtain ⟨x14, gx14, hE⟩ := bindO_some hE
  refine s0 (callP rfl rfl (fun H => Z11_walk gx14 H)) rfl ?_
  obtain ⟨x15, gx15, hE⟩ := bindO_some hE
  refine s0 (callP rfl rfl (fun H => Z11_walk gx15 H)) rfl ?_
  refine s0 (buildSlice (TK rfl) rfl (TK rfl) rfl rfl rfl rfl rfl rfl) rfl ?_
  refine s0 assignA rfl ?_
  refine nil ?_
  refine hK13 _ ?_
  clear hK13 K13
  refine AWp.ret ?_
  repeat (first | refine xBlock_ret ?_ | refine xThen_ret ?_)
  obtain rfl := Option.some.inj hE
  refine retQ.retF H rfl ⟨rfl, rfl⟩ ?_
  exact (fun _ _ h => h)
 refine AWp.skip ?_
 refine hK2 _ ?_
 clear hK2 K2
 refine seqK fun K16 hK16 => ?_
 refine region ?_
 refine s0 (assignNil (k' := 10) rfl) rfl ?_
 refine nil ?_
 refine hK16 _ ?_
 clear hK16 K16
 refine AWp.ret ?_
 repeat (first | refine xBlock_ret ?_ | refine xThen_ret ?_)
 obtain rfl := Option.some.inj hE
 refine retQ.retF H rfl ⟨rfl, rfl⟩ ?_
 exact (fun _ _ h => h)
def Z109_j3 (a0 : TRef)  (s3_4 : (Sl Int)) : Option TRef := (Z91 s3_4).bind fun x6 => some (TRef.mk a0.FName x6)
def Z109 (a0 : TRef) : Option TRef := (Z106 a0).bind fun x8 => bif x8 then ((partC a0.FWraps (some (1 : Int)) none).bind fun x10 => Z109_j3 a0  x10) else (Z109_j3 a0  a0.FWraps)
theorem Z109_walk {a0 : TRef}   {r : TRef} (hE : Z109 a0 = some r) (H : Heap)  : ACalls Tryz.prog 121 [.agg (TRef.c a0)] H fun v h' => v = .a (.agg (TRef.c r)) ∧ h' = H := by
 unfold Z109 at hE
 refine ACalls.of_wp (fn := Tryz.f121) (c := _) Tryz.tab_ok (fun _ _ => Tryz.call121 _ _) Tryz.func121 rfl (n := 15) rfl (rs := [.cell 2 55]) rfl rfl ?_
 refine seqK fun K1 hK1 => ?_
 refine region ?_
 refine s0 (boxV rfl) rfl ?_
 refine sL (allocLA (TK rfl) rfl) rfl ?_
 refine nil ?_
 refine hK1 _ ?_
 clear hK1 K1
 refine seqK fun K2 hK2 => ?_
 refine region ?_
 refine s0 (fieldVA (TK rfl) rfl rfl (TK rfl) rfl rfl) rfl ?_
 refine s0 (loadV (TK rfl) rfl rfl rfl) rfl ?_
 refine s0 assignA rfl ?_
 refine nil ?_
 refine hK2 _ ?_
 clear hK2 K2
 refine seqJH (KeepsT.A (k := 1) (KeepsT.A (k := 2) KeepsT.nil)) (fun (z : (Sl Int)) => [(3, .a (.d (Sl.d 1 (intE .i64) none z)))]) (fun z => H) (fun z => Z109_j3 a0 z = some r) ?_ ?_
 ·intro K3 hK3
  refine seqK fun K7 hK7 => ?_
  refine region ?_
  refine s0 (loadV (TK rfl) rfl rfl rfl) rfl ?_
  obtain ⟨x8, gx8, hE⟩ := bindO_some hE
  refine s0 (callP rfl rfl (fun H => Z106_walk gx8 H)) rfl ?_
  refine nil ?_
  refine hK7 _ ?_
  clear hK7 K7
  refine condE hE rfl (fun hc9 hE => ?_) (fun hc9 hE => ?_)
  ·refine region ?_
   refine s0 moveA rfl ?_
   obtain ⟨x10, gx10, hE⟩ := bindO_some hE
   refine s0 (partM (f := (intE .i64)) (l := (some (1 : Int))) (r := none) (TK rfl) rfl (TK rfl) rfl rfl rfl trivial gx10) rfl ?_
   refine s0 assignA rfl ?_
   refine nil ?_
   exact hK3 _ x10 Weak.toA hE
  refine AWp.skip ?_
  exact hK3 _ a0.FWraps Weak.toA hE
 rintro s3_4 hE
 try dsimp only at hE
 unfold Z109_j3 at hE
 refine seqK fun K5 hK5 => ?_
 refine AWp.draw rfl ?_
 refine DOps.s0 (fieldVA (TK rfl) rfl rfl (TK rfl) rfl rfl) rfl ?_
 refine DOps.s0 (loadV (TK rfl) rfl rfl rfl) rfl ?_
 refine DOps.s0 moveA rfl ?_
 obtain ⟨x6, gx6, hE⟩ := bindO_some hE
 refine DOps.s0 (callP rfl rfl (fun H => Z91_walk gx6 H)) rfl ?_
 refine DOps.s0 (build Tryz.tab_ok rfl rfl rfl rfl rfl rfl) rfl ?_
 refine DOps.sLn (storeLFA (TK rfl) rfl rfl rfl rfl rfl) ?_
 refine DOps.nil (by decide +kernel) ?_
 refine hK5 _ ?_
 clear hK5 K5
 refine AWp.ret ?_
 repeat (first | refine xBlock_ret ?_ | refine xThen_ret ?_)
 obtain rfl := Option.some.inj hE
 refine retQ.retF H rfl ⟨rfl, rfl⟩ ?_
 exact (fun _ _ h => h)
def Z105 (a0 : TRef) : Option Bool := (Z109 a0).bind fun x3 => guardO ((decide ((0 : Int) < ((x3.FWraps.l.length : Nat) : Int)))) (x3.FWraps.l[0]?) (0 : Int) fun x6 => some ((decide ((0 : Int) < ((x3.FWraps.l.length : Nat) : Int))) && (decide (x6 = (2 : Int))))
theorem Z105_walk {a0 : TRef}   {r : Bool} (hE : Z105 a0 = some r) (H : Heap)  : ACalls Tryz.prog 91 [.agg (TRef.c a0)] H fun v h' => v = .a (.d (.bool r)) ∧ h' = H := by
 unfold Z105 at hE
 refine ACalls.of_wp (fn := Tryz.f91) (c := _) Tryz.tab_ok (fun _ _ => Tryz.call91 _ _) Tryz.func91 rfl (n := 16) rfl (rs := [.tmp 2]) rfl rfl ?_
 refine seqK fun K1 hK1 => ?_
 refine region ?_
 refine sL (boxL rfl (by repeat (first | exact Snoc.nil | apply Snoc.cons))) rfl ?_
 refine s0 assignA rfl ?_
 refine nil ?_
 refine hK1 _ ?_
 clear hK1 K1
 refine seqK fun K2 hK2 => ?_
 refine region ?_
 refine s0 (loadL (TK rfl) rfl rfl rfl rfl) rfl ?_
 obtain ⟨x3, gx3, hE⟩ := bindO_some hE
 refine s0 (callP rfl rfl (fun H => Z109_walk gx3 H)) rfl ?_
 refine sLn (storeLFA (TK rfl) rfl rfl rfl rfl rfl) ?_
 refine nil ?_
 refine hK2 _ ?_
 clear hK2 K2
 refine seqK fun K4 hK4 => ?_
 refine region ?_
 refine s0 (fieldL (TK rfl) rfl rfl (TK rfl) rfl rfl) rfl ?_
 refine s0 (loadL (TK rfl) rfl rfl rfl rfl) rfl ?_
 refine sLen (f := (intE .i64)) (s := x3.FWraps) (TK rfl) rfl rfl rfl rfl fun hL5 => ?_
 refine s0 (binI rfl rfl rfl) rfl ?_
 refine s0 moveA rfl ?_
 refine gC rfl rfl (fun hC => fieldL (TK rfl) rfl rfl (TK rfl) rfl rfl) rfl ?_
 refine gC rfl rfl (fun hC => ungdLA (k := 10) rfl (loadL (TK rfl) rfl rfl rfl rfl)) rfl ?_
 obtain ⟨x6, gx6, hE⟩ := guardO_some hE
 refine gC rfl rfl (fun hC => ungdA (k := 11) rfl (idxMn (f := (intE .i64)) (n := 0) (TK rfl) rfl (TK rfl) rfl rfl rfl (gx6 hC))) rfl ?_
 refine gC rfl rfl (fun hC => ungdA (k := 12) rfl (loadV (TK rfl) rfl rfl rfl)) rfl ?_
 refine gC rfl rfl (fun hC => ungdA (k := 13) rfl (binI rfl rfl rfl)) rfl ?_
 refine s0 (pickAndA rfl rfl rfl) rfl ?_
 refine s0 assignA rfl ?_
 refine nil ?_
 refine hK4 _ ?_
 clear hK4 K4
 refine AWp.ret ?_
 repeat (first | refine xBlock_ret ?_ | refine xThen_ret ?_)
 obtain rfl := Option.some.inj hE
 refine retQ.retF H rfl ⟨rfl, rfl⟩ ?_
 exact (fun _ _ h => h)
def Z98_j2   : Option Int := some (-1 : Int)
def Z98_l6 (a0 : (Sl TDir)) (a1 : (TDir → Option Bool))  : Nat → Nat → Option Int
 | 0, _ => none
 | n6 + 1, s8_7 => bif (decide (((s8_7 : Nat) : Int) < ((a0.l.length : Nat) : Int))) then ((a0.l[s8_7]?).bind fun x14 => (a1 x14).bind fun x15 => bif x15 then (some ((s8_7 : Nat) : Int)) else ((Z98_l6 a0 a1 n6) (s8_7 + 1))) else (Z98_j2   )
def Z98 (a0 : (Sl TDir)) (a1 : (TDir → Option Bool)) : Option Int := Z98_l6 a0 a1 (a0.l.length + 1) 0
theorem Z98_walk {a0 : (Sl TDir)} {a1 : (TDir → Option Bool)} {w0 : Option Nat} {cl1 : List D} {k1 : Nat} {r : Int} (hE : Z98 a0 a1 = some r) (H : Heap) (hf1 : ∀ x0 r, a1 x0 = some r → ∀ H, ACalls Tryz.prog k1 ([.agg (TDir.c x0)] ++ cl1.map A.d) H fun v h' => v = .a (.d (.bool r)) ∧ h' = H) : ACalls Tryz.prog 122 [.d (Sl.d 2 TDir.c w0 a0), .d (.func k1 cl1)] H fun v h' => v = .a (.d (.int .i64 r)) ∧ h' = H := by
 unfold Z98 at hE
 refine ACalls.of_wp (fn := Tryz.f122) (c := _) Tryz.tab_ok (fun _ _ => Tryz.call122 _ _) Tryz.func122 rfl (n := 19) rfl (rs := [.tmp 4]) rfl rfl ?_
 refine seqK fun K1 hK1 => ?_
 refine region ?_
 refine s0 assignA rfl ?_
 refine nil ?_
 refine hK1 _ ?_
 clear hK1 K1
 refine seqJH KeepsT.nil (fun (z : Unit) => []) (fun z => H) (fun z => Z98_j2  = some r) ?_ ?_
 ·intro K2 hK2
  refine seqK fun K4 hK4 => ?_
  refine region ?_
  refine s0 moveA rfl ?_
  refine sLen (f := TDir.c) (s := a0) (TK rfl) rfl rfl rfl rfl fun hL5 => ?_
  refine s0 moveA rfl ?_
  refine nil ?_
  refine hK4 _ ?_
  clear hK4 K4
  refine block ?_
  refine loopH (KeepsT.A (k := 0) (KeepsT.A (k := 1) (KeepsT.A (k := 7) KeepsT.nil))) (fun (z : Nat × Nat) => [(8, .a (.d (.int .i64 ((z.2 : Nat) : Int))))]) (fun z => H) (fun z => z.1) (fun z => Z98_l6 a0 a1 z.1 z.2 = some r) ((a0.l.length + 1), 0) hE Weak.toA ?_
  rintro ⟨n6, s8_7⟩ hE K6 hK6
  try dsimp only at hE
  cases n6 with
  | zero => cases hE
  | succ n6 =>
    rw [Z98_l6] at hE
    refine seqK fun K8 hK8 => ?_
    refine region ?_
    refine s0 (binI rfl rfl rfl) rfl ?_
    refine nil ?_
    refine hK8 _ ?_
    clear hK8 K8
    refine seqK fun K9 hK9 => ?_
    refine condE hE rfl (fun hc10 hE => ?_) (fun hc10 hE => ?_)
    ·try dsimp only at hc10
     have hf10 := of_decide_eq_true hc10
     refine AWp.skip ?_
     refine hK9 _ ?_
     clear hK9 K9
     refine seqK fun K11 hK11 => ?_
     refine block ?_
     refine seqK fun K12 hK12 => ?_
     refine region ?_
     refine s0 moveA rfl ?_
     refine s0 assignA rfl ?_
     refine nil ?_
     refine hK12 _ ?_
     clear hK12 K12
     refine seqK fun K13 hK13 => ?_
     refine region ?_
     refine s0 moveA rfl ?_
     refine s0 moveA rfl ?_
     refine s0 moveA rfl ?_
     obtain ⟨x14, gx14, hE⟩ := bindO_some hE
     refine s0 (idxMn (f := TDir.c) (n := s8_7) (TK rfl) rfl (TK rfl) rfl rfl rfl gx14) rfl ?_
     refine s0 (loadV (TK rfl) rfl rfl rfl) rfl ?_
     obtain ⟨x15, gx15, hE⟩ := bindO_some hE
     refine s0 (callP rfl rfl (hf1 _ _ gx15)) rfl ?_
     refine nil ?_
     refine hK13 _ ?_
     clear hK13 K13
     refine condE hE rfl (fun hc16 hE => ?_) (fun hc16 hE => ?_)
     ·refine seqK fun K17 hK17 => ?_
      refine region ?_
      refine s0 moveA rfl ?_
      refine s0 assignA rfl ?_
      refine nil ?_
      refine hK17 _ ?_
      clear hK17 K17
      refine AWp.ret ?_
      repeat (first | refine xBlock_ret ?_ | refine xThen_ret ?_)
      obtain rfl := Option.some.inj hE
      refine retQ.retF H rfl ⟨rfl, rfl⟩ ?_
      exact (fun _ _ h => h)
     refine AWp.skip ?_
     refine hK11 _ ?_
     clear hK11 K11
     refine region ?_
     refine s0 (addIA rfl rfl) rfl ?_
     refine s0 moveA rfl ?_
     refine nil ?_
     exact hK6 _ (n6, (s8_7 + 1)) Weak.toA hE (Nat.lt_succ_self _)
    refine AWp.exit ?_
    exact hK2 _ () Weak.toA hE
 rintro _ hE
 try dsimp only at hE
 unfold Z98_j2 at hE
 refine seqK fun K3 hK3 => ?_
 refine region ?_
 refine s0 assignA rfl ?_
 refine nil ?_
 refine hK3 _ ?_
 clear hK3 K3
 refine AWp.ret ?_
 repeat (first | refine xBlock_ret ?_ | refine xThen_ret ?_)
 obtain rfl := Option.some.inj hE
 refine retQ.retF H rfl ⟨rfl, rfl⟩ ?_
 exact (fun _ _ h => h)
end Go.Proofs
