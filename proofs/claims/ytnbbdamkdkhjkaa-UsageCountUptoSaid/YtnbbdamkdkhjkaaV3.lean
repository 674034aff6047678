import Derived.Test.YtnbbdamkdkhjkaaV2
set_option maxRecDepth 100000
set_option maxHeartbeats 2000000
set_option linter.unusedVariables false
set_option linter.unusedSimpArgs false
namespace Go.Proofs
open Go Go.Ab
open AOps Cert AWp
def Z4_j2  (y3_l0 : TFrag) : Option (TFrag × Bool) := some ((TFrag.mk ([] : Bs) ([] : Bs) (Sl.nil : Sl TSel)), false)
def Z4_l7 (a0 : TQuery) (a1 : Bs)  : Nat → Nat → TFrag → Option (TFrag × Bool)
 | 0, _, _ => none
 | n7 + 1, s11_8, y9_l0 => bif (decide (((s11_8 : Nat) : Int) < ((a0.FFrags.l.length : Nat) : Int))) then ((a0.FFrags.l[s11_8]?).bind fun x15 => bif ((x15.FName == a1)) then (some (x15, true)) else ((Z4_l7 a0 a1 n7) (s11_8 + 1) y9_l0)) else (Z4_j2   y9_l0)
def Z4 (a0 : TQuery) (a1 : Bs) : Option (TFrag × Bool) := Z4_l7 a0 a1 (a0.FFrags.l.length + 1) 0 TFrag.zero
theorem Z4_walk {a0 : TQuery} {a1 : Bs}   {r : (TFrag × Bool)} (hE : Z4 a0 a1 = some r) (H : Heap)  : ACalls Try.prog 25 [.agg (TQuery.c a0), .d (.str a1)] H fun v h' => v = .tup [.agg (TFrag.c r.1), .d (.bool r.2)] ∧ h' = H := by
 unfold Z4 at hE
 refine ACalls.of_wp (fn := Try.f25) (c := _) Try.tab_ok (fun _ _ => Try.call25 _ _) Try.func25 rfl (n := 22) rfl (rs := [.cell 4 83, .tmp 5]) rfl rfl ?_
 refine seqK fun K1 hK1 => ?_
 refine region ?_
 refine s0 (boxV rfl) rfl ?_
 refine sL (allocLA (TK rfl) rfl) rfl ?_
 refine s0 assignA rfl ?_
 refine nil ?_
 refine hK1 _ ?_
 clear hK1 K1
 refine seqJ (KeepsT.A (k := 4) KeepsT.nil) (fun (z : TFrag) => []) (fun z => [TFrag.c z]) (fun z => H) (fun z => Z4_j2 z = some r) ?_ ?_
 ·intro K2 hK2
  refine seqK fun K5 hK5 => ?_
  refine region ?_
  refine s0 (fieldVA (TK rfl) rfl rfl (TK rfl) rfl rfl) rfl ?_
  refine s0 (loadV (TK rfl) rfl rfl rfl) rfl ?_
  refine sLen (f := TFrag.c) (s := a0.FFrags) (TK rfl) rfl rfl rfl rfl fun hL6 => ?_
  refine s0 moveA rfl ?_
  refine nil ?_
  refine hK5 _ ?_
  clear hK5 K5
  refine block ?_
  refine loopO (KeepsT.A (k := 1) (KeepsT.A (k := 4) (KeepsT.A (k := 9) (KeepsT.A (k := 10) KeepsT.nil)))) (fun (z : Nat × Nat × TFrag) => [(11, .a (.d (.int .i64 ((z.2.1 : Nat) : Int))))]) (fun z => [TFrag.c z.2.2]) (fun z => H) (fun z => z.1) (fun z => Z4_l7 a0 a1 z.1 z.2.1 z.2.2 = some r) ((a0.FFrags.l.length + 1), 0, TFrag.zero) hE Weak.toA ?_
  rintro ⟨n7, s11_8, y9_l0⟩ hE K7 hK7
  try dsimp only at hE
  cases n7 with
  | zero => cases hE
  | succ n7 =>
    rw [Z4_l7] at hE
    refine seqK fun K10 hK10 => ?_
    refine region ?_
    refine s0 (binI rfl rfl rfl) rfl ?_
    refine nil ?_
    refine hK10 _ ?_
    clear hK10 K10
    refine seqK fun K11 hK11 => ?_
    refine condE hE rfl (fun hc12 hE => ?_) (fun hc12 hE => ?_)
    ·try dsimp only at hc12
     have hf12 := of_decide_eq_true hc12
     refine AWp.skip ?_
     refine hK11 _ ?_
     clear hK11 K11
     refine seqK fun K13 hK13 => ?_
     refine block ?_
     refine seqK fun K14 hK14 => ?_
     refine region ?_
     obtain ⟨x15, gx15, hE⟩ := bindO_some hE
     refine s0 (idxMn (f := TFrag.c) (n := s11_8) (TK rfl) rfl (TK rfl) rfl rfl rfl gx15) rfl ?_
     refine s0 (loadV (TK rfl) rfl rfl rfl) rfl ?_
     refine sL (allocLA (TK rfl) rfl) rfl ?_
     refine sLn (storeLFA (TK rfl) rfl rfl rfl rfl rfl) ?_
     refine nil ?_
     refine hK14 _ ?_
     clear hK14 K14
     refine freezeA 7 _ rfl (Keeps.c (k := 1) (by conv => lhs; whnf) (by rfl) (Keeps.c (k := 4) (by conv => lhs; whnf) (by rfl) (Keeps.c (k := 9) (by conv => lhs; whnf) (by rfl) (Keeps.c (k := 10) (by conv => lhs; whnf) (by rfl) (Keeps.c (k := 11) (by conv => lhs; whnf) (by rfl) Keeps.nil))))) ?_
     refine seqK fun K16 hK16 => ?_
     refine region ?_
     refine s0 (fieldVA (TK rfl) rfl rfl (TK rfl) rfl rfl) rfl ?_
     refine s0 (loadV (TK rfl) rfl rfl rfl) rfl ?_
     refine s0 moveA rfl ?_
     refine s0 (binS rfl rfl rfl) rfl ?_
     refine nil ?_
     refine hK16 _ ?_
     clear hK16 K16
     refine condE hE rfl (fun hc17 hE => ?_) (fun hc17 hE => ?_)
     ·refine seqK fun K18 hK18 => ?_
      refine region ?_
      refine s0 (loadV (TK rfl) rfl rfl rfl) rfl ?_
      refine sLn (storeLFA (TK rfl) rfl rfl rfl rfl rfl) ?_
      refine s0 assignA rfl ?_
      refine nil ?_
      refine hK18 _ ?_
      clear hK18 K18
      refine AWp.ret ?_
      repeat (first | refine xBlock_ret ?_ | refine xThen_ret ?_)
      obtain rfl := Option.some.inj hE
      refine retQ.retF H rfl ⟨rfl, rfl⟩ ?_
      exact (fun _ _ h => h)
     refine AWp.skip ?_
     refine hK13 _ ?_
     clear hK13 K13
     refine region ?_
     refine s0 (addIA rfl rfl) rfl ?_
     refine s0 moveA rfl ?_
     refine nil ?_
     exact hK7 _ (n7, (s11_8 + 1), y9_l0) Weak.toA hE (Nat.lt_succ_self _)
    refine AWp.exit ?_
    exact hK2 _ y9_l0 Weak.toA hE
 rintro y3_l0 hE
 try dsimp only at hE
 unfold Z4_j2 at hE
 refine seqK fun K4 hK4 => ?_
 refine region ?_
 refine s0 (build Try.tab_ok rfl rfl rfl rfl rfl rfl) rfl ?_
 refine sLn (storeLFA (TK rfl) rfl rfl rfl rfl rfl) ?_
 refine s0 assignA rfl ?_
 refine nil ?_
 refine hK4 _ ?_
 clear hK4 K4
 refine AWp.ret ?_
 repeat (first | refine xBlock_ret ?_ | refine xThen_ret ?_)
 obtain rfl := Option.some.inj hE
 refine retQ.retF H rfl ⟨rfl, rfl⟩ ?_
 exact (fun _ _ h => h)
def Z30_j2   : Option Int := some (-1 : Int)
def Z30_l6 (a0 : (Sl Bs)) (a1 : Bs)  : Nat → Nat → Option Int
 | 0, _ => none
 | n6 + 1, s8_7 => bif (decide (((s8_7 : Nat) : Int) < ((a0.l.length : Nat) : Int))) then ((a0.l[s8_7]?).bind fun x14 => bif ((a1 == x14)) then (some ((s8_7 : Nat) : Int)) else ((Z30_l6 a0 a1 n6) (s8_7 + 1))) else (Z30_j2   )
def Z30 (a0 : (Sl Bs)) (a1 : Bs) : Option Int := Z30_l6 a0 a1 (a0.l.length + 1) 0
theorem Z30_walk {a0 : (Sl Bs)} {a1 : Bs} {w0 : Option Nat}  {r : Int} (hE : Z30 a0 a1 = some r) (H : Heap)  : ACalls Try.prog 66 [.d (Sl.d 1 strE w0 a0), .d (.str a1)] H fun v h' => v = .a (.d (.int .i64 r)) ∧ h' = H := by
 unfold Z30 at hE
 refine ACalls.of_wp (fn := Try.f66) (c := _) Try.tab_ok (fun _ _ => Try.call66 _ _) Try.func66 rfl (n := 19) rfl (rs := [.tmp 4]) rfl rfl ?_
 refine seqK fun K1 hK1 => ?_
 refine region ?_
 refine s0 assignA rfl ?_
 refine nil ?_
 refine hK1 _ ?_
 clear hK1 K1
 refine seqJH KeepsT.nil (fun (z : Unit) => []) (fun z => H) (fun z => Z30_j2  = some r) ?_ ?_
 ·intro K2 hK2
  refine seqK fun K4 hK4 => ?_
  refine region ?_
  refine s0 moveA rfl ?_
  refine sLen (f := strE) (s := a0) (TK rfl) rfl rfl rfl rfl fun hL5 => ?_
  refine s0 moveA rfl ?_
  refine nil ?_
  refine hK4 _ ?_
  clear hK4 K4
  refine block ?_
  refine loopH (KeepsT.A (k := 0) (KeepsT.A (k := 1) (KeepsT.A (k := 7) KeepsT.nil))) (fun (z : Nat × Nat) => [(8, .a (.d (.int .i64 ((z.2 : Nat) : Int))))]) (fun z => H) (fun z => z.1) (fun z => Z30_l6 a0 a1 z.1 z.2 = some r) ((a0.l.length + 1), 0) hE Weak.toA ?_
  rintro ⟨n6, s8_7⟩ hE K6 hK6
  try dsimp only at hE
  cases n6 with
  | zero => cases hE
  | succ n6 =>
    rw [Z30_l6] at hE
    refine seqK fun K8 hK8 => ?_
    refine region ?_
    refine s0 (binI rfl rfl rfl) rfl ?_
    refine nil ?_
    refine hK8 _ ?_
    clear hK8 K8
    refine seqK fun K9 hK9 => ?_
    refine condE hE rfl (fun hc10 hE => ?_) (fun hc10 hE => ?_)
    ·try dsimp only at hc10
     have hf10 := of_decide_eq_true hc10
     refine AWp.skip ?_
     refine hK9 _ ?_
     clear hK9 K9
     refine seqK fun K11 hK11 => ?_
     refine block ?_
     refine seqK fun K12 hK12 => ?_
     refine region ?_
     refine s0 moveA rfl ?_
     refine s0 assignA rfl ?_
     refine nil ?_
     refine hK12 _ ?_
     clear hK12 K12
     refine seqK fun K13 hK13 => ?_
     refine region ?_
     refine s0 moveA rfl ?_
     refine s0 moveA rfl ?_
     refine s0 moveA rfl ?_
     obtain ⟨x14, gx14, hE⟩ := bindO_some hE
     refine s0 (idxMn (f := strE) (n := s8_7) (TK rfl) rfl (TK rfl) rfl rfl rfl gx14) rfl ?_
     refine s0 (loadV (TK rfl) rfl rfl rfl) rfl ?_
     refine s0 (binS rfl rfl rfl) rfl ?_
     refine nil ?_
     refine hK13 _ ?_
     clear hK13 K13
     refine condE hE rfl (fun hc15 hE => ?_) (fun hc15 hE => ?_)
     ·refine seqK fun K16 hK16 => ?_
      refine region ?_
      refine s0 moveA rfl ?_
      refine s0 assignA rfl ?_
      refine nil ?_
      refine hK16 _ ?_
      clear hK16 K16
      refine AWp.ret ?_
      repeat (first | refine xBlock_ret ?_ | refine xThen_ret ?_)
      obtain rfl := Option.some.inj hE
      refine retQ.retF H rfl ⟨rfl, rfl⟩ ?_
      exact (fun _ _ h => h)
     refine AWp.skip ?_
     refine hK11 _ ?_
     clear hK11 K11
     refine region ?_
     refine s0 (addIA rfl rfl) rfl ?_
     refine s0 moveA rfl ?_
     refine nil ?_
     exact hK6 _ (n6, (s8_7 + 1)) Weak.toA hE (Nat.lt_succ_self _)
    refine AWp.exit ?_
    exact hK2 _ () Weak.toA hE
 rintro _ hE
 try dsimp only at hE
 unfold Z30_j2 at hE
 refine seqK fun K3 hK3 => ?_
 refine region ?_
 refine s0 assignA rfl ?_
 refine nil ?_
 refine hK3 _ ?_
 clear hK3 K3
 refine AWp.ret ?_
 repeat (first | refine xBlock_ret ?_ | refine xThen_ret ?_)
 obtain rfl := Option.some.inj hE
 refine retQ.retF H rfl ⟨rfl, rfl⟩ ?_
 exact (fun _ _ h => h)
def Z28 (a0 : (Sl Bs)) (a1 : Bs) : Option Bool := (Z30 a0 a1).bind fun x3 => some (decide ((0 : Int) ≤ x3))
theorem Z28_walk {a0 : (Sl Bs)} {a1 : Bs} {w0 : Option Nat}  {r : Bool} (hE : Z28 a0 a1 = some r) (H : Heap)  : ACalls Try.prog 54 [.d (Sl.d 1 strE w0 a0), .d (.str a1)] H fun v h' => v = .a (.d (.bool r)) ∧ h' = H := by
 unfold Z28 at hE
 refine ACalls.of_wp (fn := Try.f54) (c := _) Try.tab_ok (fun _ _ => Try.call54 _ _) Try.func54 rfl (n := 9) rfl (rs := [.tmp 4]) rfl rfl ?_
 refine seqK fun K1 hK1 => ?_
 refine region ?_
 refine s0 assignA rfl ?_
 refine nil ?_
 refine hK1 _ ?_
 clear hK1 K1
 refine seqK fun K2 hK2 => ?_
 refine region ?_
 refine s0 moveA rfl ?_
 refine s0 moveA rfl ?_
 obtain ⟨x3, gx3, hE⟩ := bindO_some hE
 refine s0 (callP rfl rfl (fun H => Z30_walk gx3 H)) rfl ?_
 refine s0 (binI rfl rfl rfl) rfl ?_
 refine s0 assignA rfl ?_
 refine nil ?_
 refine hK2 _ ?_
 clear hK2 K2
 refine AWp.ret ?_
 repeat (first | refine xBlock_ret ?_ | refine xThen_ret ?_)
 obtain rfl := Option.some.inj hE
 refine retQ.retF H rfl ⟨rfl, rfl⟩ ?_
 exact (fun _ _ h => h)
def Z7_j3  (s2_4 : (Sl Bs)) (s8_5 : Bool) : Option ((Sl Bs) × Bool) := some (s2_4, s8_5)
def Z7_j16 (s17_12 : Nat) (k_next_9 : (Sl Bs) → Bool → Nat → Option ((Sl Bs) × Bool)) (s2_17 : (Sl Bs)) (s8_18 : Bool) : Option ((Sl Bs) × Bool) := k_next_9 s2_17 s8_18 (s17_12 + 1)
def Z7_j22 (a0 : TQuery) (s17_12 : Nat) (k_next_9 : (Sl Bs) → Bool → Nat → Option ((Sl Bs) × Bool)) (k_rec_34 : TQuery → (Sl TSel) → (Sl Bs) → Option ((Sl Bs) × Bool)) (s2_23 : (Sl Bs)) (s8_24 : Bool) (s11_25 : (Sl TSel)) : Option ((Sl Bs) × Bool) := (k_rec_34 a0 s11_25 s2_23).bind fun x28 => Z7_j16 s17_12 k_next_9 x28.1 (s8_24 && x28.2)
def Z7_l9 (a0 : TQuery) (a1 : (Sl TSel)) (k_rec_34 : TQuery → (Sl TSel) → (Sl Bs) → Option ((Sl Bs) × Bool)) : Nat → (Sl Bs) → Bool → Nat → Option ((Sl Bs) × Bool)
 | 0, _, _, _ => none
 | n9 + 1, s2_10, s8_11, s17_12 => bif (decide (((s17_12 : Nat) : Int) < ((a1.l.length : Nat) : Int))) then ((a1.l[s17_12]?).bind fun x20 => bif (decide (x20.FKind = (2 : Int))) then ((Z4 a0 x20.FName).bind fun x32 => guardO (!(!x32.2)) (Z28 s2_10 x20.FName) false fun x36 => bif ((!x32.2) || x36) then (Z7_j16 s17_12 ((Z7_l9 a0 a1 k_rec_34 n9)) s2_10 (s8_11 && x32.2)) else ((appC 16 s2_10 (⟨false, [x20.FName]⟩ : Sl Bs)).bind fun x39 => Z7_j22 a0 s17_12 ((Z7_l9 a0 a1 k_rec_34 n9)) k_rec_34 x39 (s8_11 && x32.2) x32.1.FSels)) else (Z7_j22 a0 s17_12 ((Z7_l9 a0 a1 k_rec_34 n9)) k_rec_34 s2_10 s8_11 x20.FSels)) else (Z7_j3   s2_10 s8_11)
def Z7_n : Nat → TQuery → (Sl TSel) → (Sl Bs) → Option ((Sl Bs) × Bool)
 | 0, _, _, _ => none
 | n + 1, a0, a1, a2 => Z7_l9 a0 a1 (Z7_n n) (a1.l.length + 1) a2 true 0
theorem Z7_step (n : Nat) (ih_34 : ∀ {a0 : TQuery} {a1 : (Sl TSel)} {a2 : (Sl Bs)} {w1 : Option Nat} {g2 : Nat} {r : ((Sl Bs) × Bool)}, Z7_n n a0 a1 a2 = some r → ∀ (H : Heap) (hg2 : H g2 = some (.tok 1 a2.l.length)), ACalls Try.prog 34 [.agg (TQuery.c a0), .d (Sl.d 7 TSel.c w1 a1), .d (Sl.d 1 strE (some g2) a2)] H fun v h' => v = .tup [.d (Sl.d 1 strE (some g2) r.1), .d (.bool r.2)] ∧ h' = (H.set g2 (some (.tok 1 r.1.l.length)))) : ∀ {a0 : TQuery} {a1 : (Sl TSel)} {a2 : (Sl Bs)} {w1 : Option Nat} {g2 : Nat} {r : ((Sl Bs) × Bool)}, Z7_n (n + 1) a0 a1 a2 = some r → ∀ (H : Heap) (hg2 : H g2 = some (.tok 1 a2.l.length)), ACalls Try.prog 34 [.agg (TQuery.c a0), .d (Sl.d 7 TSel.c w1 a1), .d (Sl.d 1 strE (some g2) a2)] H fun v h' => v = .tup [.d (Sl.d 1 strE (some g2) r.1), .d (.bool r.2)] ∧ h' = (H.set g2 (some (.tok 1 r.1.l.length))) := by
 intro a0 a1 a2 w1 g2 r hE H hg2
 rw [Z7_n] at hE
 refine ACalls.of_wp (fn := Try.f34) (c := _) Try.tab_ok (fun _ _ => Try.call34 _ _) Try.func34 rfl (n := 66) rfl (rs := [.tmp 6, .tmp 7]) rfl rfl ?_
 refine AWp.heqA (h' := (H.set g2 (some (.tok 1 a2.l.length)))) (by funext n_; simp only [Heap.set]; (repeat' split) <;> simp_all) ?_
 refine seqK fun K1 hK1 => ?_
 refine region ?_
 refine s0 (boxV rfl) rfl ?_
 refine s0 assignA rfl ?_
 refine s0 assignA rfl ?_
 refine nil ?_
 refine hK1 _ ?_
 clear hK1 K1
 refine seqK fun K2 hK2 => ?_
 refine region ?_
 refine s0 assignA rfl ?_
 refine nil ?_
 refine hK2 _ ?_
 clear hK2 K2
 refine seqJH KeepsT.nil (fun (z : (Sl Bs) × Bool) => [(2, .a (.d (Sl.d 1 strE (some g2) z.1))), (8, .a (.d (.bool z.2)))]) (fun z => (H.set g2 (some (.tok 1 z.1.l.length)))) (fun z => Z7_j3 z.1 z.2 = some r) ?_ ?_
 ·intro K3 hK3
  refine seqK fun K7 hK7 => ?_
  refine region ?_
  refine s0 moveA rfl ?_
  refine sLen (f := TSel.c) (s := a1) (TK rfl) rfl rfl rfl rfl fun hL8 => ?_
  refine s0 moveA rfl ?_
  refine nil ?_
  refine hK7 _ ?_
  clear hK7 K7
  refine block ?_
  refine loopH (KeepsT.A (k := 3) (KeepsT.A (k := 15) (KeepsT.A (k := 16) KeepsT.nil))) (fun (z : Nat × (Sl Bs) × Bool × Nat) => [(2, .a (.d (Sl.d 1 strE (some g2) z.2.1))), (8, .a (.d (.bool z.2.2.1))), (17, .a (.d (.int .i64 ((z.2.2.2 : Nat) : Int))))]) (fun z => (H.set g2 (some (.tok 1 z.2.1.l.length)))) (fun z => z.1) (fun z => Z7_l9 a0 a1 (Z7_n n) z.1 z.2.1 z.2.2.1 z.2.2.2 = some r) ((a1.l.length + 1), a2, true, 0) hE Weak.toA ?_
  rintro ⟨n9, s2_10, s8_11, s17_12⟩ hE K9 hK9
  try dsimp only at hE
  cases n9 with
  | zero => cases hE
  | succ n9 =>
    rw [Z7_l9] at hE
    refine seqK fun K13 hK13 => ?_
    refine region ?_
    refine s0 (binI rfl rfl rfl) rfl ?_
    refine nil ?_
    refine hK13 _ ?_
    clear hK13 K13
    refine seqK fun K14 hK14 => ?_
    refine condE hE rfl (fun hc15 hE => ?_) (fun hc15 hE => ?_)
    ·try dsimp only at hc15
     have hf15 := of_decide_eq_true hc15
     refine AWp.skip ?_
     refine hK14 _ ?_
     clear hK14 K14
     refine seqJH (KeepsT.A (k := 3) (KeepsT.A (k := 15) (KeepsT.A (k := 16) (KeepsT.A (k := 17) KeepsT.nil)))) (fun (z : (Sl Bs) × Bool) => [(2, .a (.d (Sl.d 1 strE (some g2) z.1))), (8, .a (.d (.bool z.2)))]) (fun z => (H.set g2 (some (.tok 1 z.1.l.length)))) (fun z => Z7_j16 s17_12 ((Z7_l9 a0 a1 (Z7_n n) n9)) z.1 z.2 = some r) ?_ ?_
     ·intro K16 hK16
      refine block ?_
      refine seqK fun K19 hK19 => ?_
      refine region ?_
      obtain ⟨x20, gx20, hE⟩ := bindO_some hE
      refine s0 (idxMn (f := TSel.c) (n := s17_12) (TK rfl) rfl (TK rfl) rfl rfl rfl gx20) rfl ?_
      refine s0 (loadV (TK rfl) rfl rfl rfl) rfl ?_
      refine sL (allocLA (TK rfl) rfl) rfl ?_
      refine sLn (storeLFA (TK rfl) rfl rfl rfl rfl rfl) ?_
      refine nil ?_
      refine hK19 _ ?_
      clear hK19 K19
      refine freezeA 10 _ rfl (Keeps.c (k := 2) (by conv => lhs; whnf) (by rfl) (Keeps.c (k := 3) (by conv => lhs; whnf) (by rfl) (Keeps.c (k := 8) (by conv => lhs; whnf) (by rfl) (Keeps.c (k := 15) (by conv => lhs; whnf) (by rfl) (Keeps.c (k := 16) (by conv => lhs; whnf) (by rfl) (Keeps.c (k := 17) (by conv => lhs; whnf) (by rfl) Keeps.nil)))))) ?_
      refine seqK fun K21 hK21 => ?_
      refine region ?_
      refine s0 (fieldVA (TK rfl) rfl rfl (TK rfl) rfl rfl) rfl ?_
      refine s0 (loadV (TK rfl) rfl rfl (congrArg (fun x => some (A.d x)) (TSel.FSelsD_eq _))) rfl ?_
      refine s0 assignA rfl ?_
      refine nil ?_
      refine hK21 _ ?_
      clear hK21 K21
      refine seqJH (KeepsT.A (k := 3) (KeepsT.A (k := 15) (KeepsT.A (k := 16) (KeepsT.A (k := 17) KeepsT.nil)))) (fun (z : (Sl Bs) × Bool × (Sl TSel)) => [(2, .a (.d (Sl.d 1 strE (some g2) z.1))), (8, .a (.d (.bool z.2.1))), (11, .a (.d (Sl.d 7 TSel.c none z.2.2)))]) (fun z => (H.set g2 (some (.tok 1 z.1.l.length)))) (fun z => Z7_j22 a0 s17_12 ((Z7_l9 a0 a1 (Z7_n n) n9)) (Z7_n n) z.1 z.2.1 z.2.2 = some r) ?_ ?_
      ·intro K22 hK22
       refine seqK fun K29 hK29 => ?_
       refine region ?_
       refine s0 (fieldVA (TK rfl) rfl rfl (TK rfl) rfl rfl) rfl ?_
       refine s0 (loadV (TK rfl) rfl rfl rfl) rfl ?_
       refine s0 (binI rfl rfl rfl) rfl ?_
       refine nil ?_
       refine hK29 _ ?_
       clear hK29 K29
       refine condE hE rfl (fun hc30 hE => ?_) (fun hc30 hE => ?_)
       ·refine seqK fun K31 hK31 => ?_
        refine region ?_
        refine s0 (loadV (TK rfl) rfl rfl rfl) rfl ?_
        refine s0 (fieldVA (TK rfl) rfl rfl (TK rfl) rfl rfl) rfl ?_
        refine s0 (loadV (TK rfl) rfl rfl rfl) rfl ?_
        obtain ⟨x32, gx32, hE⟩ := bindO_some hE
        refine s0 (callP rfl rfl (fun H => Z4_walk gx32 H)) rfl ?_
        refine s0 moveA rfl ?_
        refine s0 (extract rfl rfl) rfl ?_
        refine s0 (extract rfl rfl) rfl ?_
        refine sL (allocLA (TK rfl) rfl) rfl ?_
        refine sLn (storeLFA (TK rfl) rfl rfl rfl rfl rfl) ?_
        refine s0 assignA rfl ?_
        refine nil ?_
        refine hK31 _ ?_
        clear hK31 K31
        refine freezeA 12 _ rfl (Keeps.c (k := 2) (by conv => lhs; whnf) (by rfl) (Keeps.c (k := 3) (by conv => lhs; whnf) (by rfl) (Keeps.c (k := 8) (by conv => lhs; whnf) (by rfl) (Keeps.c (k := 10) (by conv => lhs; whnf) (by rfl) (Keeps.c (k := 13) (by conv => lhs; whnf) (by rfl) (Keeps.c (k := 15) (by conv => lhs; whnf) (by rfl) (Keeps.c (k := 16) (by conv => lhs; whnf) (by rfl) (Keeps.c (k := 17) (by conv => lhs; whnf) (by rfl) Keeps.nil)))))))) ?_
        refine seqK fun K33 hK33 => ?_
        refine region ?_
        refine s0 moveA rfl ?_
        refine s0 moveA rfl ?_
        refine gC rfl rfl (fun hC => moveA) rfl ?_
        refine s0 (pickAndA rfl rfl rfl) rfl ?_
        refine s0 assignA rfl ?_
        refine nil ?_
        refine hK33 _ ?_
        clear hK33 K33
        refine seqK fun K34 hK34 => ?_
        refine seqK fun K35 hK35 => ?_
        refine region ?_
        refine s0 moveA rfl ?_
        refine s0 (notB rfl) rfl ?_
        refine s0 moveA rfl ?_
        refine gC rfl rfl (fun hC => moveA) rfl ?_
        refine gC rfl rfl (fun hC => fieldVA (TK rfl) rfl rfl (TK rfl) rfl rfl) rfl ?_
        refine gC rfl rfl (fun hC => ungdA (k := 41) rfl (loadV (TK rfl) rfl rfl rfl)) rfl ?_
        obtain ⟨x36, gx36, hE⟩ := guardO_some hE
        refine gC rfl rfl (fun hC => ungdA (k := 40) rfl (ungdA (k := 42) rfl (callP rfl rfl (fun H => Z28_walk (gx36 hC) H)))) rfl ?_
        refine s0 (pickOrA rfl rfl rfl) rfl ?_
        refine nil ?_
        refine hK35 _ ?_
        clear hK35 K35
        refine condE hE rfl (fun hc37 hE => ?_) (fun hc37 hE => ?_)
        ·refine AWp.exit ?_
         exact hK16 _ (s2_10, (s8_11 && x32.2)) Weak.toA hE
        refine AWp.skip ?_
        refine hK34 _ ?_
        clear hK34 K34
        refine seqK fun K38 hK38 => ?_
        refine region ?_
        refine s0 moveA rfl ?_
        refine s0 (fieldVA (TK rfl) rfl rfl (TK rfl) rfl rfl) rfl ?_
        refine s0 (loadV (TK rfl) rfl rfl rfl) rfl ?_
        refine s0 (buildSlice (TK rfl) rfl (TK rfl) rfl rfl rfl rfl rfl rfl) rfl ?_
        obtain ⟨x39, gx39, hE⟩ := bindO_some hE
        refine sH (appM (f := strE) (TK rfl) rfl (TK rfl) (TK rfl) ⟨_, rfl⟩ rfl rfl (by decide) rfl rfl rfl rfl hpG rfl gx39) rfl ?_
        refine AOps.heq (h' := (H.set g2 (some (.tok 1 x39.l.length)))) (by first | rfl | (rw [Heap.set_set]; rfl) | (funext n_; simp only [Heap.set]; (repeat' split) <;> first | rfl | (exfalso; simp_all; done) | (simp_all; done))) ?_
        refine s0 assignA rfl ?_
        refine nil ?_
        refine hK38 _ ?_
        clear hK38 K38
        refine region ?_
        refine s0 (fieldVA (TK rfl) rfl rfl (TK rfl) rfl rfl) rfl ?_
        refine s0 (loadV (TK rfl) rfl rfl rfl) rfl ?_
        refine s0 assignA rfl ?_
        refine nil ?_
        exact hK22 _ (x39, (s8_11 && x32.2), x32.1.FSels) Weak.toA hE
       refine AWp.skip ?_
       exact hK22 _ (s2_10, s8_11, x20.FSels) Weak.toA hE
      rintro ⟨s2_23, s8_24, s11_25⟩ hE
      try dsimp only at hE
      unfold Z7_j22 at hE
      refine seqK fun K26 hK26 => ?_
      refine region ?_
      refine s0 assignA rfl ?_
      refine nil ?_
      refine hK26 _ ?_
      clear hK26 K26
      refine seqK fun K27 hK27 => ?_
      refine region ?_
      refine s0 (loadV (TK rfl) rfl rfl rfl) rfl ?_
      refine s0 moveA rfl ?_
      refine s0 moveA rfl ?_
      obtain ⟨x28, gx28, hE⟩ := bindO_some hE
      refine sH (callH rfl rfl (ih_34 gx28 _ hpG)) rfl ?_
      refine AOps.heq (h' := (H.set g2 (some (.tok 1 x28.1.l.length)))) (by first | rfl | (rw [Heap.set_set]; rfl) | (funext n_; simp only [Heap.set]; (repeat' split) <;> first | rfl | (exfalso; simp_all; done) | (simp_all; done))) ?_
      refine s0 moveA rfl ?_
      refine s0 (extract rfl rfl) rfl ?_
      refine s0 (extract rfl rfl) rfl ?_
      refine s0 assignA rfl ?_
      refine s0 assignA rfl ?_
      refine nil ?_
      refine hK27 _ ?_
      clear hK27 K27
      refine region ?_
      refine s0 moveA rfl ?_
      refine s0 moveA rfl ?_
      refine gC rfl rfl (fun hC => moveA) rfl ?_
      refine s0 (pickAndA rfl rfl rfl) rfl ?_
      refine s0 assignA rfl ?_
      refine nil ?_
      exact hK16 _ (x28.1, (s8_24 && x28.2)) Weak.toA hE
     rintro ⟨s2_17, s8_18⟩ hE
     try dsimp only at hE
     unfold Z7_j16 at hE
     refine region ?_
     refine s0 (addIA rfl rfl) rfl ?_
     refine s0 moveA rfl ?_
     refine nil ?_
     exact hK9 _ (n9, s2_17, s8_18, (s17_12 + 1)) Weak.toA hE (Nat.lt_succ_self _)
    refine AWp.exit ?_
    exact hK3 _ (s2_10, s8_11) Weak.toA hE
 rintro ⟨s2_4, s8_5⟩ hE
 try dsimp only at hE
 unfold Z7_j3 at hE
 refine seqK fun K6 hK6 => ?_
 refine region ?_
 refine s0 moveA rfl ?_
 refine s0 moveA rfl ?_
 refine s0 assignA rfl ?_
 refine s0 assignA rfl ?_
 refine nil ?_
 refine hK6 _ ?_
 clear hK6 K6
 refine AWp.ret ?_
 repeat (first | refine xBlock_ret ?_ | refine xThen_ret ?_)
 obtain rfl := Option.some.inj hE
 refine retQ.retF (H.set g2 (some (.tok 1 s2_4.l.length))) rfl ⟨rfl, rfl⟩ ?_
 exact (fun _ _ h => h)
theorem Z7_all : ∀ (n : Nat), (∀ {a0 : TQuery} {a1 : (Sl TSel)} {a2 : (Sl Bs)} {w1 : Option Nat} {g2 : Nat} {r : ((Sl Bs) × Bool)}, Z7_n n a0 a1 a2 = some r → ∀ (H : Heap) (hg2 : H g2 = some (.tok 1 a2.l.length)), ACalls Try.prog 34 [.agg (TQuery.c a0), .d (Sl.d 7 TSel.c w1 a1), .d (Sl.d 1 strE (some g2) a2)] H fun v h' => v = .tup [.d (Sl.d 1 strE (some g2) r.1), .d (.bool r.2)] ∧ h' = (H.set g2 (some (.tok 1 r.1.l.length))))
 | 0 => fun hE => by first | cases hE | (rw [Z7_n] at hE; cases hE)
 | n + 1 => Z7_step n (Z7_all n)
def Z7 (a0 : TQuery) (a1 : (Sl TSel)) (a2 : (Sl Bs)) : Option ((Sl Bs) × Bool) := Z7_n F0 a0 a1 a2
theorem Z7_walk {a0 : TQuery} {a1 : (Sl TSel)} {a2 : (Sl Bs)} {w1 : Option Nat} {g2 : Nat} {r : ((Sl Bs) × Bool)} (hE : Z7 a0 a1 a2 = some r) (H : Heap) (hg2 : H g2 = some (.tok 1 a2.l.length)) : ACalls Try.prog 34 [.agg (TQuery.c a0), .d (Sl.d 7 TSel.c w1 a1), .d (Sl.d 1 strE (some g2) a2)] H fun v h' => v = .tup [.d (Sl.d 1 strE (some g2) r.1), .d (.bool r.2)] ∧ h' = (H.set g2 (some (.tok 1 r.1.l.length))) := (Z7_all F0) hE H hg2
def Z6 (a0 : TQuery) (a1 : TFrag) : Option Bool := (Z7 a0 a1.FSels (Sl.nil : Sl Bs)).bind fun x4 => (Z28 x4.1 a1.FName).bind fun x6 => some x6
theorem Z6_walk {a0 : TQuery} {a1 : TFrag}   {r : Bool} (hE : Z6 a0 a1 = some r) (H : Heap)  : ACalls Try.prog 35 [.agg (TQuery.c a0), .agg (TFrag.c a1)] H fun v h' => v = .a (.d (.bool r)) ∧ h' = H := by
 unfold Z6 at hE
 refine ACalls.of_wp (fn := Try.f35) (c := _) Try.tab_ok (fun _ _ => Try.call35 _ _) Try.func35 rfl (n := 18) rfl (rs := [.tmp 4]) rfl rfl ?_
 refine seqK fun K1 hK1 => ?_
 refine region ?_
 refine s0 (boxV rfl) rfl ?_
 refine s0 (boxV rfl) rfl ?_
 refine s0 assignA rfl ?_
 refine nil ?_
 refine hK1 _ ?_
 clear hK1 K1
 refine seqK fun K2 hK2 => ?_
 refine AWp.tok 1 fun tk2_3 htk2_3 => ?_
 refine region ?_
 refine s0 (loadV (TK rfl) rfl rfl rfl) rfl ?_
 refine s0 (fieldVA (TK rfl) rfl rfl (TK rfl) rfl rfl) rfl ?_
 refine s0 (loadV (TK rfl) rfl rfl rfl) rfl ?_
 obtain ⟨x4, gx4, hE⟩ := bindO_some hE
 refine sH (callH rfl rfl (ACalls.asArgs (.cons (.refl _) (.cons (.refl _) (.cons (AsArg.nil (k' := 1) (t := tk2_3) hpG) .nil))) (Z7_walk gx4 _ hpG))) rfl ?_
 refine AOps.heq (h' := (H.set tk2_3 (some (.tok 1 x4.1.l.length)))) (by first | rfl | (rw [Heap.set_set]; rfl) | (funext n_; simp only [Heap.set]; (repeat' split) <;> first | rfl | (exfalso; simp_all; done) | (simp_all; done))) ?_
 refine s0 moveA rfl ?_
 refine s0 (extract rfl rfl) rfl ?_
 refine s0 (extract rfl rfl) rfl ?_
 refine s0 assignA rfl ?_
 refine s0 assignA rfl ?_
 refine nil ?_
 refine hK2 _ ?_
 clear hK2 K2
 refine AWp.dropTok 5 rfl ?_
 refine seqK fun K5 hK5 => ?_
 refine region ?_
 refine s0 moveA rfl ?_
 refine s0 (fieldVA (TK rfl) rfl rfl (TK rfl) rfl rfl) rfl ?_
 refine s0 (loadV (TK rfl) rfl rfl rfl) rfl ?_
 obtain ⟨x6, gx6, hE⟩ := bindO_some hE
 refine s0 (callP rfl rfl (fun H => Z28_walk gx6 H)) rfl ?_
 refine s0 assignA rfl ?_
 refine nil ?_
 refine hK5 _ ?_
 clear hK5 K5
 refine AWp.ret ?_
 repeat (first | refine xBlock_ret ?_ | refine xThen_ret ?_)
 obtain rfl := Option.some.inj hE
 refine retQ.retF H rfl ⟨rfl, rfl⟩ ?_
 first | exact Heap.sub_set htk2_3 | (simp only [Heap.set_set]; exact Heap.sub_set htk2_3)
def Z5_j5 (x4 : ((Sl Bs) × Bool))  (s7_6 : Bool) : Option ((Sl Bs) × Bool) := some (x4.1, s7_6)
def Z5_l10 (a0 : TQuery) (x4 : ((Sl Bs) × Bool))  : Nat → Bool → Nat → Option ((Sl Bs) × Bool)
 | 0, _, _ => none
 | n10 + 1, s7_11, s20_12 => bif (decide (((s20_12 : Nat) : Int) < ((x4.1.l.length : Nat) : Int))) then ((x4.1.l[s20_12]?).bind fun x18 => (Z4 a0 x18).bind fun x20 => guardO (s7_11) (Z6 a0 x20.1) false fun x21 => (Z5_l10 a0 x4 n10) (s7_11 && (!x21)) (s20_12 + 1)) else (Z5_j5 x4  s7_11)
def Z5 (a0 : TQuery) (a1 : (Sl TSel)) : Option ((Sl Bs) × Bool) := (Z7 a0 a1 (Sl.nil : Sl Bs)).bind fun x4 => Z5_l10 a0 x4 (x4.1.l.length + 1) x4.2 0
theorem Z5_walk {a0 : TQuery} {a1 : (Sl TSel)} {w1 : Option Nat}  {r : ((Sl Bs) × Bool)} (hE : Z5 a0 a1 = some r) (H : Heap)  : ACalls Try.prog 24 [.agg (TQuery.c a0), .d (Sl.d 7 TSel.c w1 a1)] H fun v h' => v = .tup [.d (Sl.d 1 strE none r.1), .d (.bool r.2)] ∧ h' = H := by
 unfold Z5 at hE
 refine ACalls.of_wp (fn := Try.f24) (c := _) Try.tab_ok (fun _ _ => Try.call24 _ _) Try.func24 rfl (n := 40) rfl (rs := [.tmp 4, .tmp 5]) rfl rfl ?_
 refine seqK fun K1 hK1 => ?_
 refine region ?_
 refine s0 (boxV rfl) rfl ?_
 refine s0 (assignNil (k' := 1) rfl) rfl ?_
 refine s0 assignA rfl ?_
 refine nil ?_
 refine hK1 _ ?_
 clear hK1 K1
 refine seqK fun K2 hK2 => ?_
 refine AWp.tok 1 fun tk2_3 htk2_3 => ?_
 refine region ?_
 refine s0 (loadV (TK rfl) rfl rfl rfl) rfl ?_
 refine s0 moveA rfl ?_
 obtain ⟨x4, gx4, hE⟩ := bindO_some hE
 refine sH (callH rfl rfl (ACalls.asArgs (.cons (.refl _) (.cons (.refl _) (.cons (AsArg.nil (k' := 1) (t := tk2_3) hpG) .nil))) (Z7_walk gx4 _ hpG))) rfl ?_
 refine AOps.heq (h' := (H.set tk2_3 (some (.tok 1 x4.1.l.length)))) (by first | rfl | (rw [Heap.set_set]; rfl) | (funext n_; simp only [Heap.set]; (repeat' split) <;> first | rfl | (exfalso; simp_all; done) | (simp_all; done))) ?_
 refine s0 moveA rfl ?_
 refine s0 (extract rfl rfl) rfl ?_
 refine s0 (extract rfl rfl) rfl ?_
 refine s0 assignA rfl ?_
 refine s0 assignA rfl ?_
 refine nil ?_
 refine hK2 _ ?_
 clear hK2 K2
 refine AWp.dropTok 6 rfl ?_
 refine seqJH (KeepsT.A (k := 6) KeepsT.nil) (fun (z : Bool) => [(7, .a (.d (.bool z)))]) (fun z => (H.set tk2_3 (some (.tok 1 x4.1.l.length)))) (fun z => Z5_j5 x4 z = some r) ?_ ?_
 ·intro K5 hK5
  refine seqK fun K8 hK8 => ?_
  refine region ?_
  refine s0 moveA rfl ?_
  refine sLen (f := strE) (s := x4.1) (TK rfl) rfl rfl rfl rfl fun hL9 => ?_
  refine s0 moveA rfl ?_
  refine nil ?_
  refine hK8 _ ?_
  clear hK8 K8
  refine block ?_
  refine loopH (KeepsT.A (k := 2) (KeepsT.A (k := 6) (KeepsT.A (k := 18) (KeepsT.A (k := 19) KeepsT.nil)))) (fun (z : Nat × Bool × Nat) => [(7, .a (.d (.bool z.2.1))), (20, .a (.d (.int .i64 ((z.2.2 : Nat) : Int))))]) (fun z => (H.set tk2_3 (some (.tok 1 x4.1.l.length)))) (fun z => z.1) (fun z => Z5_l10 a0 x4 z.1 z.2.1 z.2.2 = some r) ((x4.1.l.length + 1), x4.2, 0) hE Weak.toA ?_
  rintro ⟨n10, s7_11, s20_12⟩ hE K10 hK10
  try dsimp only at hE
  cases n10 with
  | zero => cases hE
  | succ n10 =>
    rw [Z5_l10] at hE
    refine seqK fun K13 hK13 => ?_
    refine region ?_
    refine s0 (binI rfl rfl rfl) rfl ?_
    refine nil ?_
    refine hK13 _ ?_
    clear hK13 K13
    refine seqK fun K14 hK14 => ?_
    refine condE hE rfl (fun hc15 hE => ?_) (fun hc15 hE => ?_)
    ·try dsimp only at hc15
     have hf15 := of_decide_eq_true hc15
     refine AWp.skip ?_
     refine hK14 _ ?_
     clear hK14 K14
     refine seqK fun K16 hK16 => ?_
     refine block ?_
     refine seqK fun K17 hK17 => ?_
     refine region ?_
     obtain ⟨x18, gx18, hE⟩ := bindO_some hE
     refine s0 (idxMn (f := strE) (n := s20_12) (TK rfl) rfl (TK rfl) rfl rfl rfl gx18) rfl ?_
     refine s0 (loadV (TK rfl) rfl rfl rfl) rfl ?_
     refine s0 assignA rfl ?_
     refine nil ?_
     refine hK17 _ ?_
     clear hK17 K17
     refine seqK fun K19 hK19 => ?_
     refine region ?_
     refine s0 (loadV (TK rfl) rfl rfl rfl) rfl ?_
     refine s0 moveA rfl ?_
     obtain ⟨x20, gx20, hE⟩ := bindO_some hE
     refine s0 (callP rfl rfl (fun H => Z4_walk gx20 H)) rfl ?_
     refine s0 moveA rfl ?_
     refine s0 (extract rfl rfl) rfl ?_
     refine s0 (extract rfl rfl) rfl ?_
     refine sL (allocLA (TK rfl) rfl) rfl ?_
     refine sLn (storeLFA (TK rfl) rfl rfl rfl rfl rfl) ?_
     refine s0 assignA rfl ?_
     refine nil ?_
     refine hK19 _ ?_
     clear hK19 K19
     refine freezeA 10 _ rfl (Keeps.c (k := 2) (by conv => lhs; whnf) (by rfl) (Keeps.c (k := 6) (by conv => lhs; whnf) (by rfl) (Keeps.c (k := 7) (by conv => lhs; whnf) (by rfl) (Keeps.c (k := 18) (by conv => lhs; whnf) (by rfl) (Keeps.c (k := 19) (by conv => lhs; whnf) (by rfl) (Keeps.c (k := 20) (by conv => lhs; whnf) (by rfl) Keeps.nil)))))) ?_
     refine region ?_
     refine s0 moveA rfl ?_
     refine s0 moveA rfl ?_
     refine gC rfl rfl (fun hC => loadV (TK rfl) rfl rfl rfl) rfl ?_
     refine gC rfl rfl (fun hC => loadV (TK rfl) rfl rfl rfl) rfl ?_
     obtain ⟨x21, gx21, hE⟩ := guardO_some hE
     refine gC rfl rfl (fun hC => ungdA (k := 32) rfl (ungdA (k := 33) rfl (callP rfl rfl (fun H => Z6_walk (gx21 hC) H)))) rfl ?_
     refine gC rfl rfl (fun hC => ungdA (k := 34) rfl (notB rfl)) rfl ?_
     refine s0 (pickAndA rfl rfl rfl) rfl ?_
     refine s0 assignA rfl ?_
     refine nil ?_
     refine hK16 _ ?_
     clear hK16 K16
     refine region ?_
     refine s0 (addIA rfl rfl) rfl ?_
     refine s0 moveA rfl ?_
     refine nil ?_
     exact hK10 _ (n10, (s7_11 && (!x21)), (s20_12 + 1)) Weak.toA hE (Nat.lt_succ_self _)
    refine AWp.exit ?_
    exact hK5 _ s7_11 Weak.toA hE
 rintro s7_6 hE
 try dsimp only at hE
 unfold Z5_j5 at hE
 refine seqK fun K7 hK7 => ?_
 refine region ?_
 refine s0 moveA rfl ?_
 refine s0 moveA rfl ?_
 refine s0 assignA rfl ?_
 refine s0 assignA rfl ?_
 refine nil ?_
 refine hK7 _ ?_
 clear hK7 K7
 refine AWp.ret ?_
 repeat (first | refine xBlock_ret ?_ | refine xThen_ret ?_)
 obtain rfl := Option.some.inj hE
 refine retQ.retF H rfl ⟨rfl, rfl⟩ ?_
 first | exact Heap.sub_set htk2_3 | (simp only [Heap.set_set]; exact Heap.sub_set htk2_3)
end Go.Proofs

namespace Go.Proofs
open Go Go.Ab
open AOps Cert AWp
def Z40_j18  (y19_id34_9 : Usage_recorder) : Option (Sl TUse) := (Z41 y19_id34_9.Fout).bind fun x21 => some x21
def Z40_j30 (s75_25 : Nat) (k_next_24 : Nat → Usage_recorder → Option (Sl TUse)) (y31_id34_9 : Usage_recorder) : Option (Sl TUse) := k_next_24 (s75_25 + 1) y31_id34_9
def Z40_l24 (x7 : TOp)  : Nat → Nat → Usage_recorder → Option (Sl TUse)
 | 0, _, _ => none
 | n24 + 1, s75_25, y26_id34_9 => bif (decide (((s75_25 : Nat) : Int) < ((x7.FVars.l.length : Nat) : Int))) then ((x7.FVars.l[s75_25]?).bind fun x33 => bif x33.FHas then ((Z47 y26_id34_9 x33.FDefault x33.FType).bind fun x36 => Z40_j30 s75_25 ((Z40_l24 x7 n24)) x36) else (Z40_j30 s75_25 ((Z40_l24 x7 n24)) y26_id34_9)) else (Z40_j18   y26_id34_9)
def Z40_j16 (x7 : TOp)  (y17_id34_9 : Usage_recorder) : Option (Sl TUse) := Z40_l24 x7 (x7.FVars.l.length + 1) 0 y17_id34_9
def Z40_l39 (a1 : TQuery) (x7 : TOp) (x15 : ((Sl Bs) × Bool))  : Nat → Nat → Usage_recorder → Option (Sl TUse)
 | 0, _, _ => none
 | n39 + 1, s51_40, y41_id34_9 => bif (decide (((s51_40 : Nat) : Int) < ((x15.1.l.length : Nat) : Int))) then ((x15.1.l[s51_40]?).bind fun x47 => (Z4 a1 x47).bind fun x49 => (Z43 y41_id34_9 x49.1.FOn).bind fun x51 => (Z45 x51 x49.1.FSels x49.1.FOn).bind fun x52 => (Z40_l39 a1 x7 x15 n39) (s51_40 + 1) x52) else (Z40_j16 x7  y41_id34_9)
def Z40 (a0 : TDoc) (a1 : TQuery) (a2 : Int) : Option (Sl TUse) := bif ((decide (a2 < (0 : Int))) || (decide (((a1.FOps.l.length : Nat) : Int) ≤ a2))) then (some (Sl.nil : Sl TUse)) else ((idxC a1.FOps.l a2).bind fun x7 => (Z22 x7.FKind).bind fun x12 => (Z45 (Usage_recorder.mk a0 a1 (Sl.nil : Sl TUse)) x7.FSels x12).bind fun x13 => (Z5 a1 x7.FSels).bind fun x15 => Z40_l39 a1 x7 x15 (x15.1.l.length + 1) 0 x13)
theorem Z40_walk {a0 : TDoc} {a1 : TQuery} {a2 : Int}   {r : (Sl TUse)} (hE : Z40 a0 a1 a2 = some r) (H : Heap)  : ACalls Try.prog 14 [.agg (TDoc.c a0), .agg (TQuery.c a1), .d (.int .i64 a2)] H fun v h' => v = .a (.d (Sl.d 4 TUse.c none r)) ∧ h' = H := by
 unfold Z40 at hE
 refine ACalls.of_wp (fn := Try.f14) (c := _) Try.tab_ok (fun _ _ => Try.call14 _ _) Try.func14 rfl (n := 93) rfl (rs := [.tmp 6]) rfl rfl ?_
 refine seqK fun K1 hK1 => ?_
 refine region ?_
 refine s0 (boxV rfl) rfl ?_
 refine s0 (boxV rfl) rfl ?_
 refine s0 (assignNil (k' := 4) rfl) rfl ?_
 refine nil ?_
 refine hK1 _ ?_
 clear hK1 K1
 refine seqK fun K2 hK2 => ?_
 refine seqK fun K3 hK3 => ?_
 refine region ?_
 refine s0 moveA rfl ?_
 refine s0 (binI rfl rfl rfl) rfl ?_
 refine s0 moveA rfl ?_
 refine gC rfl rfl (fun hC => moveA) rfl ?_
 refine gC rfl rfl (fun hC => fieldVA (TK rfl) rfl rfl (TK rfl) rfl rfl) rfl ?_
 refine gC rfl rfl (fun hC => ungdA (k := 21) rfl (loadV (TK rfl) rfl rfl rfl)) rfl ?_
 refine gC rfl rfl (fun hC => ungdA (k := 22) rfl (lenM' (f := TOp.c) (s := a1.FOps) (TK rfl) rfl rfl rfl)) rfl ?_
 refine gC rfl rfl (fun hC => ungdA (k := 20) rfl (ungdA (k := 23) rfl (binI rfl rfl rfl))) rfl ?_
 refine s0 (pickOrA rfl rfl rfl) rfl ?_
 refine nil ?_
 refine hK3 _ ?_
 clear hK3 K3
 refine condE hE rfl (fun hc4 hE => ?_) (fun hc4 hE => ?_)
 ·refine seqK fun K5 hK5 => ?_
  refine region ?_
  refine s0 (assignNil (k' := 4) rfl) rfl ?_
  refine nil ?_
  refine hK5 _ ?_
  clear hK5 K5
  refine AWp.ret ?_
  repeat (first | refine xBlock_ret ?_ | refine xThen_ret ?_)
  obtain rfl := Option.some.inj hE
  refine retQ.retF H rfl ⟨rfl, rfl⟩ ?_
  exact (fun _ _ h => h)
 refine AWp.skip ?_
 refine hK2 _ ?_
 clear hK2 K2
 refine seqK fun K6 hK6 => ?_
 refine region ?_
 refine s0 (fieldVA (TK rfl) rfl rfl (TK rfl) rfl rfl) rfl ?_
 refine s0 (loadV (TK rfl) rfl rfl rfl) rfl ?_
 refine s0 moveA rfl ?_
 obtain ⟨x7, gx7, hE⟩ := bindO_some hE
 refine s0 (idxM (f := TOp.c) (TK rfl) rfl (TK rfl) rfl rfl rfl gx7) rfl ?_
 refine s0 (loadV (TK rfl) rfl rfl rfl) rfl ?_
 refine sL (allocLA (TK rfl) rfl) rfl ?_
 refine sLn (storeLFA (TK rfl) rfl rfl rfl rfl rfl) ?_
 refine nil ?_
 refine hK6 _ ?_
 clear hK6 K6
 refine freezeA 7 _ rfl (Keeps.c (k := 3) (by conv => lhs; whnf) (by rfl) (Keeps.c (k := 4) (by conv => lhs; whnf) (by rfl) Keeps.nil)) ?_
 refine seqK fun K8 hK8 => ?_
 refine region ?_
 refine s0 (loadV (TK rfl) rfl rfl rfl) rfl ?_
 refine s0 (loadV (TK rfl) rfl rfl rfl) rfl ?_
 refine s0 (build Try.tab_ok rfl rfl rfl rfl rfl rfl) rfl ?_
 refine AOps.tok 4 fun tk34_10 htk34_10 => ?_
 refine sE (StepE.boxO rfl) rfl (fun _ _ _ ⟨id34_9, hid34_9, e1, e2, e3⟩ => ?_); subst e1 e2 e3
 obtain ⟨ne_id34_9_tk34_10, hid34_9⟩ := Heap.set_fresh hid34_9
 refine AOps.recell id34_9 _ hpG (fun j w cs hh hx => tok_cell 3 4 4 hh (t := tk34_10) hpG hx rfl) ?_
 refine AOps.heq (h' := ((H.set tk34_10 (some (.tok 4 0))).set id34_9 (some (.cells (Usage_recorder.cg (some tk34_10) (Usage_recorder.mk a0 a1 (Sl.nil : Sl TUse))))))) (by first | rfl | (rw [Heap.set_set]; rfl) | (funext n_; simp only [Heap.set]; (repeat' split) <;> first | rfl | (exfalso; simp_all; done) | (simp_all; done))) ?_
 refine s0 assignA rfl ?_
 refine nil ?_
 refine hK8 _ ?_
 clear hK8 K8
 refine seqK fun K11 hK11 => ?_
 refine AWp.draw rfl ?_
 refine DOps.s0 moveA rfl ?_
 refine DOps.s0 (fieldVA (TK rfl) rfl rfl (TK rfl) rfl rfl) rfl ?_
 refine DOps.s0 (loadV (TK rfl) rfl rfl rfl) rfl ?_
 refine DOps.s0 (fieldVA (TK rfl) rfl rfl (TK rfl) rfl rfl) rfl ?_
 refine DOps.s0 (loadV (TK rfl) rfl rfl rfl) rfl ?_
 obtain ⟨x12, gx12, hE⟩ := bindO_some hE
 refine DOps.s0 (callP rfl rfl (fun H => Z22_walk gx12 H)) rfl ?_
 obtain ⟨x13, gx13, hE⟩ := bindO_some hE
 refine DOps.sH (callH rfl rfl (Z45_walk gx13 _ hpG hpG)) rfl ?_
 refine DOps.heq (h' := ((H.set tk34_10 (some (.tok 4 x13.Fout.l.length))).set id34_9 (some (.cells (Usage_recorder.cg (some tk34_10) x13))))) (by first | rfl | (rw [Heap.set_set]; rfl) | (funext n_; simp only [Heap.set]; (repeat' split) <;> first | rfl | (exfalso; simp_all; done) | (simp_all; done))) ?_
 refine DOps.nil (by decide +kernel) ?_
 refine hK11 _ ?_
 clear hK11 K11
 refine seqK fun K14 hK14 => ?_
 refine region ?_
 refine s0 (loadV (TK rfl) rfl rfl rfl) rfl ?_
 refine s0 (fieldVA (TK rfl) rfl rfl (TK rfl) rfl rfl) rfl ?_
 refine s0 (loadV (TK rfl) rfl rfl rfl) rfl ?_
 obtain ⟨x15, gx15, hE⟩ := bindO_some hE
 refine s0 (callP rfl rfl (fun H => Z5_walk gx15 H)) rfl ?_
 refine s0 moveA rfl ?_
 refine s0 (extract rfl rfl) rfl ?_
 refine s0 (extract rfl rfl) rfl ?_
 refine s0 assignA rfl ?_
 refine s0 assignA rfl ?_
 refine nil ?_
 refine hK14 _ ?_
 clear hK14 K14
 refine seqJH (KeepsT.A (k := 7) (KeepsT.A (k := 8) KeepsT.nil)) (fun (z : Usage_recorder) => []) (fun z => ((H.set tk34_10 (some (.tok 4 z.Fout.l.length))).set id34_9 (some (.cells (Usage_recorder.cg (some tk34_10) z))))) (fun z => Z40_j16 x7 z = some r) ?_ ?_
 ·intro K16 hK16
  refine seqK fun K37 hK37 => ?_
  refine region ?_
  refine s0 moveA rfl ?_
  refine sLen (f := strE) (s := x15.1) (TK rfl) rfl rfl rfl rfl fun hL38 => ?_
  refine s0 moveA rfl ?_
  refine nil ?_
  refine hK37 _ ?_
  clear hK37 K37
  refine block ?_
  refine loopH (KeepsT.A (k := 4) (KeepsT.A (k := 7) (KeepsT.A (k := 8) (KeepsT.A (k := 49) (KeepsT.A (k := 50) KeepsT.nil))))) (fun (z : Nat × Nat × Usage_recorder) => [(51, .a (.d (.int .i64 ((z.2.1 : Nat) : Int))))]) (fun z => ((H.set tk34_10 (some (.tok 4 z.2.2.Fout.l.length))).set id34_9 (some (.cells (Usage_recorder.cg (some tk34_10) z.2.2))))) (fun z => z.1) (fun z => Z40_l39 a1 x7 x15 z.1 z.2.1 z.2.2 = some r) ((x15.1.l.length + 1), 0, x13) hE Weak.toA ?_
  rintro ⟨n39, s51_40, y41_id34_9⟩ hE K39 hK39
  try dsimp only at hE
  cases n39 with
  | zero => cases hE
  | succ n39 =>
    rw [Z40_l39] at hE
    refine seqK fun K42 hK42 => ?_
    refine region ?_
    refine s0 (binI rfl rfl rfl) rfl ?_
    refine nil ?_
    refine hK42 _ ?_
    clear hK42 K42
    refine seqK fun K43 hK43 => ?_
    refine condE hE rfl (fun hc44 hE => ?_) (fun hc44 hE => ?_)
    ·try dsimp only at hc44
     have hf44 := of_decide_eq_true hc44
     refine AWp.skip ?_
     refine hK43 _ ?_
     clear hK43 K43
     refine seqK fun K45 hK45 => ?_
     refine block ?_
     refine seqK fun K46 hK46 => ?_
     refine region ?_
     obtain ⟨x47, gx47, hE⟩ := bindO_some hE
     refine s0 (idxMn (f := strE) (n := s51_40) (TK rfl) rfl (TK rfl) rfl rfl rfl gx47) rfl ?_
     refine s0 (loadV (TK rfl) rfl rfl rfl) rfl ?_
     refine s0 assignA rfl ?_
     refine nil ?_
     refine hK46 _ ?_
     clear hK46 K46
     refine seqK fun K48 hK48 => ?_
     refine region ?_
     refine s0 (loadV (TK rfl) rfl rfl rfl) rfl ?_
     refine s0 moveA rfl ?_
     obtain ⟨x49, gx49, hE⟩ := bindO_some hE
     refine s0 (callP rfl rfl (fun H => Z4_walk gx49 H)) rfl ?_
     refine s0 moveA rfl ?_
     refine s0 (extract rfl rfl) rfl ?_
     refine s0 (extract rfl rfl) rfl ?_
     refine sL (allocLA (TK rfl) rfl) rfl ?_
     refine sLn (storeLFA (TK rfl) rfl rfl rfl rfl rfl) ?_
     refine s0 assignA rfl ?_
     refine nil ?_
     refine hK48 _ ?_
     clear hK48 K48
     refine freezeA 13 _ rfl (Keeps.c (k := 4) (by conv => lhs; whnf) (by rfl) (Keeps.c (k := 7) (by conv => lhs; whnf) (by rfl) (Keeps.c (k := 8) (by conv => lhs; whnf) (by rfl) (Keeps.c (k := 49) (by conv => lhs; whnf) (by rfl) (Keeps.c (k := 50) (by conv => lhs; whnf) (by rfl) (Keeps.c (k := 51) (by conv => lhs; whnf) (by rfl) Keeps.nil)))))) ?_
     refine seqK fun K50 hK50 => ?_
     refine region ?_
     refine s0 moveA rfl ?_
     refine s0 (fieldVA (TK rfl) rfl rfl (TK rfl) rfl rfl) rfl ?_
     refine s0 (loadV (TK rfl) rfl rfl rfl) rfl ?_
     obtain ⟨x51, gx51, hE⟩ := bindO_some hE
     refine sH (callH rfl rfl (Z43_walk gx51 _ hpG hpG)) rfl ?_
     refine AOps.heq (h' := ((H.set tk34_10 (some (.tok 4 x51.Fout.l.length))).set id34_9 (some (.cells (Usage_recorder.cg (some tk34_10) x51))))) (by first | rfl | (rw [Heap.set_set]; rfl) | (funext n_; simp only [Heap.set]; (repeat' split) <;> first | rfl | (exfalso; simp_all; done) | (simp_all; done))) ?_
     refine nil ?_
     refine hK50 _ ?_
     clear hK50 K50
     refine region ?_
     refine s0 moveA rfl ?_
     refine s0 (fieldVA (TK rfl) rfl rfl (TK rfl) rfl rfl) rfl ?_
     refine s0 (loadV (TK rfl) rfl rfl rfl) rfl ?_
     refine s0 (fieldVA (TK rfl) rfl rfl (TK rfl) rfl rfl) rfl ?_
     refine s0 (loadV (TK rfl) rfl rfl rfl) rfl ?_
     obtain ⟨x52, gx52, hE⟩ := bindO_some hE
     refine sH (callH rfl rfl (Z45_walk gx52 _ hpG hpG)) rfl ?_
     refine AOps.heq (h' := ((H.set tk34_10 (some (.tok 4 x52.Fout.l.length))).set id34_9 (some (.cells (Usage_recorder.cg (some tk34_10) x52))))) (by first | rfl | (rw [Heap.set_set]; rfl) | (funext n_; simp only [Heap.set]; (repeat' split) <;> first | rfl | (exfalso; simp_all; done) | (simp_all; done))) ?_
     refine nil ?_
     refine hK45 _ ?_
     clear hK45 K45
     refine region ?_
     refine s0 (addIA rfl rfl) rfl ?_
     refine s0 moveA rfl ?_
     refine nil ?_
     exact hK39 _ (n39, (s51_40 + 1), x52) Weak.toA hE (Nat.lt_succ_self _)
    refine AWp.exit ?_
    exact hK16 _ y41_id34_9 Weak.toA hE
 rintro y17_id34_9 hE
 try dsimp only at hE
 unfold Z40_j16 at hE
 refine seqJH (KeepsT.A (k := 8) KeepsT.nil) (fun (z : Usage_recorder) => []) (fun z => ((H.set tk34_10 (some (.tok 4 z.Fout.l.length))).set id34_9 (some (.cells (Usage_recorder.cg (some tk34_10) z))))) (fun z => Z40_j18 z = some r) ?_ ?_
 ·intro K18 hK18
  refine seqK fun K22 hK22 => ?_
  refine region ?_
  refine s0 (fieldVA (TK rfl) rfl rfl (TK rfl) rfl rfl) rfl ?_
  refine s0 (loadV (TK rfl) rfl rfl rfl) rfl ?_
  refine sLen (f := TVar.c) (s := x7.FVars) (TK rfl) rfl rfl rfl rfl fun hL23 => ?_
  refine s0 moveA rfl ?_
  refine nil ?_
  refine hK22 _ ?_
  clear hK22 K22
  refine block ?_
  refine loopH (KeepsT.A (k := 8) (KeepsT.A (k := 73) (KeepsT.A (k := 74) KeepsT.nil))) (fun (z : Nat × Nat × Usage_recorder) => [(75, .a (.d (.int .i64 ((z.2.1 : Nat) : Int))))]) (fun z => ((H.set tk34_10 (some (.tok 4 z.2.2.Fout.l.length))).set id34_9 (some (.cells (Usage_recorder.cg (some tk34_10) z.2.2))))) (fun z => z.1) (fun z => Z40_l24 x7 z.1 z.2.1 z.2.2 = some r) ((x7.FVars.l.length + 1), 0, y17_id34_9) hE Weak.toA ?_
  rintro ⟨n24, s75_25, y26_id34_9⟩ hE K24 hK24
  try dsimp only at hE
  cases n24 with
  | zero => cases hE
  | succ n24 =>
    rw [Z40_l24] at hE
    refine seqK fun K27 hK27 => ?_
    refine region ?_
    refine s0 (binI rfl rfl rfl) rfl ?_
    refine nil ?_
    refine hK27 _ ?_
    clear hK27 K27
    refine seqK fun K28 hK28 => ?_
    refine condE hE rfl (fun hc29 hE => ?_) (fun hc29 hE => ?_)
    ·try dsimp only at hc29
     have hf29 := of_decide_eq_true hc29
     refine AWp.skip ?_
     refine hK28 _ ?_
     clear hK28 K28
     refine seqJH (KeepsT.A (k := 8) (KeepsT.A (k := 73) (KeepsT.A (k := 74) (KeepsT.A (k := 75) KeepsT.nil)))) (fun (z : Usage_recorder) => []) (fun z => ((H.set tk34_10 (some (.tok 4 z.Fout.l.length))).set id34_9 (some (.cells (Usage_recorder.cg (some tk34_10) z))))) (fun z => Z40_j30 s75_25 ((Z40_l24 x7 n24)) z = some r) ?_ ?_
     ·intro K30 hK30
      refine block ?_
      refine seqK fun K32 hK32 => ?_
      refine region ?_
      obtain ⟨x33, gx33, hE⟩ := bindO_some hE
      refine s0 (idxMn (f := TVar.c) (n := s75_25) (TK rfl) rfl (TK rfl) rfl rfl rfl gx33) rfl ?_
      refine s0 (loadV (TK rfl) rfl rfl rfl) rfl ?_
      refine sL (allocLA (TK rfl) rfl) rfl ?_
      refine sLn (storeLFA (TK rfl) rfl rfl rfl rfl rfl) ?_
      refine nil ?_
      refine hK32 _ ?_
      clear hK32 K32
      refine freezeA 16 _ rfl (Keeps.c (k := 8) (by conv => lhs; whnf) (by rfl) (Keeps.c (k := 73) (by conv => lhs; whnf) (by rfl) (Keeps.c (k := 74) (by conv => lhs; whnf) (by rfl) (Keeps.c (k := 75) (by conv => lhs; whnf) (by rfl) Keeps.nil)))) ?_
      refine seqK fun K34 hK34 => ?_
      refine region ?_
      refine s0 (fieldVA (TK rfl) rfl rfl (TK rfl) rfl rfl) rfl ?_
      refine s0 (loadV (TK rfl) rfl rfl rfl) rfl ?_
      refine nil ?_
      refine hK34 _ ?_
      clear hK34 K34
      refine condE hE rfl (fun hc35 hE => ?_) (fun hc35 hE => ?_)
      ·refine region ?_
       refine s0 moveA rfl ?_
       refine s0 (fieldVA (TK rfl) rfl rfl (TK rfl) rfl rfl) rfl ?_
       refine s0 (loadV (TK rfl) rfl rfl rfl) rfl ?_
       refine s0 (fieldVA (TK rfl) rfl rfl (TK rfl) rfl rfl) rfl ?_
       refine s0 (loadV (TK rfl) rfl rfl rfl) rfl ?_
       obtain ⟨x36, gx36, hE⟩ := bindO_some hE
       refine sH (callH rfl rfl (Z47_walk gx36 _ hpG hpG)) rfl ?_
       refine AOps.heq (h' := ((H.set tk34_10 (some (.tok 4 x36.Fout.l.length))).set id34_9 (some (.cells (Usage_recorder.cg (some tk34_10) x36))))) (by first | rfl | (rw [Heap.set_set]; rfl) | (funext n_; simp only [Heap.set]; (repeat' split) <;> first | rfl | (exfalso; simp_all; done) | (simp_all; done))) ?_
       refine nil ?_
       exact hK30 _ x36 Weak.toA hE
      refine AWp.skip ?_
      exact hK30 _ y26_id34_9 Weak.toA hE
     rintro y31_id34_9 hE
     try dsimp only at hE
     unfold Z40_j30 at hE
     refine region ?_
     refine s0 (addIA rfl rfl) rfl ?_
     refine s0 moveA rfl ?_
     refine nil ?_
     exact hK24 _ (n24, (s75_25 + 1), y31_id34_9) Weak.toA hE (Nat.lt_succ_self _)
    refine AWp.exit ?_
    exact hK18 _ y26_id34_9 Weak.toA hE
 rintro y19_id34_9 hE
 try dsimp only at hE
 unfold Z40_j18 at hE
 refine seqK fun K20 hK20 => ?_
 refine region ?_
 refine s0 moveA rfl ?_
 refine s0 (nilP rfl) rfl ?_
 refine s0 (fieldP (TK rfl) rfl rfl (TK rfl) rfl rfl) rfl ?_
 refine s0 (loadP (TK rfl) rfl rfl hpG rfl) rfl ?_
 obtain ⟨x21, gx21, hE⟩ := bindO_some hE
 refine s0 (callP rfl rfl (fun H => Z41_walk gx21 H)) rfl ?_
 refine s0 assignA rfl ?_
 refine nil ?_
 refine hK20 _ ?_
 clear hK20 K20
 refine AWp.ret ?_
 repeat (first | refine xBlock_ret ?_ | refine xThen_ret ?_)
 obtain rfl := Option.some.inj hE
 refine retQ.retF H rfl ⟨rfl, rfl⟩ ?_
 intro id_ o_ he_
 have e_tk34_10 : id_ ≠ tk34_10 := fun e_ => by subst e_; simp_all [Heap.set]
 have e_id34_9 : id_ ≠ id34_9 := fun e_ => by subst e_; simp_all [Heap.set]
 rw [← he_]
 simp only [Heap.set] at he_ ⊢
 (repeat' split) <;> simp_all
def Z10  : Option Bool := (Z11 ).bind fun x3 => (Z40 x3.1 x3.2 (0 : Int)).bind fun x6 => (Z14 x6 (⟨false, [(TUse.mk ([67, 111, 108, 111, 114] : Bs) ([82, 69, 68] : Bs) ([] : Bs) (1 : Int)), (TUse.mk ([81, 117, 101, 114, 121] : Bs) ([109, 101] : Bs) ([] : Bs) (2 : Int)), (TUse.mk ([81, 117, 101, 114, 121] : Bs) ([109, 101] : Bs) ([99] : Bs) (1 : Int)), (TUse.mk ([85, 115, 101, 114] : Bs) ([110, 97, 109, 101] : Bs) ([] : Bs) (2 : Int))]⟩ : Sl TUse)).bind fun x10 => guardO (x10) (Z39 x6 ([81, 117, 101, 114, 121] : Bs) ([109, 101] : Bs) ([] : Bs)) (0 : Int) fun x11 => guardO ((x10 && (decide (x11 = (2 : Int))))) (Z38 (⟨false, [(TUse.mk ([65] : Bs) ([120] : Bs) ([] : Bs) (1 : Int))]⟩ : Sl TUse) (⟨false, [(TUse.mk ([65] : Bs) ([120] : Bs) ([] : Bs) (2 : Int))]⟩ : Sl TUse)) (Sl.nil : Sl TUse) fun x12 => guardO ((x10 && (decide (x11 = (2 : Int))))) (Z14 x12 (⟨false, [(TUse.mk ([65] : Bs) ([120] : Bs) ([] : Bs) (3 : Int))]⟩ : Sl TUse)) false fun x13 => guardO (((x10 && (decide (x11 = (2 : Int)))) && x13)) (appC 56 (⟨false, [(TUse.mk ([65] : Bs) ([120] : Bs) ([] : Bs) (1 : Int))]⟩ : Sl TUse) (⟨false, [(TUse.mk ([65] : Bs) ([120] : Bs) ([] : Bs) (2 : Int))]⟩ : Sl TUse)) (Sl.nil : Sl TUse) fun x14 => guardO (((x10 && (decide (x11 = (2 : Int)))) && x13)) (Z41 x14) (Sl.nil : Sl TUse) fun x15 => guardO ((((x10 && (decide (x11 = (2 : Int)))) && x13) && (decide (((x15.l.length : Nat) : Int) = (1 : Int))))) (Z40 x3.1 x3.2 (1 : Int)) (Sl.nil : Sl TUse) fun x16 => some ((((x10 && (decide (x11 = (2 : Int)))) && x13) && (decide (((x15.l.length : Nat) : Int) = (1 : Int)))) && (decide (((x16.l.length : Nat) : Int) = (0 : Int))))
theorem Z10_walk    {r : Bool} (hE : Z10  = some r) (H : Heap)  : ACalls Try.prog 5 [] H fun v h' => v = .a (.d (.bool r)) ∧ h' = H := by
 unfold Z10 at hE
 refine ACalls.of_wp (fn := Try.f5) (c := _) Try.tab_ok (fun _ _ => Try.call5 _ _) Try.func5 rfl (n := 54) rfl (rs := [.tmp 0]) rfl rfl ?_
 refine AWp.tok 4 fun tk1 htk1 => ?_
 refine seqK fun K1 hK1 => ?_
 refine region ?_
 refine s0 assignA rfl ?_
 refine nil ?_
 refine hK1 _ ?_
 clear hK1 K1
 refine seqK fun K2 hK2 => ?_
 refine region ?_
 obtain ⟨x3, gx3, hE⟩ := bindO_some hE
 refine s0 (callP rfl rfl (fun H => Z11_walk gx3 H)) rfl ?_
 refine s0 moveA rfl ?_
 refine s0 (extract rfl rfl) rfl ?_
 refine s0 (extract rfl rfl) rfl ?_
 refine sL (allocLA (TK rfl) rfl) rfl ?_
 refine sL (allocLA (TK rfl) rfl) rfl ?_
 refine sLn (storeLFA (TK rfl) rfl rfl rfl rfl rfl) ?_
 refine sLn (storeLFA (TK rfl) rfl rfl rfl rfl rfl) ?_
 refine nil ?_
 refine hK2 _ ?_
 clear hK2 K2
 refine freezeA 2 _ rfl (Keeps.c (k := 1) (by conv => lhs; whnf) (by rfl) Keeps.nil) ?_
 refine freezeA 1 _ rfl (Keeps.c (k := 2) (by conv => lhs; whnf) (by rfl) Keeps.nil) ?_
 refine seqK fun K4 hK4 => ?_
 refine region ?_
 refine s0 (build Try.tab_ok rfl rfl rfl rfl rfl rfl) rfl ?_
 refine s0 (build Try.tab_ok rfl rfl rfl rfl rfl rfl) rfl ?_
 refine s0 (build Try.tab_ok rfl rfl rfl rfl rfl rfl) rfl ?_
 refine s0 (build Try.tab_ok rfl rfl rfl rfl rfl rfl) rfl ?_
 refine s0 (buildSlice (TK rfl) rfl (TK rfl) rfl rfl rfl rfl rfl rfl) rfl ?_
 refine s0 assignA rfl ?_
 refine nil ?_
 refine hK4 _ ?_
 clear hK4 K4
 refine seqK fun K5 hK5 => ?_
 refine region ?_
 refine s0 (loadV (TK rfl) rfl rfl rfl) rfl ?_
 refine s0 (loadV (TK rfl) rfl rfl rfl) rfl ?_
 obtain ⟨x6, gx6, hE⟩ := bindO_some hE
 refine s0 (callP rfl rfl (fun H => Z40_walk gx6 H)) rfl ?_
 refine s0 assignA rfl ?_
 refine nil ?_
 refine hK5 _ ?_
 clear hK5 K5
 refine seqK fun K7 hK7 => ?_
 refine region ?_
 refine s0 (build Try.tab_ok rfl rfl rfl rfl rfl rfl) rfl ?_
 refine s0 (buildSliceF (TK rfl) rfl (TK rfl) rfl rfl rfl rfl rfl rfl) rfl ?_
 refine s0 assignA rfl ?_
 refine nil ?_
 refine hK7 _ ?_
 clear hK7 K7
 refine seqK fun K8 hK8 => ?_
 refine region ?_
 refine s0 (build Try.tab_ok rfl rfl rfl rfl rfl rfl) rfl ?_
 refine s0 (buildSlice (TK rfl) rfl (TK rfl) rfl rfl rfl rfl rfl rfl) rfl ?_
 refine s0 assignA rfl ?_
 refine nil ?_
 refine hK8 _ ?_
 clear hK8 K8
 refine seqK fun K9 hK9 => ?_
 refine region ?_
 refine s0 moveA rfl ?_
 refine s0 moveA rfl ?_
 obtain ⟨x10, gx10, hE⟩ := bindO_some hE
 refine s0 (callP rfl rfl (fun H => Z14_walk gx10 H)) rfl ?_
 refine s0 moveA rfl ?_
 refine gC rfl rfl (fun hC => moveA) rfl ?_
 obtain ⟨x11, gx11, hE⟩ := guardO_some hE
 refine gC rfl rfl (fun hC => ungdA (k := 27) rfl (callP rfl rfl (fun H => Z39_walk (gx11 hC) H))) rfl ?_
 refine gC rfl rfl (fun hC => ungdA (k := 28) rfl (binI rfl rfl rfl)) rfl ?_
 refine s0 (pickAndA rfl rfl rfl) rfl ?_
 refine s0 moveA rfl ?_
 refine gC rfl rfl (fun hC => moveA) rfl ?_
 refine AOps.gdfData 32 rfl ?_
 refine gC rfl rfl (fun hC => moveA) rfl ?_
 obtain ⟨x12, gx12, hE⟩ := guardO_some hE
 refine gC rfl rfl (fun hC => ungdA (k := 32) rfl (ungdA (k := 33) rfl (callP rfl rfl (fun H => Z38_walk (gx12 hC) H)))) rfl ?_
 refine gC rfl rfl (fun hC => build Try.tab_ok rfl rfl rfl rfl rfl rfl) rfl ?_
 refine gC rfl rfl (fun hC => ungdA (k := 35) rfl (buildSlice (TK rfl) rfl (TK rfl) rfl rfl rfl rfl rfl rfl)) rfl ?_
 obtain ⟨x13, gx13, hE⟩ := guardO_some hE
 refine gC rfl rfl (fun hC => ungdA (k := 34) rfl (ungdA (k := 36) rfl (callP rfl rfl (fun H => Z14_walk (gx13 hC) H)))) rfl ?_
 refine s0 (pickAndA rfl rfl rfl) rfl ?_
 refine s0 moveA rfl ?_
 refine gC rfl rfl (fun hC => moveA) rfl ?_
 refine gC rfl rfl (fun hC => moveA) rfl ?_
 obtain ⟨x14, gx14, hE⟩ := guardO_some hE
 refine gC rfl rfl (fun hC => ungdF (k := 40) rfl (by first | exact hC | exact andL hC | exact andL (andL hC) | exact andL (andL (andL hC)) | exact andR hC | simp_all) (ungdA (k := 41) rfl (appFM (f := TUse.c) (TK rfl) rfl (TK rfl) (TK rfl) ⟨_, rfl⟩ rfl rfl (by decide) rfl rfl rfl (by intro q h; cases h <;> decide) rfl rfl (gx14 hC)))) rfl ?_
 obtain ⟨x15, gx15, hE⟩ := guardO_some hE
 refine gC rfl rfl (fun hC => ungdA (k := 42) rfl (callP rfl rfl (fun H => Z41_walk (gx15 hC) H))) rfl ?_
 refine gC rfl rfl (fun hC => ungdA (k := 43) rfl (lenM' (f := TUse.c) (s := x15) (TK rfl) rfl rfl rfl)) rfl ?_
 refine gC rfl rfl (fun hC => ungdA (k := 44) rfl (binI rfl rfl rfl)) rfl ?_
 refine s0 (pickAndA rfl rfl rfl) rfl ?_
 refine s0 moveA rfl ?_
 refine gC rfl rfl (fun hC => loadV (TK rfl) rfl rfl rfl) rfl ?_
 refine gC rfl rfl (fun hC => loadV (TK rfl) rfl rfl rfl) rfl ?_
 obtain ⟨x16, gx16, hE⟩ := guardO_some hE
 refine gC rfl rfl (fun hC => ungdA (k := 48) rfl (ungdA (k := 49) rfl (callP rfl rfl (fun H => Z40_walk (gx16 hC) H)))) rfl ?_
 refine gC rfl rfl (fun hC => ungdA (k := 50) rfl (lenM' (f := TUse.c) (s := x16) (TK rfl) rfl rfl rfl)) rfl ?_
 refine gC rfl rfl (fun hC => ungdA (k := 51) rfl (binI rfl rfl rfl)) rfl ?_
 refine s0 (pickAndA rfl rfl rfl) rfl ?_
 refine s0 assignA rfl ?_
 refine nil ?_
 refine hK9 _ ?_
 clear hK9 K9
 refine AWp.ret ?_
 repeat (first | refine xBlock_ret ?_ | refine xThen_ret ?_)
 obtain rfl := Option.some.inj hE
 refine retQ.retF H rfl ⟨rfl, rfl⟩ ?_
 first | exact Heap.sub_set htk1 | (simp only [Heap.set_set]; exact Heap.sub_set htk1)
end Go.Proofs

namespace Go.Proofs
open Go Go.Ab
open AOps Cert AWp
def Z13_j3  (s9_4 : Int) : Option Int := some s9_4
def Z13_j14 (s10_9 : Nat) (k_next_7 : Int → Nat → Option Int) (s9_15 : Int) : Option Int := k_next_7 s9_15 (s10_9 + 1)
def Z13_l7 (a0 : (Sl TUse)) (a1 : Bs) (a2 : Bs) (a3 : Bs)  : Nat → Int → Nat → Option Int
 | 0, _, _ => none
 | n7 + 1, s9_8, s10_9 => bif (decide (((s10_9 : Nat) : Int) < ((a0.l.length : Nat) : Int))) then ((a0.l[s10_9]?).bind fun x17 => guardO (((x17.FType == a1))) (a0.l[s10_9]?) TUse.zero fun x18 => guardO ((((x17.FType == a1)) && ((x18.FField == a2)))) (a0.l[s10_9]?) TUse.zero fun x19 => bif ((((x17.FType == a1)) && ((x18.FField == a2))) && ((x19.FArg == a3))) then ((a0.l[s10_9]?).bind fun x21 => Z13_j14 s10_9 ((Z13_l7 a0 a1 a2 a3 n7)) (IntKind.wrap .i64 (s9_8 + x21.FCount))) else (Z13_j14 s10_9 ((Z13_l7 a0 a1 a2 a3 n7)) s9_8)) else (Z13_j3   s9_8)
def Z13 (a0 : (Sl TUse)) (a1 : Bs) (a2 : Bs) (a3 : Bs) : Option Int := Z13_l7 a0 a1 a2 a3 (a0.l.length + 1) (0 : Int) 0
theorem Z13_walk {a0 : (Sl TUse)} {a1 : Bs} {a2 : Bs} {a3 : Bs} {w0 : Option Nat}  {r : Int} (hE : Z13 a0 a1 a2 a3 = some r) (H : Heap)  : ACalls Try.prog 12 [.d (Sl.d 4 TUse.c w0 a0), .d (.str a1), .d (.str a2), .d (.str a3)] H fun v h' => v = .a (.d (.int .i64 r)) ∧ h' = H := by
 unfold Z13 at hE
 refine ACalls.of_wp (fn := Try.f12) (c := _) Try.tab_ok (fun _ _ => Try.call12 _ _) Try.func12 rfl (n := 50) rfl (rs := [.tmp 8]) rfl rfl ?_
 refine seqK fun K1 hK1 => ?_
 refine region ?_
 refine s0 assignA rfl ?_
 refine nil ?_
 refine hK1 _ ?_
 clear hK1 K1
 refine seqK fun K2 hK2 => ?_
 refine region ?_
 refine s0 assignA rfl ?_
 refine nil ?_
 refine hK2 _ ?_
 clear hK2 K2
 refine seqJH KeepsT.nil (fun (z : Int) => [(9, .a (.d (.int .i64 z)))]) (fun z => H) (fun z => Z13_j3 z = some r) ?_ ?_
 ·intro K3 hK3
  refine seqK fun K6 hK6 => ?_
  refine region ?_
  refine s0 assignA rfl ?_
  refine nil ?_
  refine hK6 _ ?_
  clear hK6 K6
  refine block ?_
  refine loopH (KeepsT.A (k := 0) (KeepsT.A (k := 1) (KeepsT.A (k := 2) (KeepsT.A (k := 3) KeepsT.nil)))) (fun (z : Nat × Int × Nat) => [(9, .a (.d (.int .i64 z.2.1))), (10, .a (.d (.int .i64 ((z.2.2 : Nat) : Int))))]) (fun z => H) (fun z => z.1) (fun z => Z13_l7 a0 a1 a2 a3 z.1 z.2.1 z.2.2 = some r) ((a0.l.length + 1), (0 : Int), 0) hE Weak.toA ?_
  rintro ⟨n7, s9_8, s10_9⟩ hE K7 hK7
  try dsimp only at hE
  cases n7 with
  | zero => cases hE
  | succ n7 =>
    rw [Z13_l7] at hE
    refine seqK fun K10 hK10 => ?_
    refine seqK fun K11 hK11 => ?_
    refine region ?_
    refine s0 moveA rfl ?_
    refine s0 moveA rfl ?_
    refine sLen (f := TUse.c) (s := a0) (TK rfl) rfl rfl rfl rfl fun hL12 => ?_
    refine s0 (binI rfl rfl rfl) rfl ?_
    refine nil ?_
    refine hK11 _ ?_
    clear hK11 K11
    refine condE hE rfl (fun hc13 hE => ?_) (fun hc13 hE => ?_)
    ·try dsimp only at hc13
     have hf13 := of_decide_eq_true hc13
     refine AWp.skip ?_
     refine hK10 _ ?_
     clear hK10 K10
     refine seqJH (KeepsT.A (k := 0) (KeepsT.A (k := 1) (KeepsT.A (k := 2) (KeepsT.A (k := 3) (KeepsT.A (k := 10) KeepsT.nil))))) (fun (z : Int) => [(9, .a (.d (.int .i64 z)))]) (fun z => H) (fun z => Z13_j14 s10_9 ((Z13_l7 a0 a1 a2 a3 n7)) z = some r) ?_ ?_
     ·intro K14 hK14
      refine block ?_
      refine seqK fun K16 hK16 => ?_
      refine region ?_
      refine s0 moveA rfl ?_
      refine s0 moveA rfl ?_
      obtain ⟨x17, gx17, hE⟩ := bindO_some hE
      refine s0 (idxMn (f := TUse.c) (n := s10_9) (TK rfl) rfl (TK rfl) rfl rfl rfl gx17) rfl ?_
      refine s0 (fieldVA (TK rfl) rfl rfl (TK rfl) rfl rfl) rfl ?_
      refine s0 (loadV (TK rfl) rfl rfl rfl) rfl ?_
      refine s0 moveA rfl ?_
      refine s0 (binS rfl rfl rfl) rfl ?_
      refine s0 moveA rfl ?_
      refine gC rfl rfl (fun hC => moveA) rfl ?_
      refine gC rfl rfl (fun hC => moveA) rfl ?_
      obtain ⟨x18, gx18, hE⟩ := guardO_some hE
      refine gC rfl rfl (fun hC => ungdA (k := 25) rfl (ungdA (k := 26) rfl (idxMn (f := TUse.c) (n := s10_9) (TK rfl) rfl (TK rfl) rfl rfl rfl (gx18 hC)))) rfl ?_
      refine gC rfl rfl (fun hC => ungdA (k := 27) rfl (fieldVA (TK rfl) rfl rfl (TK rfl) rfl rfl)) rfl ?_
      refine gC rfl rfl (fun hC => ungdA (k := 28) rfl (loadV (TK rfl) rfl rfl rfl)) rfl ?_
      refine gC rfl rfl (fun hC => moveA) rfl ?_
      refine gC rfl rfl (fun hC => ungdA (k := 29) rfl (ungdA (k := 30) rfl (binS rfl rfl rfl))) rfl ?_
      refine s0 (pickAndA rfl rfl rfl) rfl ?_
      refine s0 moveA rfl ?_
      refine gC rfl rfl (fun hC => moveA) rfl ?_
      refine gC rfl rfl (fun hC => moveA) rfl ?_
      obtain ⟨x19, gx19, hE⟩ := guardO_some hE
      refine gC rfl rfl (fun hC => ungdA (k := 34) rfl (ungdA (k := 35) rfl (idxMn (f := TUse.c) (n := s10_9) (TK rfl) rfl (TK rfl) rfl rfl rfl (gx19 hC)))) rfl ?_
      refine gC rfl rfl (fun hC => ungdA (k := 36) rfl (fieldVA (TK rfl) rfl rfl (TK rfl) rfl rfl)) rfl ?_
      refine gC rfl rfl (fun hC => ungdA (k := 37) rfl (loadV (TK rfl) rfl rfl rfl)) rfl ?_
      refine gC rfl rfl (fun hC => moveA) rfl ?_
      refine gC rfl rfl (fun hC => ungdA (k := 38) rfl (ungdA (k := 39) rfl (binS rfl rfl rfl))) rfl ?_
      refine s0 (pickAndA rfl rfl rfl) rfl ?_
      refine nil ?_
      refine hK16 _ ?_
      clear hK16 K16
      refine condE hE rfl (fun hc20 hE => ?_) (fun hc20 hE => ?_)
      ·refine region ?_
       refine s0 moveA rfl ?_
       refine s0 moveA rfl ?_
       refine s0 moveA rfl ?_
       obtain ⟨x21, gx21, hE⟩ := bindO_some hE
       refine s0 (idxMn (f := TUse.c) (n := s10_9) (TK rfl) rfl (TK rfl) rfl rfl rfl gx21) rfl ?_
       refine s0 (fieldVA (TK rfl) rfl rfl (TK rfl) rfl rfl) rfl ?_
       refine s0 (loadV (TK rfl) rfl rfl rfl) rfl ?_
       refine s0 (binI rfl rfl rfl) rfl ?_
       refine s0 assignA rfl ?_
       refine nil ?_
       exact hK14 _ (IntKind.wrap .i64 (s9_8 + x21.FCount)) Weak.toA hE
      refine AWp.skip ?_
      exact hK14 _ s9_8 Weak.toA hE
     rintro s9_15 hE
     try dsimp only at hE
     unfold Z13_j14 at hE
     refine region ?_
     refine s0 moveA rfl ?_
     refine s0 (addIA rfl rfl) rfl ?_
     refine s0 assignA rfl ?_
     refine nil ?_
     exact hK7 _ (n7, s9_15, (s10_9 + 1)) Weak.toA hE (Nat.lt_succ_self _)
    refine AWp.exit ?_
    exact hK3 _ s9_8 Weak.toA hE
 rintro s9_4 hE
 try dsimp only at hE
 unfold Z13_j3 at hE
 refine seqK fun K5 hK5 => ?_
 refine region ?_
 refine s0 moveA rfl ?_
 refine s0 assignA rfl ?_
 refine nil ?_
 refine hK5 _ ?_
 clear hK5 K5
 refine AWp.ret ?_
 repeat (first | refine xBlock_ret ?_ | refine xThen_ret ?_)
 obtain rfl := Option.some.inj hE
 refine retQ.retF H rfl ⟨rfl, rfl⟩ ?_
 exact (fun _ _ h => h)
def Z8 (a0 : (Sl TUse)) (a1 : (Sl TUse)) (a2 : TUse) : Option Bool := bif ((decide ((200 : Int) < ((a0.l.length : Nat) : Int))) || (decide ((200 : Int) < ((a1.l.length : Nat) : Int)))) then ((Z10 ).bind fun x7 => some x7) else ((Z39 a0 a2.FType a2.FField a2.FArg).bind fun x9 => (Z39 a1 a2.FType a2.FField a2.FArg).bind fun x11 => (Z13 a0 a2.FType a2.FField a2.FArg).bind fun x13 => guardO ((decide (x9 = x13))) (Z41 a0) (Sl.nil : Sl TUse) fun x14 => guardO ((decide (x9 = x13))) (Z39 x14 a2.FType a2.FField a2.FArg) (0 : Int) fun x15 => guardO (((decide (x9 = x13)) && (decide (x15 = x9)))) (Z38 a0 a1) (Sl.nil : Sl TUse) fun x16 => guardO (((decide (x9 = x13)) && (decide (x15 = x9)))) (Z39 x16 a2.FType a2.FField a2.FArg) (0 : Int) fun x17 => guardO ((((decide (x9 = x13)) && (decide (x15 = x9))) && (decide (x17 = (IntKind.wrap .i64 (x9 + x11)))))) (Z10 ) false fun x18 => some ((((decide (x9 = x13)) && (decide (x15 = x9))) && (decide (x17 = (IntKind.wrap .i64 (x9 + x11))))) && x18))
theorem Z8_walk {a0 : (Sl TUse)} {a1 : (Sl TUse)} {a2 : TUse} {w0 : Option Nat} {w1 : Option Nat}  {r : Bool} (hE : Z8 a0 a1 a2 = some r) (H : Heap)  : ACalls Try.prog 4 [.d (Sl.d 4 TUse.c w0 a0), .d (Sl.d 4 TUse.c w1 a1), .agg (TUse.c a2)] H fun v h' => v = .a (.d (.bool r)) ∧ h' = H := by
 unfold Z8 at hE
 refine ACalls.of_wp (fn := Try.f4) (c := _) Try.tab_ok (fun _ _ => Try.call4 _ _) Try.func4 rfl (n := 76) rfl (rs := [.tmp 6]) rfl rfl ?_
 refine seqK fun K1 hK1 => ?_
 refine region ?_
 refine s0 (boxV rfl) rfl ?_
 refine s0 assignA rfl ?_
 refine nil ?_
 refine hK1 _ ?_
 clear hK1 K1
 refine seqK fun K2 hK2 => ?_
 refine seqK fun K3 hK3 => ?_
 refine region ?_
 refine s0 moveA rfl ?_
 refine sLen (f := TUse.c) (s := a0) (TK rfl) rfl rfl rfl rfl fun hL4 => ?_
 refine s0 (binI rfl rfl rfl) rfl ?_
 refine s0 moveA rfl ?_
 refine gC rfl rfl (fun hC => moveA) rfl ?_
 refine gC rfl rfl (fun hC => ungdA (k := 13) rfl (lenM' (f := TUse.c) (s := a1) (TK rfl) rfl rfl rfl)) rfl ?_
 refine gC rfl rfl (fun hC => ungdA (k := 14) rfl (binI rfl rfl rfl)) rfl ?_
 refine s0 (pickOrA rfl rfl rfl) rfl ?_
 refine nil ?_
 refine hK3 _ ?_
 clear hK3 K3
 refine condE hE rfl (fun hc5 hE => ?_) (fun hc5 hE => ?_)
 ·refine seqK fun K6 hK6 => ?_
  refine region ?_
  obtain ⟨x7, gx7, hE⟩ := bindO_some hE
  refine s0 (callP rfl rfl (fun H => Z10_walk gx7 H)) rfl ?_
  refine s0 assignA rfl ?_
  refine nil ?_
  refine hK6 _ ?_
  clear hK6 K6
  refine AWp.ret ?_
  repeat (first | refine xBlock_ret ?_ | refine xThen_ret ?_)
  obtain rfl := Option.some.inj hE
  refine retQ.retF H rfl ⟨rfl, rfl⟩ ?_
  exact (fun _ _ h => h)
 refine AWp.skip ?_
 refine hK2 _ ?_
 clear hK2 K2
 refine seqK fun K8 hK8 => ?_
 refine region ?_
 refine s0 moveA rfl ?_
 refine s0 (fieldVA (TK rfl) rfl rfl (TK rfl) rfl rfl) rfl ?_
 refine s0 (loadV (TK rfl) rfl rfl rfl) rfl ?_
 refine s0 (fieldVA (TK rfl) rfl rfl (TK rfl) rfl rfl) rfl ?_
 refine s0 (loadV (TK rfl) rfl rfl rfl) rfl ?_
 refine s0 (fieldVA (TK rfl) rfl rfl (TK rfl) rfl rfl) rfl ?_
 refine s0 (loadV (TK rfl) rfl rfl rfl) rfl ?_
 obtain ⟨x9, gx9, hE⟩ := bindO_some hE
 refine s0 (callP rfl rfl (fun H => Z39_walk gx9 H)) rfl ?_
 refine s0 assignA rfl ?_
 refine nil ?_
 refine hK8 _ ?_
 clear hK8 K8
 refine seqK fun K10 hK10 => ?_
 refine region ?_
 refine s0 moveA rfl ?_
 refine s0 (fieldVA (TK rfl) rfl rfl (TK rfl) rfl rfl) rfl ?_
 refine s0 (loadV (TK rfl) rfl rfl rfl) rfl ?_
 refine s0 (fieldVA (TK rfl) rfl rfl (TK rfl) rfl rfl) rfl ?_
 refine s0 (loadV (TK rfl) rfl rfl rfl) rfl ?_
 refine s0 (fieldVA (TK rfl) rfl rfl (TK rfl) rfl rfl) rfl ?_
 refine s0 (loadV (TK rfl) rfl rfl rfl) rfl ?_
 obtain ⟨x11, gx11, hE⟩ := bindO_some hE
 refine s0 (callP rfl rfl (fun H => Z39_walk gx11 H)) rfl ?_
 refine s0 assignA rfl ?_
 refine nil ?_
 refine hK10 _ ?_
 clear hK10 K10
 refine seqK fun K12 hK12 => ?_
 refine AWp.draw rfl ?_
 refine DOps.s0 moveA rfl ?_
 refine DOps.s0 moveA rfl ?_
 refine DOps.s0 (fieldVA (TK rfl) rfl rfl (TK rfl) rfl rfl) rfl ?_
 refine DOps.s0 (loadV (TK rfl) rfl rfl rfl) rfl ?_
 refine DOps.s0 (fieldVA (TK rfl) rfl rfl (TK rfl) rfl rfl) rfl ?_
 refine DOps.s0 (loadV (TK rfl) rfl rfl rfl) rfl ?_
 refine DOps.s0 (fieldVA (TK rfl) rfl rfl (TK rfl) rfl rfl) rfl ?_
 refine DOps.s0 (loadV (TK rfl) rfl rfl rfl) rfl ?_
 obtain ⟨x13, gx13, hE⟩ := bindO_some hE
 refine DOps.s0 (callP rfl rfl (fun H => Z13_walk gx13 H)) rfl ?_
 refine DOps.s0 (binI rfl rfl rfl) rfl ?_
 refine DOps.s0 moveA rfl ?_
 refine DOps.gC rfl rfl (fun hC => moveA) rfl ?_
 obtain ⟨x14, gx14, hE⟩ := guardO_some hE
 refine DOps.gC rfl rfl (fun hC => ungdA (k := 45) rfl (callP rfl rfl (fun H => Z41_walk (gx14 hC) H))) rfl ?_
 refine DOps.gC rfl rfl (fun hC => fieldVA (TK rfl) rfl rfl (TK rfl) rfl rfl) rfl ?_
 refine DOps.gC rfl rfl (fun hC => ungdA (k := 47) rfl (loadV (TK rfl) rfl rfl rfl)) rfl ?_
 refine DOps.gC rfl rfl (fun hC => fieldVA (TK rfl) rfl rfl (TK rfl) rfl rfl) rfl ?_
 refine DOps.gC rfl rfl (fun hC => ungdA (k := 49) rfl (loadV (TK rfl) rfl rfl rfl)) rfl ?_
 refine DOps.gC rfl rfl (fun hC => fieldVA (TK rfl) rfl rfl (TK rfl) rfl rfl) rfl ?_
 refine DOps.gC rfl rfl (fun hC => ungdA (k := 51) rfl (loadV (TK rfl) rfl rfl rfl)) rfl ?_
 obtain ⟨x15, gx15, hE⟩ := guardO_some hE
 refine DOps.gC rfl rfl (fun hC => ungdA (k := 46) rfl (ungdA (k := 48) rfl (ungdA (k := 50) rfl (ungdA (k := 52) rfl (callP rfl rfl (fun H => Z39_walk (gx15 hC) H)))))) rfl ?_
 refine DOps.gC rfl rfl (fun hC => moveA) rfl ?_
 refine DOps.gC rfl rfl (fun hC => ungdA (k := 53) rfl (ungdA (k := 54) rfl (binI rfl rfl rfl))) rfl ?_
 refine DOps.s0 (pickAndA rfl rfl rfl) rfl ?_
 refine DOps.s0 moveA rfl ?_
 refine DOps.gC rfl rfl (fun hC => moveA) rfl ?_
 refine DOps.gC rfl rfl (fun hC => moveA) rfl ?_
 obtain ⟨x16, gx16, hE⟩ := guardO_some hE
 refine DOps.gC rfl rfl (fun hC => ungdA (k := 58) rfl (ungdA (k := 59) rfl (callP rfl rfl (fun H => Z38_walk (gx16 hC) H)))) rfl ?_
 refine DOps.gC rfl rfl (fun hC => fieldVA (TK rfl) rfl rfl (TK rfl) rfl rfl) rfl ?_
 refine DOps.gC rfl rfl (fun hC => ungdA (k := 61) rfl (loadV (TK rfl) rfl rfl rfl)) rfl ?_
 refine DOps.gC rfl rfl (fun hC => fieldVA (TK rfl) rfl rfl (TK rfl) rfl rfl) rfl ?_
 refine DOps.gC rfl rfl (fun hC => ungdA (k := 63) rfl (loadV (TK rfl) rfl rfl rfl)) rfl ?_
 refine DOps.gC rfl rfl (fun hC => fieldVA (TK rfl) rfl rfl (TK rfl) rfl rfl) rfl ?_
 refine DOps.gC rfl rfl (fun hC => ungdA (k := 65) rfl (loadV (TK rfl) rfl rfl rfl)) rfl ?_
 obtain ⟨x17, gx17, hE⟩ := guardO_some hE
 refine DOps.gC rfl rfl (fun hC => ungdA (k := 60) rfl (ungdA (k := 62) rfl (ungdA (k := 64) rfl (ungdA (k := 66) rfl (callP rfl rfl (fun H => Z39_walk (gx17 hC) H)))))) rfl ?_
 refine DOps.gC rfl rfl (fun hC => moveA) rfl ?_
 refine DOps.gC rfl rfl (fun hC => moveA) rfl ?_
 refine DOps.gC rfl rfl (fun hC => ungdA (k := 68) rfl (ungdA (k := 69) rfl (binI rfl rfl rfl))) rfl ?_
 refine DOps.gC rfl rfl (fun hC => ungdA (k := 67) rfl (ungdA (k := 70) rfl (binI rfl rfl rfl))) rfl ?_
 refine DOps.s0 (pickAndA rfl rfl rfl) rfl ?_
 refine DOps.s0 moveA rfl ?_
 obtain ⟨x18, gx18, hE⟩ := guardO_some hE
 refine DOps.gC rfl rfl (fun hC => callP rfl rfl (fun H => Z10_walk (gx18 hC) H)) rfl ?_
 refine DOps.s0 (pickAndA rfl rfl rfl) rfl ?_
 refine DOps.s0 assignA rfl ?_
 refine DOps.nil (by decide +kernel) ?_
 refine hK12 _ ?_
 clear hK12 K12
 refine AWp.ret ?_
 repeat (first | refine xBlock_ret ?_ | refine xThen_ret ?_)
 obtain rfl := Option.some.inj hE
 refine retQ.retF H rfl ⟨rfl, rfl⟩ ?_
 exact (fun _ _ h => h)
end Go.Proofs
