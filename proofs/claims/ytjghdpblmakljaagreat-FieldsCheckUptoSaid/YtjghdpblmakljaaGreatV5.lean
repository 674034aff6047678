import Derived.Test.YtjghdpblmakljaaGreatV4
set_option maxRecDepth 100000
set_option maxHeartbeats 2000000
set_option linter.unusedVariables false
set_option linter.unusedSimpArgs false
namespace Go.Proofs
open Go Go.Ab
open AOps Cert AWp
def Z93 (a0 : (Sl TDir)) (a1 : (TDir → Option Bool)) : Option Bool := (Z98 a0 a1).bind fun x3 => some (decide ((0 : Int) ≤ x3))
theorem Z93_walk {a0 : (Sl TDir)} {a1 : (TDir → Option Bool)} {w0 : Option Nat} {cl1 : List D} {k1 : Nat} {r : Bool} (hE : Z93 a0 a1 = some r) (H : Heap) (hf1 : ∀ x0 r, a1 x0 = some r → ∀ H, ACalls Tryz.prog k1 ([.agg (TDir.c x0)] ++ cl1.map A.d) H fun v h' => v = .a (.d (.bool r)) ∧ h' = H) : ACalls Tryz.prog 92 [.d (Sl.d 2 TDir.c w0 a0), .d (.func k1 cl1)] H fun v h' => v = .a (.d (.bool r)) ∧ h' = H := by
 unfold Z93 at hE
 refine ACalls.of_wp (fn := Tryz.f92) (c := _) Tryz.tab_ok (fun _ _ => Tryz.call92 _ _) Tryz.func92 rfl (n := 9) rfl (rs := [.tmp 4]) rfl rfl ?_
 refine seqK fun K1 hK1 => ?_
 refine region ?_
 refine s0 assignA rfl ?_
 refine nil ?_
 refine hK1 _ ?_
 clear hK1 K1
 refine seqK fun K2 hK2 => ?_
 refine region ?_
 refine s0 moveA rfl ?_
 refine s0 moveA rfl ?_
 obtain ⟨x3, gx3, hE⟩ := bindO_some hE
 refine s0 (callP rfl rfl (fun H => Z98_walk gx3 H hf1)) rfl ?_
 refine s0 (binI rfl rfl rfl) rfl ?_
 refine s0 assignA rfl ?_
 refine nil ?_
 refine hK2 _ ?_
 clear hK2 K2
 refine AWp.ret ?_
 repeat (first | refine xBlock_ret ?_ | refine xThen_ret ?_)
 obtain rfl := Option.some.inj hE
 refine retQ.retF H rfl ⟨rfl, rfl⟩ ?_
 exact (fun _ _ h => h)
def Z5 (a0 : TDir) (a1 : TDir) : Option Bool := some ((a0.FName == a1.FName))
theorem Z5_walk {a0 : TDir} {a1 : TDir}   {r : Bool} (hE : Z5 a0 a1 = some r) (H : Heap)  : ACalls Tryz.prog 93 [.agg (TDir.c a0), .d (.view (TDir.c a1))] H fun v h' => v = .a (.d (.bool r)) ∧ h' = H := by
 unfold Z5 at hE
 refine ACalls.of_wp (fn := Tryz.f93) (c := _) Tryz.tab_ok (fun _ _ => Tryz.call93 _ _) Tryz.func93 rfl (n := 9) rfl (rs := [.tmp 3]) rfl rfl ?_
 refine seqK fun K1 hK1 => ?_
 refine region ?_
 refine s0 (boxV rfl) rfl ?_
 refine s0 assignA rfl ?_
 refine nil ?_
 refine hK1 _ ?_
 clear hK1 K1
 refine seqK fun K2 hK2 => ?_
 refine region ?_
 refine s0 (fieldVA (TK rfl) rfl rfl (TK rfl) rfl rfl) rfl ?_
 refine s0 (loadV (TK rfl) rfl rfl rfl) rfl ?_
 refine s0 (fieldVA (TK rfl) rfl rfl (TK rfl) rfl rfl) rfl ?_
 refine s0 (loadV (TK rfl) rfl rfl rfl) rfl ?_
 refine s0 (binS rfl rfl rfl) rfl ?_
 refine s0 assignA rfl ?_
 refine nil ?_
 refine hK2 _ ?_
 clear hK2 K2
 refine AWp.ret ?_
 repeat (first | refine xBlock_ret ?_ | refine xThen_ret ?_)
 obtain rfl := Option.some.inj hE
 refine retQ.retF H rfl ⟨rfl, rfl⟩ ?_
 exact (fun _ _ h => h)
def Z10_j2  (y3_l0 : TValue) : Option (TValue × Bool) := some ((TValue.mk (0 : Int) (0 : Int) ([] : Bs) true ([]) (Sl.nil : Sl Bs)), false)
def Z10_l7 (a0 : (Sl TArg)) (a1 : Bs)  : Nat → Nat → TValue → Option (TValue × Bool)
 | 0, _, _ => none
 | n7 + 1, s10_8, y9_l0 => bif (decide (((s10_8 : Nat) : Int) < ((a0.l.length : Nat) : Int))) then ((a0.l[s10_8]?).bind fun x15 => bif ((x15.FName == a1)) then (some (x15.FValue, true)) else ((Z10_l7 a0 a1 n7) (s10_8 + 1) y9_l0)) else (Z10_j2   y9_l0)
def Z10 (a0 : (Sl TArg)) (a1 : Bs) : Option (TValue × Bool) := Z10_l7 a0 a1 (a0.l.length + 1) 0 TValue.zero
theorem Z10_walk {a0 : (Sl TArg)} {a1 : Bs} {w0 : Option Nat}  {r : (TValue × Bool)} (hE : Z10 a0 a1 = some r) (H : Heap)  : ACalls Tryz.prog 95 [.d (Sl.d 6 TArg.c w0 a0), .d (.str a1)] H fun v h' => v = .tup [.agg (TValue.c r.1), .d (.bool r.2)] ∧ h' = H := by
 unfold Z10 at hE
 refine ACalls.of_wp (fn := Tryz.f95) (c := _) Tryz.tab_ok (fun _ _ => Tryz.call95 _ _) Tryz.func95 rfl (n := 22) rfl (rs := [.cell 4 114, .tmp 5]) rfl rfl ?_
 refine seqK fun K1 hK1 => ?_
 refine region ?_
 refine sL (allocLA (TK rfl) rfl) rfl ?_
 refine s0 assignA rfl ?_
 refine nil ?_
 refine hK1 _ ?_
 clear hK1 K1
 refine seqJ (KeepsT.A (k := 4) KeepsT.nil) (fun (z : TValue) => []) (fun z => [TValue.c z]) (fun z => H) (fun z => Z10_j2 z = some r) ?_ ?_
 ·intro K2 hK2
  refine seqK fun K5 hK5 => ?_
  refine region ?_
  refine s0 moveA rfl ?_
  refine sLen (f := TArg.c) (s := a0) (TK rfl) rfl rfl rfl rfl fun hL6 => ?_
  refine s0 moveA rfl ?_
  refine nil ?_
  refine hK5 _ ?_
  clear hK5 K5
  refine block ?_
  refine loopO (KeepsT.A (k := 1) (KeepsT.A (k := 4) (KeepsT.A (k := 8) (KeepsT.A (k := 9) KeepsT.nil)))) (fun (z : Nat × Nat × TValue) => [(10, .a (.d (.int .i64 ((z.2.1 : Nat) : Int))))]) (fun z => [TValue.c z.2.2]) (fun z => H) (fun z => z.1) (fun z => Z10_l7 a0 a1 z.1 z.2.1 z.2.2 = some r) ((a0.l.length + 1), 0, TValue.zero) hE Weak.toA ?_
  rintro ⟨n7, s10_8, y9_l0⟩ hE K7 hK7
  try dsimp only at hE
  cases n7 with
  | zero => cases hE
  | succ n7 =>
    rw [Z10_l7] at hE
    refine seqK fun K10 hK10 => ?_
    refine region ?_
    refine s0 (binI rfl rfl rfl) rfl ?_
    refine nil ?_
    refine hK10 _ ?_
    clear hK10 K10
    refine seqK fun K11 hK11 => ?_
    refine condE hE rfl (fun hc12 hE => ?_) (fun hc12 hE => ?_)
    ·try dsimp only at hc12
     have hf12 := of_decide_eq_true hc12
     refine AWp.skip ?_
     refine hK11 _ ?_
     clear hK11 K11
     refine seqK fun K13 hK13 => ?_
     refine block ?_
     refine seqK fun K14 hK14 => ?_
     refine region ?_
     obtain ⟨x15, gx15, hE⟩ := bindO_some hE
     refine s0 (idxMn (f := TArg.c) (n := s10_8) (TK rfl) rfl (TK rfl) rfl rfl rfl gx15) rfl ?_
     refine s0 (loadV (TK rfl) rfl rfl rfl) rfl ?_
     refine sL (allocLA (TK rfl) rfl) rfl ?_
     refine sLn (storeLFA (TK rfl) rfl rfl rfl rfl rfl) ?_
     refine nil ?_
     refine hK14 _ ?_
     clear hK14 K14
     refine freezeA 7 _ rfl (Keeps.c (k := 1) (by conv => lhs; whnf) (by rfl) (Keeps.c (k := 4) (by conv => lhs; whnf) (by rfl) (Keeps.c (k := 8) (by conv => lhs; whnf) (by rfl) (Keeps.c (k := 9) (by conv => lhs; whnf) (by rfl) (Keeps.c (k := 10) (by conv => lhs; whnf) (by rfl) Keeps.nil))))) ?_
     refine seqK fun K16 hK16 => ?_
     refine region ?_
     refine s0 (fieldVA (TK rfl) rfl rfl (TK rfl) rfl rfl) rfl ?_
     refine s0 (loadV (TK rfl) rfl rfl rfl) rfl ?_
     refine s0 moveA rfl ?_
     refine s0 (binS rfl rfl rfl) rfl ?_
     refine nil ?_
     refine hK16 _ ?_
     clear hK16 K16
     refine condE hE rfl (fun hc17 hE => ?_) (fun hc17 hE => ?_)
     ·refine seqK fun K18 hK18 => ?_
      refine region ?_
      refine s0 (fieldVA (TK rfl) rfl rfl (TK rfl) rfl rfl) rfl ?_
      refine s0 (loadV (TK rfl) rfl rfl rfl) rfl ?_
      refine sLn (storeLFA (TK rfl) rfl rfl rfl rfl rfl) ?_
      refine s0 assignA rfl ?_
      refine nil ?_
      refine hK18 _ ?_
      clear hK18 K18
      refine AWp.ret ?_
      repeat (first | refine xBlock_ret ?_ | refine xThen_ret ?_)
      obtain rfl := Option.some.inj hE
      refine retQ.retF H rfl ⟨rfl, rfl⟩ ?_
      exact (fun _ _ h => h)
     refine AWp.skip ?_
     refine hK13 _ ?_
     clear hK13 K13
     refine region ?_
     refine s0 (addIA rfl rfl) rfl ?_
     refine s0 moveA rfl ?_
     refine nil ?_
     exact hK7 _ (n7, (s10_8 + 1), y9_l0) Weak.toA hE (Nat.lt_succ_self _)
    refine AWp.exit ?_
    exact hK2 _ y9_l0 Weak.toA hE
 rintro y3_l0 hE
 try dsimp only at hE
 unfold Z10_j2 at hE
 refine seqK fun K4 hK4 => ?_
 refine region ?_
 refine s0 (build Tryz.tab_ok rfl rfl rfl rfl rfl rfl) rfl ?_
 refine sLn (storeLFA (TK rfl) rfl rfl rfl rfl rfl) ?_
 refine s0 assignA rfl ?_
 refine nil ?_
 refine hK4 _ ?_
 clear hK4 K4
 refine AWp.ret ?_
 repeat (first | refine xBlock_ret ?_ | refine xThen_ret ?_)
 obtain rfl := Option.some.inj hE
 refine retQ.retF H rfl ⟨rfl, rfl⟩ ?_
 exact (fun _ _ h => h)
def Z85_j2  (y3_l0 : TInput) : Option (TInput × Bool) := some ((TInput.mk ([] : Bs) TRef.zero false TValue.zero (Sl.nil : Sl TDir)), false)
def Z85_l7 (a0 : (Sl TInput)) (a1 : Bs)  : Nat → Nat → TInput → Option (TInput × Bool)
 | 0, _, _ => none
 | n7 + 1, s10_8, y9_l0 => bif (decide (((s10_8 : Nat) : Int) < ((a0.l.length : Nat) : Int))) then ((a0.l[s10_8]?).bind fun x15 => bif ((x15.FName == a1)) then (some (x15, true)) else ((Z85_l7 a0 a1 n7) (s10_8 + 1) y9_l0)) else (Z85_j2   y9_l0)
def Z85 (a0 : (Sl TInput)) (a1 : Bs) : Option (TInput × Bool) := Z85_l7 a0 a1 (a0.l.length + 1) 0 TInput.zero
theorem Z85_walk {a0 : (Sl TInput)} {a1 : Bs} {w0 : Option Nat}  {r : (TInput × Bool)} (hE : Z85 a0 a1 = some r) (H : Heap)  : ACalls Tryz.prog 111 [.d (Sl.d 10 TInput.c w0 a0), .d (.str a1)] H fun v h' => v = .tup [.agg (TInput.c r.1), .d (.bool r.2)] ∧ h' = H := by
 unfold Z85 at hE
 refine ACalls.of_wp (fn := Tryz.f111) (c := _) Tryz.tab_ok (fun _ _ => Tryz.call111 _ _) Tryz.func111 rfl (n := 21) rfl (rs := [.cell 4 116, .tmp 5]) rfl rfl ?_
 refine seqK fun K1 hK1 => ?_
 refine region ?_
 refine sL (allocLA (TK rfl) rfl) rfl ?_
 refine s0 assignA rfl ?_
 refine nil ?_
 refine hK1 _ ?_
 clear hK1 K1
 refine seqJ (KeepsT.A (k := 4) KeepsT.nil) (fun (z : TInput) => []) (fun z => [TInput.c z]) (fun z => H) (fun z => Z85_j2 z = some r) ?_ ?_
 ·intro K2 hK2
  refine seqK fun K5 hK5 => ?_
  refine region ?_
  refine s0 moveA rfl ?_
  refine sLen (f := TInput.c) (s := a0) (TK rfl) rfl rfl rfl rfl fun hL6 => ?_
  refine s0 moveA rfl ?_
  refine nil ?_
  refine hK5 _ ?_
  clear hK5 K5
  refine block ?_
  refine loopO (KeepsT.A (k := 1) (KeepsT.A (k := 4) (KeepsT.A (k := 8) (KeepsT.A (k := 9) KeepsT.nil)))) (fun (z : Nat × Nat × TInput) => [(10, .a (.d (.int .i64 ((z.2.1 : Nat) : Int))))]) (fun z => [TInput.c z.2.2]) (fun z => H) (fun z => z.1) (fun z => Z85_l7 a0 a1 z.1 z.2.1 z.2.2 = some r) ((a0.l.length + 1), 0, TInput.zero) hE Weak.toA ?_
  rintro ⟨n7, s10_8, y9_l0⟩ hE K7 hK7
  try dsimp only at hE
  cases n7 with
  | zero => cases hE
  | succ n7 =>
    rw [Z85_l7] at hE
    refine seqK fun K10 hK10 => ?_
    refine region ?_
    refine s0 (binI rfl rfl rfl) rfl ?_
    refine nil ?_
    refine hK10 _ ?_
    clear hK10 K10
    refine seqK fun K11 hK11 => ?_
    refine condE hE rfl (fun hc12 hE => ?_) (fun hc12 hE => ?_)
    ·try dsimp only at hc12
     have hf12 := of_decide_eq_true hc12
     refine AWp.skip ?_
     refine hK11 _ ?_
     clear hK11 K11
     refine seqK fun K13 hK13 => ?_
     refine block ?_
     refine seqK fun K14 hK14 => ?_
     refine region ?_
     obtain ⟨x15, gx15, hE⟩ := bindO_some hE
     refine s0 (idxMn (f := TInput.c) (n := s10_8) (TK rfl) rfl (TK rfl) rfl rfl rfl gx15) rfl ?_
     refine s0 (loadV (TK rfl) rfl rfl rfl) rfl ?_
     refine sL (allocLA (TK rfl) rfl) rfl ?_
     refine sLn (storeLFA (TK rfl) rfl rfl rfl rfl rfl) ?_
     refine nil ?_
     refine hK14 _ ?_
     clear hK14 K14
     refine freezeA 7 _ rfl (Keeps.c (k := 1) (by conv => lhs; whnf) (by rfl) (Keeps.c (k := 4) (by conv => lhs; whnf) (by rfl) (Keeps.c (k := 8) (by conv => lhs; whnf) (by rfl) (Keeps.c (k := 9) (by conv => lhs; whnf) (by rfl) (Keeps.c (k := 10) (by conv => lhs; whnf) (by rfl) Keeps.nil))))) ?_
     refine seqK fun K16 hK16 => ?_
     refine region ?_
     refine s0 (fieldVA (TK rfl) rfl rfl (TK rfl) rfl rfl) rfl ?_
     refine s0 (loadV (TK rfl) rfl rfl rfl) rfl ?_
     refine s0 moveA rfl ?_
     refine s0 (binS rfl rfl rfl) rfl ?_
     refine nil ?_
     refine hK16 _ ?_
     clear hK16 K16
     refine condE hE rfl (fun hc17 hE => ?_) (fun hc17 hE => ?_)
     ·refine seqK fun K18 hK18 => ?_
      refine region ?_
      refine s0 (loadV (TK rfl) rfl rfl rfl) rfl ?_
      refine sLn (storeLFA (TK rfl) rfl rfl rfl rfl rfl) ?_
      refine s0 assignA rfl ?_
      refine nil ?_
      refine hK18 _ ?_
      clear hK18 K18
      refine AWp.ret ?_
      repeat (first | refine xBlock_ret ?_ | refine xThen_ret ?_)
      obtain rfl := Option.some.inj hE
      refine retQ.retF H rfl ⟨rfl, rfl⟩ ?_
      exact (fun _ _ h => h)
     refine AWp.skip ?_
     refine hK13 _ ?_
     clear hK13 K13
     refine region ?_
     refine s0 (addIA rfl rfl) rfl ?_
     refine s0 moveA rfl ?_
     refine nil ?_
     exact hK7 _ (n7, (s10_8 + 1), y9_l0) Weak.toA hE (Nat.lt_succ_self _)
    refine AWp.exit ?_
    exact hK2 _ y9_l0 Weak.toA hE
 rintro y3_l0 hE
 try dsimp only at hE
 unfold Z85_j2 at hE
 refine seqK fun K4 hK4 => ?_
 refine region ?_
 refine s0 (build Tryz.tab_ok rfl rfl rfl rfl rfl rfl) rfl ?_
 refine sLn (storeLFA (TK rfl) rfl rfl rfl rfl rfl) ?_
 refine s0 assignA rfl ?_
 refine nil ?_
 refine hK4 _ ?_
 clear hK4 K4
 refine AWp.ret ?_
 repeat (first | refine xBlock_ret ?_ | refine xThen_ret ?_)
 obtain rfl := Option.some.inj hE
 refine retQ.retF H rfl ⟨rfl, rfl⟩ ?_
 exact (fun _ _ h => h)
def Z99_j2   : Option Int := some (-1 : Int)
def Z99_l6 (a0 : (Sl TMember)) (a1 : (TMember → Option Bool))  : Nat → Nat → Option Int
 | 0, _ => none
 | n6 + 1, s8_7 => bif (decide (((s8_7 : Nat) : Int) < ((a0.l.length : Nat) : Int))) then ((a0.l[s8_7]?).bind fun x14 => (a1 x14).bind fun x15 => bif x15 then (some ((s8_7 : Nat) : Int)) else ((Z99_l6 a0 a1 n6) (s8_7 + 1))) else (Z99_j2   )
def Z99 (a0 : (Sl TMember)) (a1 : (TMember → Option Bool)) : Option Int := Z99_l6 a0 a1 (a0.l.length + 1) 0
theorem Z99_walk {a0 : (Sl TMember)} {a1 : (TMember → Option Bool)} {w0 : Option Nat} {cl1 : List D} {k1 : Nat} {r : Int} (hE : Z99 a0 a1 = some r) (H : Heap) (hf1 : ∀ x0 r, a1 x0 = some r → ∀ H, ACalls Tryz.prog k1 ([.agg (TMember.c x0)] ++ cl1.map A.d) H fun v h' => v = .a (.d (.bool r)) ∧ h' = H) : ACalls Tryz.prog 74 [.d (Sl.d 2 TMember.c w0 a0), .d (.func k1 cl1)] H fun v h' => v = .a (.d (.int .i64 r)) ∧ h' = H := by
 unfold Z99 at hE
 refine ACalls.of_wp (fn := Tryz.f74) (c := _) Tryz.tab_ok (fun _ _ => Tryz.call74 _ _) Tryz.func74 rfl (n := 19) rfl (rs := [.tmp 4]) rfl rfl ?_
 refine seqK fun K1 hK1 => ?_
 refine region ?_
 refine s0 assignA rfl ?_
 refine nil ?_
 refine hK1 _ ?_
 clear hK1 K1
 refine seqJH KeepsT.nil (fun (z : Unit) => []) (fun z => H) (fun z => Z99_j2  = some r) ?_ ?_
 ·intro K2 hK2
  refine seqK fun K4 hK4 => ?_
  refine region ?_
  refine s0 moveA rfl ?_
  refine sLen (f := TMember.c) (s := a0) (TK rfl) rfl rfl rfl rfl fun hL5 => ?_
  refine s0 moveA rfl ?_
  refine nil ?_
  refine hK4 _ ?_
  clear hK4 K4
  refine block ?_
  refine loopH (KeepsT.A (k := 0) (KeepsT.A (k := 1) (KeepsT.A (k := 7) KeepsT.nil))) (fun (z : Nat × Nat) => [(8, .a (.d (.int .i64 ((z.2 : Nat) : Int))))]) (fun z => H) (fun z => z.1) (fun z => Z99_l6 a0 a1 z.1 z.2 = some r) ((a0.l.length + 1), 0) hE Weak.toA ?_
  rintro ⟨n6, s8_7⟩ hE K6 hK6
  try dsimp only at hE
  cases n6 with
  | zero => cases hE
  | succ n6 =>
    rw [Z99_l6] at hE
    refine seqK fun K8 hK8 => ?_
    refine region ?_
    refine s0 (binI rfl rfl rfl) rfl ?_
    refine nil ?_
    refine hK8 _ ?_
    clear hK8 K8
    refine seqK fun K9 hK9 => ?_
    refine condE hE rfl (fun hc10 hE => ?_) (fun hc10 hE => ?_)
    ·try dsimp only at hc10
     have hf10 := of_decide_eq_true hc10
     refine AWp.skip ?_
     refine hK9 _ ?_
     clear hK9 K9
     refine seqK fun K11 hK11 => ?_
     refine block ?_
     refine seqK fun K12 hK12 => ?_
     refine region ?_
     refine s0 moveA rfl ?_
     refine s0 assignA rfl ?_
     refine nil ?_
     refine hK12 _ ?_
     clear hK12 K12
     refine seqK fun K13 hK13 => ?_
     refine region ?_
     refine s0 moveA rfl ?_
     refine s0 moveA rfl ?_
     refine s0 moveA rfl ?_
     obtain ⟨x14, gx14, hE⟩ := bindO_some hE
     refine s0 (idxMn (f := TMember.c) (n := s8_7) (TK rfl) rfl (TK rfl) rfl rfl rfl gx14) rfl ?_
     refine s0 (loadV (TK rfl) rfl rfl rfl) rfl ?_
     obtain ⟨x15, gx15, hE⟩ := bindO_some hE
     refine s0 (callP rfl rfl (hf1 _ _ gx15)) rfl ?_
     refine nil ?_
     refine hK13 _ ?_
     clear hK13 K13
     refine condE hE rfl (fun hc16 hE => ?_) (fun hc16 hE => ?_)
     ·refine seqK fun K17 hK17 => ?_
      refine region ?_
      refine s0 moveA rfl ?_
      refine s0 assignA rfl ?_
      refine nil ?_
      refine hK17 _ ?_
      clear hK17 K17
      refine AWp.ret ?_
      repeat (first | refine xBlock_ret ?_ | refine xThen_ret ?_)
      obtain rfl := Option.some.inj hE
      refine retQ.retF H rfl ⟨rfl, rfl⟩ ?_
      exact (fun _ _ h => h)
     refine AWp.skip ?_
     refine hK11 _ ?_
     clear hK11 K11
     refine region ?_
     refine s0 (addIA rfl rfl) rfl ?_
     refine s0 moveA rfl ?_
     refine nil ?_
     exact hK6 _ (n6, (s8_7 + 1)) Weak.toA hE (Nat.lt_succ_self _)
    refine AWp.exit ?_
    exact hK2 _ () Weak.toA hE
 rintro _ hE
 try dsimp only at hE
 unfold Z99_j2 at hE
 refine seqK fun K3 hK3 => ?_
 refine region ?_
 refine s0 assignA rfl ?_
 refine nil ?_
 refine hK3 _ ?_
 clear hK3 K3
 refine AWp.ret ?_
 repeat (first | refine xBlock_ret ?_ | refine xThen_ret ?_)
 obtain rfl := Option.some.inj hE
 refine retQ.retF H rfl ⟨rfl, rfl⟩ ?_
 exact (fun _ _ h => h)
def Z94 (a0 : (Sl TMember)) (a1 : (TMember → Option Bool)) : Option Bool := (Z99 a0 a1).bind fun x3 => some (decide ((0 : Int) ≤ x3))
theorem Z94_walk {a0 : (Sl TMember)} {a1 : (TMember → Option Bool)} {w0 : Option Nat} {cl1 : List D} {k1 : Nat} {r : Bool} (hE : Z94 a0 a1 = some r) (H : Heap) (hf1 : ∀ x0 r, a1 x0 = some r → ∀ H, ACalls Tryz.prog k1 ([.agg (TMember.c x0)] ++ cl1.map A.d) H fun v h' => v = .a (.d (.bool r)) ∧ h' = H) : ACalls Tryz.prog 37 [.d (Sl.d 2 TMember.c w0 a0), .d (.func k1 cl1)] H fun v h' => v = .a (.d (.bool r)) ∧ h' = H := by
 unfold Z94 at hE
 refine ACalls.of_wp (fn := Tryz.f37) (c := _) Tryz.tab_ok (fun _ _ => Tryz.call37 _ _) Tryz.func37 rfl (n := 9) rfl (rs := [.tmp 4]) rfl rfl ?_
 refine seqK fun K1 hK1 => ?_
 refine region ?_
 refine s0 assignA rfl ?_
 refine nil ?_
 refine hK1 _ ?_
 clear hK1 K1
 refine seqK fun K2 hK2 => ?_
 refine region ?_
 refine s0 moveA rfl ?_
 refine s0 moveA rfl ?_
 obtain ⟨x3, gx3, hE⟩ := bindO_some hE
 refine s0 (callP rfl rfl (fun H => Z99_walk gx3 H hf1)) rfl ?_
 refine s0 (binI rfl rfl rfl) rfl ?_
 refine s0 assignA rfl ?_
 refine nil ?_
 refine hK2 _ ?_
 clear hK2 K2
 refine AWp.ret ?_
 repeat (first | refine xBlock_ret ?_ | refine xThen_ret ?_)
 obtain rfl := Option.some.inj hE
 refine retQ.retF H rfl ⟨rfl, rfl⟩ ?_
 exact (fun _ _ h => h)
def Z90 (a0 : TDoc) (a1 : Bs) : Option Int := (Z84 a0 a1).bind fun x3 => some x3.1.FKind
theorem Z90_walk {a0 : TDoc} {a1 : Bs}   {r : Int} (hE : Z90 a0 a1 = some r) (H : Heap)  : ACalls Tryz.prog 77 [.agg (TDoc.c a0), .d (.str a1)] H fun v h' => v = .a (.d (.int .i64 r)) ∧ h' = H := by
 unfold Z90 at hE
 refine ACalls.of_wp (fn := Tryz.f77) (c := _) Tryz.tab_ok (fun _ _ => Tryz.call77 _ _) Tryz.func77 rfl (n := 15) rfl (rs := [.tmp 4]) rfl rfl ?_
 refine seqK fun K1 hK1 => ?_
 refine region ?_
 refine s0 (boxV rfl) rfl ?_
 refine s0 assignA rfl ?_
 refine nil ?_
 refine hK1 _ ?_
 clear hK1 K1
 refine seqK fun K2 hK2 => ?_
 refine region ?_
 refine s0 (loadV (TK rfl) rfl rfl rfl) rfl ?_
 refine s0 moveA rfl ?_
 obtain ⟨x3, gx3, hE⟩ := bindO_some hE
 refine s0 (callP rfl rfl (fun H => Z84_walk gx3 H)) rfl ?_
 refine s0 moveA rfl ?_
 refine s0 (extract rfl rfl) rfl ?_
 refine s0 (extract rfl rfl) rfl ?_
 refine sL (allocLA (TK rfl) rfl) rfl ?_
 refine sLn (storeLFA (TK rfl) rfl rfl rfl rfl rfl) ?_
 refine s0 assignA rfl ?_
 refine nil ?_
 refine hK2 _ ?_
 clear hK2 K2
 refine freezeA 5 _ rfl Keeps.nil ?_
 refine seqK fun K4 hK4 => ?_
 refine region ?_
 refine s0 (fieldVA (TK rfl) rfl rfl (TK rfl) rfl rfl) rfl ?_
 refine s0 (loadV (TK rfl) rfl rfl rfl) rfl ?_
 refine s0 assignA rfl ?_
 refine nil ?_
 refine hK4 _ ?_
 clear hK4 K4
 refine AWp.ret ?_
 repeat (first | refine xBlock_ret ?_ | refine xThen_ret ?_)
 obtain rfl := Option.some.inj hE
 refine retQ.retF H rfl ⟨rfl, rfl⟩ ?_
 exact (fun _ _ h => h)
def Z89 (a0 : Bs) : Option Bool := some (((((a0 == ([73, 110, 116] : Bs))) || ((a0 == ([83, 116, 114, 105, 110, 103] : Bs)))) || ((a0 == ([66, 111, 111, 108, 101, 97, 110] : Bs)))) || ((a0 == ([73, 68] : Bs))))
theorem Z89_walk {a0 : Bs}   {r : Bool} (hE : Z89 a0 = some r) (H : Heap)  : ACalls Tryz.prog 67 [.d (.str a0)] H fun v h' => v = .a (.d (.bool r)) ∧ h' = H := by
 unfold Z89 at hE
 refine ACalls.of_wp (fn := Tryz.f67) (c := _) Tryz.tab_ok (fun _ _ => Tryz.call67 _ _) Tryz.func67 rfl (n := 17) rfl (rs := [.tmp 2]) rfl rfl ?_
 refine seqK fun K1 hK1 => ?_
 refine region ?_
 refine s0 assignA rfl ?_
 refine nil ?_
 refine hK1 _ ?_
 clear hK1 K1
 refine seqK fun K2 hK2 => ?_
 refine region ?_
 refine s0 moveA rfl ?_
 refine s0 (binS rfl rfl rfl) rfl ?_
 refine s0 moveA rfl ?_
 refine gC rfl rfl (fun hC => moveA) rfl ?_
 refine gC rfl rfl (fun hC => ungdA (k := 6) rfl (binS rfl rfl rfl)) rfl ?_
 refine s0 (pickOrA rfl rfl rfl) rfl ?_
 refine s0 moveA rfl ?_
 refine gC rfl rfl (fun hC => moveA) rfl ?_
 refine gC rfl rfl (fun hC => ungdA (k := 10) rfl (binS rfl rfl rfl)) rfl ?_
 refine s0 (pickOrA rfl rfl rfl) rfl ?_
 refine s0 moveA rfl ?_
 refine gC rfl rfl (fun hC => moveA) rfl ?_
 refine gC rfl rfl (fun hC => ungdA (k := 14) rfl (binS rfl rfl rfl)) rfl ?_
 refine s0 (pickOrA rfl rfl rfl) rfl ?_
 refine s0 assignA rfl ?_
 refine nil ?_
 refine hK2 _ ?_
 clear hK2 K2
 refine AWp.ret ?_
 repeat (first | refine xBlock_ret ?_ | refine xThen_ret ?_)
 obtain rfl := Option.some.inj hE
 refine retQ.retF H rfl ⟨rfl, rfl⟩ ?_
 exact (fun _ _ h => h)
def Z87 (a0 : TDoc) (a1 : Bs) : Option Bool := (Z89 a1).bind fun x3 => guardO (!x3) (Z90 a0 a1) (0 : Int) fun x4 => some (x3 || (decide (x4 = (4 : Int))))
theorem Z87_walk {a0 : TDoc} {a1 : Bs}   {r : Bool} (hE : Z87 a0 a1 = some r) (H : Heap)  : ACalls Tryz.prog 96 [.agg (TDoc.c a0), .d (.str a1)] H fun v h' => v = .a (.d (.bool r)) ∧ h' = H := by
 unfold Z87 at hE
 refine ACalls.of_wp (fn := Tryz.f96) (c := _) Tryz.tab_ok (fun _ _ => Tryz.call96 _ _) Tryz.func96 rfl (n := 13) rfl (rs := [.tmp 4]) rfl rfl ?_
 refine seqK fun K1 hK1 => ?_
 refine region ?_
 refine s0 (boxV rfl) rfl ?_
 refine s0 assignA rfl ?_
 refine nil ?_
 refine hK1 _ ?_
 clear hK1 K1
 refine seqK fun K2 hK2 => ?_
 refine region ?_
 refine s0 moveA rfl ?_
 obtain ⟨x3, gx3, hE⟩ := bindO_some hE
 refine s0 (callP rfl rfl (fun H => Z89_walk gx3 H)) rfl ?_
 refine s0 moveA rfl ?_
 refine gC rfl rfl (fun hC => loadV (TK rfl) rfl rfl rfl) rfl ?_
 refine gC rfl rfl (fun hC => moveA) rfl ?_
 obtain ⟨x4, gx4, hE⟩ := guardO_some hE
 refine gC rfl rfl (fun hC => ungdA (k := 8) rfl (ungdA (k := 9) rfl (callP rfl rfl (fun H => Z90_walk (gx4 hC) H)))) rfl ?_
 refine gC rfl rfl (fun hC => ungdA (k := 10) rfl (binI rfl rfl rfl)) rfl ?_
 refine s0 (pickOrA rfl rfl rfl) rfl ?_
 refine s0 assignA rfl ?_
 refine nil ?_
 refine hK2 _ ?_
 clear hK2 K2
 refine AWp.ret ?_
 repeat (first | refine xBlock_ret ?_ | refine xThen_ret ?_)
 obtain rfl := Option.some.inj hE
 refine retQ.retF H rfl ⟨rfl, rfl⟩ ?_
 exact (fun _ _ h => h)
def Z86 (a0 : TDoc) (a1 : Bs) : Option Bool := (Z87 a0 a1).bind fun x3 => guardO (!x3) (Z90 a0 a1) (0 : Int) fun x4 => some (x3 || (decide (x4 = (5 : Int))))
theorem Z86_walk {a0 : TDoc} {a1 : Bs}   {r : Bool} (hE : Z86 a0 a1 = some r) (H : Heap)  : ACalls Tryz.prog 131 [.agg (TDoc.c a0), .d (.str a1)] H fun v h' => v = .a (.d (.bool r)) ∧ h' = H := by
 unfold Z86 at hE
 refine ACalls.of_wp (fn := Tryz.f131) (c := _) Tryz.tab_ok (fun _ _ => Tryz.call131 _ _) Tryz.func131 rfl (n := 14) rfl (rs := [.tmp 4]) rfl rfl ?_
 refine seqK fun K1 hK1 => ?_
 refine region ?_
 refine s0 (boxV rfl) rfl ?_
 refine s0 assignA rfl ?_
 refine nil ?_
 refine hK1 _ ?_
 clear hK1 K1
 refine seqK fun K2 hK2 => ?_
 refine region ?_
 refine s0 (loadV (TK rfl) rfl rfl rfl) rfl ?_
 refine s0 moveA rfl ?_
 obtain ⟨x3, gx3, hE⟩ := bindO_some hE
 refine s0 (callP rfl rfl (fun H => Z87_walk gx3 H)) rfl ?_
 refine s0 moveA rfl ?_
 refine gC rfl rfl (fun hC => loadV (TK rfl) rfl rfl rfl) rfl ?_
 refine gC rfl rfl (fun hC => moveA) rfl ?_
 obtain ⟨x4, gx4, hE⟩ := guardO_some hE
 refine gC rfl rfl (fun hC => ungdA (k := 9) rfl (ungdA (k := 10) rfl (callP rfl rfl (fun H => Z90_walk (gx4 hC) H)))) rfl ?_
 refine gC rfl rfl (fun hC => ungdA (k := 11) rfl (binI rfl rfl rfl)) rfl ?_
 refine s0 (pickOrA rfl rfl rfl) rfl ?_
 refine s0 assignA rfl ?_
 refine nil ?_
 refine hK2 _ ?_
 clear hK2 K2
 refine AWp.ret ?_
 repeat (first | refine xBlock_ret ?_ | refine xThen_ret ?_)
 obtain rfl := Option.some.inj hE
 refine retQ.retF H rfl ⟨rfl, rfl⟩ ?_
 exact (fun _ _ h => h)
def Z104 (a0 : TRef) : Option (TRef × Bool) := (Z105 a0).bind fun x4 => bif (!x4) then (some ((TRef.mk ([] : Bs) (Sl.nil : Sl Int)), false)) else ((Z109 a0).bind fun x8 => (partC x8.FWraps (some (1 : Int)) none).bind fun x10 => some ((TRef.mk x8.FName x10), true))
theorem Z104_walk {a0 : TRef}   {r : (TRef × Bool)} (hE : Z104 a0 = some r) (H : Heap)  : ACalls Tryz.prog 132 [.agg (TRef.c a0)] H fun v h' => v = .tup [.agg (TRef.c r.1), .d (.bool r.2)] ∧ h' = H := by
 unfold Z104 at hE
 refine ACalls.of_wp (fn := Tryz.f132) (c := _) Tryz.tab_ok (fun _ _ => Tryz.call132 _ _) Tryz.func132 rfl (n := 15) rfl (rs := [.cell 2 55, .tmp 3]) rfl rfl ?_
 refine seqK fun K1 hK1 => ?_
 refine region ?_
 refine sL (boxL rfl (by repeat (first | exact Snoc.nil | apply Snoc.cons))) rfl ?_
 refine sL (allocLA (TK rfl) rfl) rfl ?_
 refine s0 assignA rfl ?_
 refine nil ?_
 refine hK1 _ ?_
 clear hK1 K1
 refine seqK fun K2 hK2 => ?_
 refine seqK fun K3 hK3 => ?_
 refine region ?_
 refine s0 (loadL (TK rfl) rfl rfl rfl rfl) rfl ?_
 obtain ⟨x4, gx4, hE⟩ := bindO_some hE
 refine s0 (callP rfl rfl (fun H => Z105_walk gx4 H)) rfl ?_
 refine s0 (notB rfl) rfl ?_
 refine nil ?_
 refine hK3 _ ?_
 clear hK3 K3
 refine condE hE rfl (fun hc5 hE => ?_) (fun hc5 hE => ?_)
 ·refine seqK fun K6 hK6 => ?_
  refine region ?_
  refine s0 (build Tryz.tab_ok rfl rfl rfl rfl rfl rfl) rfl ?_
  refine sLn (storeLFA (TK rfl) rfl rfl rfl rfl rfl) ?_
  refine s0 assignA rfl ?_
  refine nil ?_
  refine hK6 _ ?_
  clear hK6 K6
  refine AWp.ret ?_
  repeat (first | refine xBlock_ret ?_ | refine xThen_ret ?_)
  obtain rfl := Option.some.inj hE
  refine retQ.retF H rfl ⟨rfl, rfl⟩ ?_
  exact (fun _ _ h => h)
 refine AWp.skip ?_
 refine hK2 _ ?_
 clear hK2 K2
 refine seqK fun K7 hK7 => ?_
 refine region ?_
 refine s0 (loadL (TK rfl) rfl rfl rfl rfl) rfl ?_
 obtain ⟨x8, gx8, hE⟩ := bindO_some hE
 refine s0 (callP rfl rfl (fun H => Z109_walk gx8 H)) rfl ?_
 refine sLn (storeLFA (TK rfl) rfl rfl rfl rfl rfl) ?_
 refine nil ?_
 refine hK7 _ ?_
 clear hK7 K7
 refine seqK fun K9 hK9 => ?_
 refine region ?_
 refine s0 (fieldL (TK rfl) rfl rfl (TK rfl) rfl rfl) rfl ?_
 refine s0 (loadL (TK rfl) rfl rfl rfl rfl) rfl ?_
 obtain ⟨x10, gx10, hE⟩ := bindO_some hE
 refine s0 (partM (f := (intE .i64)) (l := (some (1 : Int))) (r := none) (TK rfl) rfl (TK rfl) rfl rfl rfl trivial gx10) rfl ?_
 refine s0 (fieldL (TK rfl) rfl rfl (TK rfl) rfl rfl) rfl ?_
 refine sLn (storeL1 (TK rfl) rfl rfl rfl rfl (by repeat (first | exact SetAt.zero | apply SetAt.succ)) (by repeat (first | exact SetAt.zero | apply SetAt.succ))) ?_
 refine nil ?_
 refine hK9 _ ?_
 clear hK9 K9
 refine seqK fun K11 hK11 => ?_
 refine region ?_
 refine s0 (loadL (TK rfl) rfl rfl rfl rfl) rfl ?_
 refine sLn (storeLFA (TK rfl) rfl rfl rfl rfl rfl) ?_
 refine s0 assignA rfl ?_
 refine nil ?_
 refine hK11 _ ?_
 clear hK11 K11
 refine AWp.ret ?_
 repeat (first | refine xBlock_ret ?_ | refine xThen_ret ?_)
 obtain rfl := Option.some.inj hE
 refine retQ.retF H rfl ⟨rfl, rfl⟩ ?_
 exact (fun _ _ h => h)
def Z97_j2   : Option Int := some (-1 : Int)
def Z97_l6 (a0 : (Sl TValue)) (a1 : (TValue → Option Bool))  : Nat → Nat → Option Int
 | 0, _ => none
 | n6 + 1, s8_7 => bif (decide (((s8_7 : Nat) : Int) < ((a0.l.length : Nat) : Int))) then ((a0.l[s8_7]?).bind fun x14 => (a1 x14).bind fun x15 => bif x15 then (some ((s8_7 : Nat) : Int)) else ((Z97_l6 a0 a1 n6) (s8_7 + 1))) else (Z97_j2   )
def Z97 (a0 : (Sl TValue)) (a1 : (TValue → Option Bool)) : Option Int := Z97_l6 a0 a1 (a0.l.length + 1) 0
theorem Z97_walk {a0 : (Sl TValue)} {a1 : (TValue → Option Bool)} {w0 : Option Nat} {cl1 : List D} {k1 : Nat} {r : Int} (hE : Z97 a0 a1 = some r) (H : Heap) (hf1 : ∀ x0 r, a1 x0 = some r → ∀ H, ACalls Tryz.prog k1 ([.agg (TValue.c x0)] ++ cl1.map A.d) H fun v h' => v = .a (.d (.bool r)) ∧ h' = H) : ACalls Tryz.prog 150 [.d (Sl.d 5 TValue.c w0 a0), .d (.func k1 cl1)] H fun v h' => v = .a (.d (.int .i64 r)) ∧ h' = H := by
 unfold Z97 at hE
 refine ACalls.of_wp (fn := Tryz.f150) (c := _) Tryz.tab_ok (fun _ _ => Tryz.call150 _ _) Tryz.func150 rfl (n := 19) rfl (rs := [.tmp 4]) rfl rfl ?_
 refine seqK fun K1 hK1 => ?_
 refine region ?_
 refine s0 assignA rfl ?_
 refine nil ?_
 refine hK1 _ ?_
 clear hK1 K1
 refine seqJH KeepsT.nil (fun (z : Unit) => []) (fun z => H) (fun z => Z97_j2  = some r) ?_ ?_
 ·intro K2 hK2
  refine seqK fun K4 hK4 => ?_
  refine region ?_
  refine s0 moveA rfl ?_
  refine sLen (f := TValue.c) (s := a0) (TK rfl) rfl rfl rfl rfl fun hL5 => ?_
  refine s0 moveA rfl ?_
  refine nil ?_
  refine hK4 _ ?_
  clear hK4 K4
  refine block ?_
  refine loopH (KeepsT.A (k := 0) (KeepsT.A (k := 1) (KeepsT.A (k := 7) KeepsT.nil))) (fun (z : Nat × Nat) => [(8, .a (.d (.int .i64 ((z.2 : Nat) : Int))))]) (fun z => H) (fun z => z.1) (fun z => Z97_l6 a0 a1 z.1 z.2 = some r) ((a0.l.length + 1), 0) hE Weak.toA ?_
  rintro ⟨n6, s8_7⟩ hE K6 hK6
  try dsimp only at hE
  cases n6 with
  | zero => cases hE
  | succ n6 =>
    rw [Z97_l6] at hE
    refine seqK fun K8 hK8 => ?_
    refine region ?_
    refine s0 (binI rfl rfl rfl) rfl ?_
    refine nil ?_
    refine hK8 _ ?_
    clear hK8 K8
    refine seqK fun K9 hK9 => ?_
    refine condE hE rfl (fun hc10 hE => ?_) (fun hc10 hE => ?_)
    ·try dsimp only at hc10
     have hf10 := of_decide_eq_true hc10
     refine AWp.skip ?_
     refine hK9 _ ?_
     clear hK9 K9
     refine seqK fun K11 hK11 => ?_
     refine block ?_
     refine seqK fun K12 hK12 => ?_
     refine region ?_
     refine s0 moveA rfl ?_
     refine s0 assignA rfl ?_
     refine nil ?_
     refine hK12 _ ?_
     clear hK12 K12
     refine seqK fun K13 hK13 => ?_
     refine region ?_
     refine s0 moveA rfl ?_
     refine s0 moveA rfl ?_
     refine s0 moveA rfl ?_
     obtain ⟨x14, gx14, hE⟩ := bindO_some hE
     refine s0 (idxMn (f := TValue.c) (n := s8_7) (TK rfl) rfl (TK rfl) rfl rfl rfl gx14) rfl ?_
     refine s0 (loadV (TK rfl) rfl rfl rfl) rfl ?_
     obtain ⟨x15, gx15, hE⟩ := bindO_some hE
     refine s0 (callP rfl rfl (hf1 _ _ gx15)) rfl ?_
     refine nil ?_
     refine hK13 _ ?_
     clear hK13 K13
     refine condE hE rfl (fun hc16 hE => ?_) (fun hc16 hE => ?_)
     ·refine seqK fun K17 hK17 => ?_
      refine region ?_
      refine s0 moveA rfl ?_
      refine s0 assignA rfl ?_
      refine nil ?_
      refine hK17 _ ?_
      clear hK17 K17
      refine AWp.ret ?_
      repeat (first | refine xBlock_ret ?_ | refine xThen_ret ?_)
      obtain rfl := Option.some.inj hE
      refine retQ.retF H rfl ⟨rfl, rfl⟩ ?_
      exact (fun _ _ h => h)
     refine AWp.skip ?_
     refine hK11 _ ?_
     clear hK11 K11
     refine region ?_
     refine s0 (addIA rfl rfl) rfl ?_
     refine s0 moveA rfl ?_
     refine nil ?_
     exact hK6 _ (n6, (s8_7 + 1)) Weak.toA hE (Nat.lt_succ_self _)
    refine AWp.exit ?_
    exact hK2 _ () Weak.toA hE
 rintro _ hE
 try dsimp only at hE
 unfold Z97_j2 at hE
 refine seqK fun K3 hK3 => ?_
 refine region ?_
 refine s0 assignA rfl ?_
 refine nil ?_
 refine hK3 _ ?_
 clear hK3 K3
 refine AWp.ret ?_
 repeat (first | refine xBlock_ret ?_ | refine xThen_ret ?_)
 obtain rfl := Option.some.inj hE
 refine retQ.retF H rfl ⟨rfl, rfl⟩ ?_
 exact (fun _ _ h => h)
def Z92 (a0 : (Sl TValue)) (a1 : (TValue → Option Bool)) : Option Bool := (Z97 a0 a1).bind fun x3 => some (decide ((0 : Int) ≤ x3))
theorem Z92_walk {a0 : (Sl TValue)} {a1 : (TValue → Option Bool)} {w0 : Option Nat} {cl1 : List D} {k1 : Nat} {r : Bool} (hE : Z92 a0 a1 = some r) (H : Heap) (hf1 : ∀ x0 r, a1 x0 = some r → ∀ H, ACalls Tryz.prog k1 ([.agg (TValue.c x0)] ++ cl1.map A.d) H fun v h' => v = .a (.d (.bool r)) ∧ h' = H) : ACalls Tryz.prog 139 [.d (Sl.d 5 TValue.c w0 a0), .d (.func k1 cl1)] H fun v h' => v = .a (.d (.bool r)) ∧ h' = H := by
 unfold Z92 at hE
 refine ACalls.of_wp (fn := Tryz.f139) (c := _) Tryz.tab_ok (fun _ _ => Tryz.call139 _ _) Tryz.func139 rfl (n := 9) rfl (rs := [.tmp 4]) rfl rfl ?_
 refine seqK fun K1 hK1 => ?_
 refine region ?_
 refine s0 assignA rfl ?_
 refine nil ?_
 refine hK1 _ ?_
 clear hK1 K1
 refine seqK fun K2 hK2 => ?_
 refine region ?_
 refine s0 moveA rfl ?_
 refine s0 moveA rfl ?_
 obtain ⟨x3, gx3, hE⟩ := bindO_some hE
 refine s0 (callP rfl rfl (fun H => Z97_walk gx3 H hf1)) rfl ?_
 refine s0 (binI rfl rfl rfl) rfl ?_
 refine s0 assignA rfl ?_
 refine nil ?_
 refine hK2 _ ?_
 clear hK2 K2
 refine AWp.ret ?_
 repeat (first | refine xBlock_ret ?_ | refine xThen_ret ?_)
 obtain rfl := Option.some.inj hE
 refine retQ.retF H rfl ⟨rfl, rfl⟩ ?_
 exact (fun _ _ h => h)
def Z9 (a0 : TMember) (a1 : TValue) : Option Bool := some ((a0.FName == a1.FText))
theorem Z9_walk {a0 : TMember} {a1 : TValue}   {r : Bool} (hE : Z9 a0 a1 = some r) (H : Heap)  : ACalls Tryz.prog 141 [.agg (TMember.c a0), .d (.view (TValue.c a1))] H fun v h' => v = .a (.d (.bool r)) ∧ h' = H := by
 unfold Z9 at hE
 refine ACalls.of_wp (fn := Tryz.f141) (c := _) Tryz.tab_ok (fun _ _ => Tryz.call141 _ _) Tryz.func141 rfl (n := 9) rfl (rs := [.tmp 3]) rfl rfl ?_
 refine seqK fun K1 hK1 => ?_
 refine region ?_
 refine s0 (boxV rfl) rfl ?_
 refine s0 assignA rfl ?_
 refine nil ?_
 refine hK1 _ ?_
 clear hK1 K1
 refine seqK fun K2 hK2 => ?_
 refine region ?_
 refine s0 (fieldVA (TK rfl) rfl rfl (TK rfl) rfl rfl) rfl ?_
 refine s0 (loadV (TK rfl) rfl rfl rfl) rfl ?_
 refine s0 (fieldVA (TK rfl) rfl rfl (TK rfl) rfl rfl) rfl ?_
 refine s0 (loadV (TK rfl) rfl rfl rfl) rfl ?_
 refine s0 (binS rfl rfl rfl) rfl ?_
 refine s0 assignA rfl ?_
 refine nil ?_
 refine hK2 _ ?_
 clear hK2 K2
 refine AWp.ret ?_
 repeat (first | refine xBlock_ret ?_ | refine xThen_ret ?_)
 obtain rfl := Option.some.inj hE
 refine retQ.retF H rfl ⟨rfl, rfl⟩ ?_
 exact (fun _ _ h => h)
def Z100_j2   : Option Int := some (-1 : Int)
def Z100_l6 (a0 : (Sl TInput)) (a1 : (TInput → Option Bool))  : Nat → Nat → Option Int
 | 0, _ => none
 | n6 + 1, s8_7 => bif (decide (((s8_7 : Nat) : Int) < ((a0.l.length : Nat) : Int))) then ((a0.l[s8_7]?).bind fun x14 => (a1 x14).bind fun x15 => bif x15 then (some ((s8_7 : Nat) : Int)) else ((Z100_l6 a0 a1 n6) (s8_7 + 1))) else (Z100_j2   )
def Z100 (a0 : (Sl TInput)) (a1 : (TInput → Option Bool)) : Option Int := Z100_l6 a0 a1 (a0.l.length + 1) 0
theorem Z100_walk {a0 : (Sl TInput)} {a1 : (TInput → Option Bool)} {w0 : Option Nat} {cl1 : List D} {k1 : Nat} {r : Int} (hE : Z100 a0 a1 = some r) (H : Heap) (hf1 : ∀ x0 r, a1 x0 = some r → ∀ H, ACalls Tryz.prog k1 ([.agg (TInput.c x0)] ++ cl1.map A.d) H fun v h' => v = .a (.d (.bool r)) ∧ h' = H) : ACalls Tryz.prog 154 [.d (Sl.d 10 TInput.c w0 a0), .d (.func k1 cl1)] H fun v h' => v = .a (.d (.int .i64 r)) ∧ h' = H := by
 unfold Z100 at hE
 refine ACalls.of_wp (fn := Tryz.f154) (c := _) Tryz.tab_ok (fun _ _ => Tryz.call154 _ _) Tryz.func154 rfl (n := 19) rfl (rs := [.tmp 4]) rfl rfl ?_
 refine seqK fun K1 hK1 => ?_
 refine region ?_
 refine s0 assignA rfl ?_
 refine nil ?_
 refine hK1 _ ?_
 clear hK1 K1
 refine seqJH KeepsT.nil (fun (z : Unit) => []) (fun z => H) (fun z => Z100_j2  = some r) ?_ ?_
 ·intro K2 hK2
  refine seqK fun K4 hK4 => ?_
  refine region ?_
  refine s0 moveA rfl ?_
  refine sLen (f := TInput.c) (s := a0) (TK rfl) rfl rfl rfl rfl fun hL5 => ?_
  refine s0 moveA rfl ?_
  refine nil ?_
  refine hK4 _ ?_
  clear hK4 K4
  refine block ?_
  refine loopH (KeepsT.A (k := 0) (KeepsT.A (k := 1) (KeepsT.A (k := 7) KeepsT.nil))) (fun (z : Nat × Nat) => [(8, .a (.d (.int .i64 ((z.2 : Nat) : Int))))]) (fun z => H) (fun z => z.1) (fun z => Z100_l6 a0 a1 z.1 z.2 = some r) ((a0.l.length + 1), 0) hE Weak.toA ?_
  rintro ⟨n6, s8_7⟩ hE K6 hK6
  try dsimp only at hE
  cases n6 with
  | zero => cases hE
  | succ n6 =>
    rw [Z100_l6] at hE
    refine seqK fun K8 hK8 => ?_
    refine region ?_
    refine s0 (binI rfl rfl rfl) rfl ?_
    refine nil ?_
    refine hK8 _ ?_
    clear hK8 K8
    refine seqK fun K9 hK9 => ?_
    refine condE hE rfl (fun hc10 hE => ?_) (fun hc10 hE => ?_)
    ·try dsimp only at hc10
     have hf10 := of_decide_eq_true hc10
     refine AWp.skip ?_
     refine hK9 _ ?_
     clear hK9 K9
     refine seqK fun K11 hK11 => ?_
     refine block ?_
     refine seqK fun K12 hK12 => ?_
     refine region ?_
     refine s0 moveA rfl ?_
     refine s0 assignA rfl ?_
     refine nil ?_
     refine hK12 _ ?_
     clear hK12 K12
     refine seqK fun K13 hK13 => ?_
     refine region ?_
     refine s0 moveA rfl ?_
     refine s0 moveA rfl ?_
     refine s0 moveA rfl ?_
     obtain ⟨x14, gx14, hE⟩ := bindO_some hE
     refine s0 (idxMn (f := TInput.c) (n := s8_7) (TK rfl) rfl (TK rfl) rfl rfl rfl gx14) rfl ?_
     refine s0 (loadV (TK rfl) rfl rfl rfl) rfl ?_
     obtain ⟨x15, gx15, hE⟩ := bindO_some hE
     refine s0 (callP rfl rfl (hf1 _ _ gx15)) rfl ?_
     refine nil ?_
     refine hK13 _ ?_
     clear hK13 K13
     refine condE hE rfl (fun hc16 hE => ?_) (fun hc16 hE => ?_)
     ·refine seqK fun K17 hK17 => ?_
      refine region ?_
      refine s0 moveA rfl ?_
      refine s0 assignA rfl ?_
      refine nil ?_
      refine hK17 _ ?_
      clear hK17 K17
      refine AWp.ret ?_
      repeat (first | refine xBlock_ret ?_ | refine xThen_ret ?_)
      obtain rfl := Option.some.inj hE
      refine retQ.retF H rfl ⟨rfl, rfl⟩ ?_
      exact (fun _ _ h => h)
     refine AWp.skip ?_
     refine hK11 _ ?_
     clear hK11 K11
     refine region ?_
     refine s0 (addIA rfl rfl) rfl ?_
     refine s0 moveA rfl ?_
     refine nil ?_
     exact hK6 _ (n6, (s8_7 + 1)) Weak.toA hE (Nat.lt_succ_self _)
    refine AWp.exit ?_
    exact hK2 _ () Weak.toA hE
 rintro _ hE
 try dsimp only at hE
 unfold Z100_j2 at hE
 refine seqK fun K3 hK3 => ?_
 refine region ?_
 refine s0 assignA rfl ?_
 refine nil ?_
 refine hK3 _ ?_
 clear hK3 K3
 refine AWp.ret ?_
 repeat (first | refine xBlock_ret ?_ | refine xThen_ret ?_)
 obtain rfl := Option.some.inj hE
 refine retQ.retF H rfl ⟨rfl, rfl⟩ ?_
 exact (fun _ _ h => h)
end Go.Proofs

namespace Go.Proofs
open Go Go.Ab
open AOps Cert AWp
def Z95 (a0 : (Sl TInput)) (a1 : (TInput → Option Bool)) : Option Bool := (Z100 a0 a1).bind fun x3 => some (decide ((0 : Int) ≤ x3))
theorem Z95_walk {a0 : (Sl TInput)} {a1 : (TInput → Option Bool)} {w0 : Option Nat} {cl1 : List D} {k1 : Nat} {r : Bool} (hE : Z95 a0 a1 = some r) (H : Heap) (hf1 : ∀ x0 r, a1 x0 = some r → ∀ H, ACalls Tryz.prog k1 ([.agg (TInput.c x0)] ++ cl1.map A.d) H fun v h' => v = .a (.d (.bool r)) ∧ h' = H) : ACalls Tryz.prog 151 [.d (Sl.d 10 TInput.c w0 a0), .d (.func k1 cl1)] H fun v h' => v = .a (.d (.bool r)) ∧ h' = H := by
 unfold Z95 at hE
 refine ACalls.of_wp (fn := Tryz.f151) (c := _) Tryz.tab_ok (fun _ _ => Tryz.call151 _ _) Tryz.func151 rfl (n := 9) rfl (rs := [.tmp 4]) rfl rfl ?_
 refine seqK fun K1 hK1 => ?_
 refine region ?_
 refine s0 assignA rfl ?_
 refine nil ?_
 refine hK1 _ ?_
 clear hK1 K1
 refine seqK fun K2 hK2 => ?_
 refine region ?_
 refine s0 moveA rfl ?_
 refine s0 moveA rfl ?_
 obtain ⟨x3, gx3, hE⟩ := bindO_some hE
 refine s0 (callP rfl rfl (fun H => Z100_walk gx3 H hf1)) rfl ?_
 refine s0 (binI rfl rfl rfl) rfl ?_
 refine s0 assignA rfl ?_
 refine nil ?_
 refine hK2 _ ?_
 clear hK2 K2
 refine AWp.ret ?_
 repeat (first | refine xBlock_ret ?_ | refine xThen_ret ?_)
 obtain rfl := Option.some.inj hE
 refine retQ.retF H rfl ⟨rfl, rfl⟩ ?_
 exact (fun _ _ h => h)
def Z101_j2   : Option Int := some (-1 : Int)
def Z101_l6 (a0 : (Sl Bs)) (a1 : Bs)  : Nat → Nat → Option Int
 | 0, _ => none
 | n6 + 1, s8_7 => bif (decide (((s8_7 : Nat) : Int) < ((a0.l.length : Nat) : Int))) then ((a0.l[s8_7]?).bind fun x14 => bif ((a1 == x14)) then (some ((s8_7 : Nat) : Int)) else ((Z101_l6 a0 a1 n6) (s8_7 + 1))) else (Z101_j2   )
def Z101 (a0 : (Sl Bs)) (a1 : Bs) : Option Int := Z101_l6 a0 a1 (a0.l.length + 1) 0
theorem Z101_walk {a0 : (Sl Bs)} {a1 : Bs} {w0 : Option Nat}  {r : Int} (hE : Z101 a0 a1 = some r) (H : Heap)  : ACalls Tryz.prog 109 [.d (Sl.d 1 strE w0 a0), .d (.str a1)] H fun v h' => v = .a (.d (.int .i64 r)) ∧ h' = H := by
 unfold Z101 at hE
 refine ACalls.of_wp (fn := Tryz.f109) (c := _) Tryz.tab_ok (fun _ _ => Tryz.call109 _ _) Tryz.func109 rfl (n := 19) rfl (rs := [.tmp 4]) rfl rfl ?_
 refine seqK fun K1 hK1 => ?_
 refine region ?_
 refine s0 assignA rfl ?_
 refine nil ?_
 refine hK1 _ ?_
 clear hK1 K1
 refine seqJH KeepsT.nil (fun (z : Unit) => []) (fun z => H) (fun z => Z101_j2  = some r) ?_ ?_
 ·intro K2 hK2
  refine seqK fun K4 hK4 => ?_
  refine region ?_
  refine s0 moveA rfl ?_
  refine sLen (f := strE) (s := a0) (TK rfl) rfl rfl rfl rfl fun hL5 => ?_
  refine s0 moveA rfl ?_
  refine nil ?_
  refine hK4 _ ?_
  clear hK4 K4
  refine block ?_
  refine loopH (KeepsT.A (k := 0) (KeepsT.A (k := 1) (KeepsT.A (k := 7) KeepsT.nil))) (fun (z : Nat × Nat) => [(8, .a (.d (.int .i64 ((z.2 : Nat) : Int))))]) (fun z => H) (fun z => z.1) (fun z => Z101_l6 a0 a1 z.1 z.2 = some r) ((a0.l.length + 1), 0) hE Weak.toA ?_
  rintro ⟨n6, s8_7⟩ hE K6 hK6
  try dsimp only at hE
  cases n6 with
  | zero => cases hE
  | succ n6 =>
    rw [Z101_l6] at hE
    refine seqK fun K8 hK8 => ?_
    refine region ?_
    refine s0 (binI rfl rfl rfl) rfl ?_
    refine nil ?_
    refine hK8 _ ?_
    clear hK8 K8
    refine seqK fun K9 hK9 => ?_
    refine condE hE rfl (fun hc10 hE => ?_) (fun hc10 hE => ?_)
    ·try dsimp only at hc10
     have hf10 := of_decide_eq_true hc10
     refine AWp.skip ?_
     refine hK9 _ ?_
     clear hK9 K9
     refine seqK fun K11 hK11 => ?_
     refine block ?_
     refine seqK fun K12 hK12 => ?_
     refine region ?_
     refine s0 moveA rfl ?_
     refine s0 assignA rfl ?_
     refine nil ?_
     refine hK12 _ ?_
     clear hK12 K12
     refine seqK fun K13 hK13 => ?_
     refine region ?_
     refine s0 moveA rfl ?_
     refine s0 moveA rfl ?_
     refine s0 moveA rfl ?_
     obtain ⟨x14, gx14, hE⟩ := bindO_some hE
     refine s0 (idxMn (f := strE) (n := s8_7) (TK rfl) rfl (TK rfl) rfl rfl rfl gx14) rfl ?_
     refine s0 (loadV (TK rfl) rfl rfl rfl) rfl ?_
     refine s0 (binS rfl rfl rfl) rfl ?_
     refine nil ?_
     refine hK13 _ ?_
     clear hK13 K13
     refine condE hE rfl (fun hc15 hE => ?_) (fun hc15 hE => ?_)
     ·refine seqK fun K16 hK16 => ?_
      refine region ?_
      refine s0 moveA rfl ?_
      refine s0 assignA rfl ?_
      refine nil ?_
      refine hK16 _ ?_
      clear hK16 K16
      refine AWp.ret ?_
      repeat (first | refine xBlock_ret ?_ | refine xThen_ret ?_)
      obtain rfl := Option.some.inj hE
      refine retQ.retF H rfl ⟨rfl, rfl⟩ ?_
      exact (fun _ _ h => h)
     refine AWp.skip ?_
     refine hK11 _ ?_
     clear hK11 K11
     refine region ?_
     refine s0 (addIA rfl rfl) rfl ?_
     refine s0 moveA rfl ?_
     refine nil ?_
     exact hK6 _ (n6, (s8_7 + 1)) Weak.toA hE (Nat.lt_succ_self _)
    refine AWp.exit ?_
    exact hK2 _ () Weak.toA hE
 rintro _ hE
 try dsimp only at hE
 unfold Z101_j2 at hE
 refine seqK fun K3 hK3 => ?_
 refine region ?_
 refine s0 assignA rfl ?_
 refine nil ?_
 refine hK3 _ ?_
 clear hK3 K3
 refine AWp.ret ?_
 repeat (first | refine xBlock_ret ?_ | refine xThen_ret ?_)
 obtain rfl := Option.some.inj hE
 refine retQ.retF H rfl ⟨rfl, rfl⟩ ?_
 exact (fun _ _ h => h)
def Z96 (a0 : (Sl Bs)) (a1 : Bs) : Option Bool := (Z101 a0 a1).bind fun x3 => some (decide ((0 : Int) ≤ x3))
theorem Z96_walk {a0 : (Sl Bs)} {a1 : Bs} {w0 : Option Nat}  {r : Bool} (hE : Z96 a0 a1 = some r) (H : Heap)  : ACalls Tryz.prog 72 [.d (Sl.d 1 strE w0 a0), .d (.str a1)] H fun v h' => v = .a (.d (.bool r)) ∧ h' = H := by
 unfold Z96 at hE
 refine ACalls.of_wp (fn := Tryz.f72) (c := _) Tryz.tab_ok (fun _ _ => Tryz.call72 _ _) Tryz.func72 rfl (n := 9) rfl (rs := [.tmp 4]) rfl rfl ?_
 refine seqK fun K1 hK1 => ?_
 refine region ?_
 refine s0 assignA rfl ?_
 refine nil ?_
 refine hK1 _ ?_
 clear hK1 K1
 refine seqK fun K2 hK2 => ?_
 refine region ?_
 refine s0 moveA rfl ?_
 refine s0 moveA rfl ?_
 obtain ⟨x3, gx3, hE⟩ := bindO_some hE
 refine s0 (callP rfl rfl (fun H => Z101_walk gx3 H)) rfl ?_
 refine s0 (binI rfl rfl rfl) rfl ?_
 refine s0 assignA rfl ?_
 refine nil ?_
 refine hK2 _ ?_
 clear hK2 K2
 refine AWp.ret ?_
 repeat (first | refine xBlock_ret ?_ | refine xThen_ret ?_)
 obtain rfl := Option.some.inj hE
 refine retQ.retF H rfl ⟨rfl, rfl⟩ ?_
 exact (fun _ _ h => h)
def Z13 (a0 : TInput) (a1 : TValue) : Option Bool := (Z106 a0.FType).bind fun x3 => guardO ((x3 && (!a0.FHas))) (Z96 a1.FKeys a0.FName) false fun x4 => some ((x3 && (!a0.FHas)) && (!x4))
theorem Z13_walk {a0 : TInput} {a1 : TValue}   {r : Bool} (hE : Z13 a0 a1 = some r) (H : Heap)  : ACalls Tryz.prog 152 [.agg (TInput.c a0), .d (.view (TValue.c a1))] H fun v h' => v = .a (.d (.bool r)) ∧ h' = H := by
 unfold Z13 at hE
 refine ACalls.of_wp (fn := Tryz.f152) (c := _) Tryz.tab_ok (fun _ _ => Tryz.call152 _ _) Tryz.func152 rfl (n := 20) rfl (rs := [.tmp 3]) rfl rfl ?_
 refine seqK fun K1 hK1 => ?_
 refine region ?_
 refine s0 (boxV rfl) rfl ?_
 refine s0 assignA rfl ?_
 refine nil ?_
 refine hK1 _ ?_
 clear hK1 K1
 refine seqK fun K2 hK2 => ?_
 refine region ?_
 refine s0 (fieldVA (TK rfl) rfl rfl (TK rfl) rfl rfl) rfl ?_
 refine s0 (loadV (TK rfl) rfl rfl rfl) rfl ?_
 obtain ⟨x3, gx3, hE⟩ := bindO_some hE
 refine s0 (callP rfl rfl (fun H => Z106_walk gx3 H)) rfl ?_
 refine s0 moveA rfl ?_
 refine gC rfl rfl (fun hC => fieldVA (TK rfl) rfl rfl (TK rfl) rfl rfl) rfl ?_
 refine gC rfl rfl (fun hC => ungdA (k := 8) rfl (loadV (TK rfl) rfl rfl rfl)) rfl ?_
 refine gC rfl rfl (fun hC => ungdA (k := 9) rfl (notB rfl)) rfl ?_
 refine s0 (pickAndA rfl rfl rfl) rfl ?_
 refine s0 moveA rfl ?_
 refine gC rfl rfl (fun hC => fieldVA (TK rfl) rfl rfl (TK rfl) rfl rfl) rfl ?_
 refine gC rfl rfl (fun hC => ungdA (k := 13) rfl (loadV (TK rfl) rfl rfl rfl)) rfl ?_
 refine gC rfl rfl (fun hC => fieldVA (TK rfl) rfl rfl (TK rfl) rfl rfl) rfl ?_
 refine gC rfl rfl (fun hC => ungdA (k := 15) rfl (loadV (TK rfl) rfl rfl rfl)) rfl ?_
 obtain ⟨x4, gx4, hE⟩ := guardO_some hE
 refine gC rfl rfl (fun hC => ungdA (k := 14) rfl (ungdA (k := 16) rfl (callP rfl rfl (fun H => Z96_walk (gx4 hC) H)))) rfl ?_
 refine gC rfl rfl (fun hC => ungdA (k := 17) rfl (notB rfl)) rfl ?_
 refine s0 (pickAndA rfl rfl rfl) rfl ?_
 refine s0 assignA rfl ?_
 refine nil ?_
 refine hK2 _ ?_
 clear hK2 K2
 refine AWp.ret ?_
 repeat (first | refine xBlock_ret ?_ | refine xThen_ret ?_)
 obtain rfl := Option.some.inj hE
 refine retQ.retF H rfl ⟨rfl, rfl⟩ ?_
 exact (fun _ _ h => h)
def Z12_j2 (a1 : TDef) (a2 : TValue)   : Option Bool := (Z95 a1.FInputs (fun y0 => Z13 y0 a2)).bind fun x4 => some (!x4)
def Z12_l7 (a0 : TDoc) (a1 : TDef) (a2 : TValue) (k_rec_123 : TDoc → TRef → TValue → Option Bool) : Nat → Nat → Option Bool
 | 0, _ => none
 | n7 + 1, s14_8 => bif (decide (((s14_8 : Nat) : Int) < ((a2.FKeys.l.length : Nat) : Int))) then ((a2.FKeys.l[s14_8]?).bind fun x14 => (Z85 a1.FInputs x14).bind fun x16 => guardO (!((!x16.2) || (decide (((a2.FItems.l.length : Nat) : Int) ≤ ((s14_8 : Nat) : Int))))) (a2.FItems.l[s14_8]?) TValue.zero fun x18 => guardO (!((!x16.2) || (decide (((a2.FItems.l.length : Nat) : Int) ≤ ((s14_8 : Nat) : Int))))) (k_rec_123 a0 x16.1.FType x18) false fun x19 => bif (((!x16.2) || (decide (((a2.FItems.l.length : Nat) : Int) ≤ ((s14_8 : Nat) : Int)))) || (!x19)) then (some false) else ((Z12_l7 a0 a1 a2 k_rec_123 n7) (s14_8 + 1))) else (Z12_j2 a1 a2  )
mutual
def fields_fits_n : Nat → TDoc → TRef → TValue → Option Bool
 | 0, _, _, _ => none
 | n + 1, a0, a1, a2 => bif (decide (a2.FKind = (7 : Int))) then (some true) else ((Z86 a0 a1.FName).bind fun x7 => bif (!x7) then (some false) else (bif (decide (a2.FKind = (0 : Int))) then ((Z106 a1).bind fun x13 => some (!x13)) else ((Z104 a1).bind fun x16 => bif x16.2 then (bif (!decide (a2.FKind = (5 : Int))) then (((fields_fits_n n) a0 x16.1 a2).bind fun x23 => some x23) else ((Z92 a2.FItems (fun y0 => (fields_fits_1_n n) y0 a0 x16.1)).bind fun x25 => some (!x25))) else (bif ((a1.FName == ([73, 110, 116] : Bs))) then (some (((decide (a2.FKind = (2 : Int))) && (decide ((-2147483648 : Int) ≤ a2.FInt))) && (decide (a2.FInt < (2147483648 : Int))))) else (bif ((a1.FName == ([83, 116, 114, 105, 110, 103] : Bs))) then (some (decide (a2.FKind = (3 : Int)))) else (bif ((a1.FName == ([66, 111, 111, 108, 101, 97, 110] : Bs))) then (some (decide (a2.FKind = (1 : Int)))) else (bif ((a1.FName == ([73, 68] : Bs))) then (some ((decide (a2.FKind = (3 : Int))) || (decide (a2.FKind = (2 : Int))))) else ((Z84 a0 a1.FName).bind fun x41 => bif (decide (x41.1.FKind = (4 : Int))) then (guardO ((decide (a2.FKind = (4 : Int)))) (Z94 x41.1.FMembers (fun y0 => Z9 y0 a2)) false fun x46 => some ((decide (a2.FKind = (4 : Int))) && x46)) else (guardO ((decide (a2.FKind = (6 : Int)))) ((Z12_n n) a0 x41.1 a2) false fun x48 => some ((decide (a2.FKind = (6 : Int))) && x48))))))))))
def fields_fits_1_n : Nat → TValue → TDoc → TRef → Option Bool
 | 0, _, _, _ => none
 | n + 1, a0, a1, a2 => ((fields_fits_n n) a1 a2 a0).bind fun x3 => some (!x3)
def Z12_n : Nat → TDoc → TDef → TValue → Option Bool
 | 0, _, _, _ => none
 | n + 1, a0, a1, a2 => Z12_l7 a0 a1 a2 (fields_fits_n n) (a2.FKeys.l.length + 1) 0
end
theorem fields_fits_step (n : Nat) (ih_123 : ∀ {a0 : TDoc} {a1 : TRef} {a2 : TValue}   {r : Bool}, fields_fits_n n a0 a1 a2 = some r → ∀ (H : Heap), ACalls Tryz.prog 123 [.agg (TDoc.c a0), .agg (TRef.c a1), .agg (TValue.c a2)] H fun v h' => v = .a (.d (.bool r)) ∧ h' = H) (ih_140 : ∀ {a0 : TValue} {a1 : TDoc} {a2 : TRef}   {r : Bool}, fields_fits_1_n n a0 a1 a2 = some r → ∀ (H : Heap), ACalls Tryz.prog 140 [.agg (TValue.c a0), .d (.view (TDoc.c a1)), .d (.view (TRef.c a2))] H fun v h' => v = .a (.d (.bool r)) ∧ h' = H) (ih_142 : ∀ {a0 : TDoc} {a1 : TDef} {a2 : TValue}   {r : Bool}, Z12_n n a0 a1 a2 = some r → ∀ (H : Heap), ACalls Tryz.prog 142 [.agg (TDoc.c a0), .agg (TDef.c a1), .agg (TValue.c a2)] H fun v h' => v = .a (.d (.bool r)) ∧ h' = H) : ∀ {a0 : TDoc} {a1 : TRef} {a2 : TValue}   {r : Bool}, fields_fits_n (n + 1) a0 a1 a2 = some r → ∀ (H : Heap), ACalls Tryz.prog 123 [.agg (TDoc.c a0), .agg (TRef.c a1), .agg (TValue.c a2)] H fun v h' => v = .a (.d (.bool r)) ∧ h' = H := by
 intro a0 a1 a2   r hE H 
 rw [fields_fits_n] at hE
 refine ACalls.of_wp (fn := Tryz.f123) (c := _) Tryz.tab_ok (fun _ _ => Tryz.call123 _ _) Tryz.func123 rfl (n := 111) rfl (rs := [.tmp 6]) rfl rfl ?_
 refine seqK fun K1 hK1 => ?_
 refine region ?_
 refine s0 (boxV rfl) rfl ?_
 refine s0 (boxV rfl) rfl ?_
 refine s0 (boxV rfl) rfl ?_
 refine s0 assignA rfl ?_
 refine nil ?_
 refine hK1 _ ?_
 clear hK1 K1
 refine seqK fun K2 hK2 => ?_
 refine block ?_
 refine seqK fun K3 hK3 => ?_
 refine region ?_
 refine s0 (fieldVA (TK rfl) rfl rfl (TK rfl) rfl rfl) rfl ?_
 refine s0 (loadV (TK rfl) rfl rfl rfl) rfl ?_
 refine s0 (binI rfl rfl rfl) rfl ?_
 refine s0 assignA rfl ?_
 refine nil ?_
 refine hK3 _ ?_
 clear hK3 K3
 refine condE hE rfl (fun hc4 hE => ?_) (fun hc4 hE => ?_)
 ·refine seqK fun K5 hK5 => ?_
  refine region ?_
  refine s0 assignA rfl ?_
  refine nil ?_
  refine hK5 _ ?_
  clear hK5 K5
  refine AWp.ret ?_
  repeat (first | refine xBlock_ret ?_ | refine xThen_ret ?_)
  obtain rfl := Option.some.inj hE
  refine retQ.retF H rfl ⟨rfl, rfl⟩ ?_
  exact (fun _ _ h => h)
 refine seqK fun K6 hK6 => ?_
 refine region ?_
 refine s0 (loadV (TK rfl) rfl rfl rfl) rfl ?_
 refine s0 (fieldVA (TK rfl) rfl rfl (TK rfl) rfl rfl) rfl ?_
 refine s0 (loadV (TK rfl) rfl rfl rfl) rfl ?_
 obtain ⟨x7, gx7, hE⟩ := bindO_some hE
 refine s0 (callP rfl rfl (fun H => Z86_walk gx7 H)) rfl ?_
 refine s0 (notB rfl) rfl ?_
 refine s0 assignA rfl ?_
 refine nil ?_
 refine hK6 _ ?_
 clear hK6 K6
 refine condE hE rfl (fun hc8 hE => ?_) (fun hc8 hE => ?_)
 ·refine seqK fun K9 hK9 => ?_
  refine region ?_
  refine s0 assignA rfl ?_
  refine nil ?_
  refine hK9 _ ?_
  clear hK9 K9
  refine AWp.ret ?_
  repeat (first | refine xBlock_ret ?_ | refine xThen_ret ?_)
  obtain rfl := Option.some.inj hE
  refine retQ.retF H rfl ⟨rfl, rfl⟩ ?_
  exact (fun _ _ h => h)
 refine seqK fun K10 hK10 => ?_
 refine region ?_
 refine s0 (fieldVA (TK rfl) rfl rfl (TK rfl) rfl rfl) rfl ?_
 refine s0 (loadV (TK rfl) rfl rfl rfl) rfl ?_
 refine s0 (binI rfl rfl rfl) rfl ?_
 refine s0 assignA rfl ?_
 refine nil ?_
 refine hK10 _ ?_
 clear hK10 K10
 refine condE hE rfl (fun hc11 hE => ?_) (fun hc11 hE => ?_)
 ·refine seqK fun K12 hK12 => ?_
  refine region ?_
  refine s0 (loadV (TK rfl) rfl rfl rfl) rfl ?_
  obtain ⟨x13, gx13, hE⟩ := bindO_some hE
  refine s0 (callP rfl rfl (fun H => Z106_walk gx13 H)) rfl ?_
  refine s0 (notB rfl) rfl ?_
  refine s0 assignA rfl ?_
  refine nil ?_
  refine hK12 _ ?_
  clear hK12 K12
  refine AWp.ret ?_
  repeat (first | refine xBlock_ret ?_ | refine xThen_ret ?_)
  obtain rfl := Option.some.inj hE
  refine retQ.retF H rfl ⟨rfl, rfl⟩ ?_
  exact (fun _ _ h => h)
 refine AWp.skip ?_
 refine hK2 _ ?_
 clear hK2 K2
 refine seqK fun K14 hK14 => ?_
 refine seqK fun K15 hK15 => ?_
 refine region ?_
 refine s0 (loadV (TK rfl) rfl rfl rfl) rfl ?_
 obtain ⟨x16, gx16, hE⟩ := bindO_some hE
 refine s0 (callP rfl rfl (fun H => Z104_walk gx16 H)) rfl ?_
 refine s0 moveA rfl ?_
 refine s0 (extract rfl rfl) rfl ?_
 refine s0 (extract rfl rfl) rfl ?_
 refine sL (allocLA (TK rfl) rfl) rfl ?_
 refine sLn (storeLFA (TK rfl) rfl rfl rfl rfl rfl) ?_
 refine s0 assignA rfl ?_
 refine nil ?_
 refine hK15 _ ?_
 clear hK15 K15
 refine freezeA 7 _ rfl (Keeps.c (k := 3) (by conv => lhs; whnf) (by rfl) (Keeps.c (k := 4) (by conv => lhs; whnf) (by rfl) (Keeps.c (k := 5) (by conv => lhs; whnf) (by rfl) (Keeps.c (k := 8) (by conv => lhs; whnf) (by rfl) Keeps.nil)))) ?_
 refine seqK fun K17 hK17 => ?_
 refine region ?_
 refine s0 moveA rfl ?_
 refine nil ?_
 refine hK17 _ ?_
 clear hK17 K17
 refine condE hE rfl (fun hc18 hE => ?_) (fun hc18 hE => ?_)
 ·refine seqK fun K19 hK19 => ?_
  refine seqK fun K20 hK20 => ?_
  refine region ?_
  refine s0 (fieldVA (TK rfl) rfl rfl (TK rfl) rfl rfl) rfl ?_
  refine s0 (loadV (TK rfl) rfl rfl rfl) rfl ?_
  refine s0 (binI rfl rfl rfl) rfl ?_
  refine nil ?_
  refine hK20 _ ?_
  clear hK20 K20
  refine condE hE rfl (fun hc21 hE => ?_) (fun hc21 hE => ?_)
  ·refine seqK fun K22 hK22 => ?_
   refine region ?_
   refine s0 (loadV (TK rfl) rfl rfl rfl) rfl ?_
   refine s0 (loadV (TK rfl) rfl rfl rfl) rfl ?_
   refine s0 (loadV (TK rfl) rfl rfl rfl) rfl ?_
   obtain ⟨x23, gx23, hE⟩ := bindO_some hE
   refine s0 (callP rfl rfl (fun H => ih_123 gx23 H)) rfl ?_
   refine s0 assignA rfl ?_
   refine nil ?_
   refine hK22 _ ?_
   clear hK22 K22
   refine AWp.ret ?_
   repeat (first | refine xBlock_ret ?_ | refine xThen_ret ?_)
   obtain rfl := Option.some.inj hE
   refine retQ.retF H rfl ⟨rfl, rfl⟩ ?_
   exact (fun _ _ h => h)
  refine AWp.skip ?_
  refine hK19 _ ?_
  clear hK19 K19
  refine seqK fun K24 hK24 => ?_
  refine region ?_
  refine s0 (fieldVA (TK rfl) rfl rfl (TK rfl) rfl rfl) rfl ?_
  refine s0 (loadV (TK rfl) rfl rfl (congrArg (fun x => some (A.d x)) (TValue.FItemsD_eq _))) rfl ?_
  refine s0 (makeFunc rfl) rfl ?_
  obtain ⟨x25, gx25, hE⟩ := bindO_some hE
  refine s0 (callP rfl rfl (fun H => Z92_walk gx25 H (fun _ _ hx => ih_140 hx))) rfl ?_
  refine s0 (notB rfl) rfl ?_
  refine s0 assignA rfl ?_
  refine nil ?_
  refine hK24 _ ?_
  clear hK24 K24
  refine AWp.ret ?_
  repeat (first | refine xBlock_ret ?_ | refine xThen_ret ?_)
  obtain rfl := Option.some.inj hE
  refine retQ.retF H rfl ⟨rfl, rfl⟩ ?_
  exact (fun _ _ h => h)
 refine AWp.skip ?_
 refine hK14 _ ?_
 clear hK14 K14
 refine seqK fun K26 hK26 => ?_
 refine seqK fun K27 hK27 => ?_
 refine region ?_
 refine s0 (fieldVA (TK rfl) rfl rfl (TK rfl) rfl rfl) rfl ?_
 refine s0 (loadV (TK rfl) rfl rfl rfl) rfl ?_
 refine nil ?_
 refine hK27 _ ?_
 clear hK27 K27
 refine block ?_
 refine seqK fun K28 hK28 => ?_
 refine region ?_
 refine s0 (binS rfl rfl rfl) rfl ?_
 refine s0 assignA rfl ?_
 refine nil ?_
 refine hK28 _ ?_
 clear hK28 K28
 refine condE hE rfl (fun hc29 hE => ?_) (fun hc29 hE => ?_)
 ·refine seqK fun K30 hK30 => ?_
  refine region ?_
  refine s0 (fieldVA (TK rfl) rfl rfl (TK rfl) rfl rfl) rfl ?_
  refine s0 (loadV (TK rfl) rfl rfl rfl) rfl ?_
  refine s0 (binI rfl rfl rfl) rfl ?_
  refine s0 moveA rfl ?_
  refine gC rfl rfl (fun hC => fieldVA (TK rfl) rfl rfl (TK rfl) rfl rfl) rfl ?_
  refine gC rfl rfl (fun hC => ungdA (k := 54) rfl (loadV (TK rfl) rfl rfl rfl)) rfl ?_
  refine gC rfl rfl (fun hC => ungdA (k := 55) rfl (binI rfl rfl rfl)) rfl ?_
  refine s0 (pickAndA rfl rfl rfl) rfl ?_
  refine s0 moveA rfl ?_
  refine gC rfl rfl (fun hC => fieldVA (TK rfl) rfl rfl (TK rfl) rfl rfl) rfl ?_
  refine gC rfl rfl (fun hC => ungdA (k := 59) rfl (loadV (TK rfl) rfl rfl rfl)) rfl ?_
  refine gC rfl rfl (fun hC => ungdA (k := 60) rfl (binI rfl rfl rfl)) rfl ?_
  refine s0 (pickAndA rfl rfl rfl) rfl ?_
  refine s0 assignA rfl ?_
  refine nil ?_
  refine hK30 _ ?_
  clear hK30 K30
  refine AWp.ret ?_
  repeat (first | refine xBlock_ret ?_ | refine xThen_ret ?_)
  obtain rfl := Option.some.inj hE
  refine retQ.retF H rfl ⟨rfl, rfl⟩ ?_
  exact (fun _ _ h => h)
 refine seqK fun K31 hK31 => ?_
 refine region ?_
 refine s0 (binS rfl rfl rfl) rfl ?_
 refine s0 assignA rfl ?_
 refine nil ?_
 refine hK31 _ ?_
 clear hK31 K31
 refine condE hE rfl (fun hc32 hE => ?_) (fun hc32 hE => ?_)
 ·refine seqK fun K33 hK33 => ?_
  refine region ?_
  refine s0 (fieldVA (TK rfl) rfl rfl (TK rfl) rfl rfl) rfl ?_
  refine s0 (loadV (TK rfl) rfl rfl rfl) rfl ?_
  refine s0 (binI rfl rfl rfl) rfl ?_
  refine s0 assignA rfl ?_
  refine nil ?_
  refine hK33 _ ?_
  clear hK33 K33
  refine AWp.ret ?_
  repeat (first | refine xBlock_ret ?_ | refine xThen_ret ?_)
  obtain rfl := Option.some.inj hE
  refine retQ.retF H rfl ⟨rfl, rfl⟩ ?_
  exact (fun _ _ h => h)
 refine seqK fun K34 hK34 => ?_
 refine region ?_
 refine s0 (binS rfl rfl rfl) rfl ?_
 refine s0 assignA rfl ?_
 refine nil ?_
 refine hK34 _ ?_
 clear hK34 K34
 refine condE hE rfl (fun hc35 hE => ?_) (fun hc35 hE => ?_)
 ·refine seqK fun K36 hK36 => ?_
  refine region ?_
  refine s0 (fieldVA (TK rfl) rfl rfl (TK rfl) rfl rfl) rfl ?_
  refine s0 (loadV (TK rfl) rfl rfl rfl) rfl ?_
  refine s0 (binI rfl rfl rfl) rfl ?_
  refine s0 assignA rfl ?_
  refine nil ?_
  refine hK36 _ ?_
  clear hK36 K36
  refine AWp.ret ?_
  repeat (first | refine xBlock_ret ?_ | refine xThen_ret ?_)
  obtain rfl := Option.some.inj hE
  refine retQ.retF H rfl ⟨rfl, rfl⟩ ?_
  exact (fun _ _ h => h)
 refine seqK fun K37 hK37 => ?_
 refine region ?_
 refine s0 (binS rfl rfl rfl) rfl ?_
 refine s0 assignA rfl ?_
 refine nil ?_
 refine hK37 _ ?_
 clear hK37 K37
 refine condE hE rfl (fun hc38 hE => ?_) (fun hc38 hE => ?_)
 ·refine seqK fun K39 hK39 => ?_
  refine region ?_
  refine s0 (fieldVA (TK rfl) rfl rfl (TK rfl) rfl rfl) rfl ?_
  refine s0 (loadV (TK rfl) rfl rfl rfl) rfl ?_
  refine s0 (binI rfl rfl rfl) rfl ?_
  refine s0 moveA rfl ?_
  refine gC rfl rfl (fun hC => fieldVA (TK rfl) rfl rfl (TK rfl) rfl rfl) rfl ?_
  refine gC rfl rfl (fun hC => ungdA (k := 79) rfl (loadV (TK rfl) rfl rfl rfl)) rfl ?_
  refine gC rfl rfl (fun hC => ungdA (k := 80) rfl (binI rfl rfl rfl)) rfl ?_
  refine s0 (pickOrA rfl rfl rfl) rfl ?_
  refine s0 assignA rfl ?_
  refine nil ?_
  refine hK39 _ ?_
  clear hK39 K39
  refine AWp.ret ?_
  repeat (first | refine xBlock_ret ?_ | refine xThen_ret ?_)
  obtain rfl := Option.some.inj hE
  refine retQ.retF H rfl ⟨rfl, rfl⟩ ?_
  exact (fun _ _ h => h)
 refine AWp.skip ?_
 refine hK26 _ ?_
 clear hK26 K26
 refine seqK fun K40 hK40 => ?_
 refine region ?_
 refine s0 (loadV (TK rfl) rfl rfl rfl) rfl ?_
 refine s0 (fieldVA (TK rfl) rfl rfl (TK rfl) rfl rfl) rfl ?_
 refine s0 (loadV (TK rfl) rfl rfl rfl) rfl ?_
 obtain ⟨x41, gx41, hE⟩ := bindO_some hE
 refine s0 (callP rfl rfl (fun H => Z84_walk gx41 H)) rfl ?_
 refine s0 moveA rfl ?_
 refine s0 (extract rfl rfl) rfl ?_
 refine s0 (extract rfl rfl) rfl ?_
 refine sL (allocLA (TK rfl) rfl) rfl ?_
 refine sLn (storeLFA (TK rfl) rfl rfl rfl rfl rfl) ?_
 refine s0 assignA rfl ?_
 refine nil ?_
 refine hK40 _ ?_
 clear hK40 K40
 refine freezeA 9 _ rfl (Keeps.c (k := 3) (by conv => lhs; whnf) (by rfl) (Keeps.c (k := 5) (by conv => lhs; whnf) (by rfl) Keeps.nil)) ?_
 refine seqK fun K42 hK42 => ?_
 refine seqK fun K43 hK43 => ?_
 refine region ?_
 refine s0 (fieldVA (TK rfl) rfl rfl (TK rfl) rfl rfl) rfl ?_
 refine s0 (loadV (TK rfl) rfl rfl rfl) rfl ?_
 refine s0 (binI rfl rfl rfl) rfl ?_
 refine nil ?_
 refine hK43 _ ?_
 clear hK43 K43
 refine condE hE rfl (fun hc44 hE => ?_) (fun hc44 hE => ?_)
 ·refine seqK fun K45 hK45 => ?_
  refine region ?_
  refine s0 (fieldVA (TK rfl) rfl rfl (TK rfl) rfl rfl) rfl ?_
  refine s0 (loadV (TK rfl) rfl rfl rfl) rfl ?_
  refine s0 (binI rfl rfl rfl) rfl ?_
  refine s0 moveA rfl ?_
  refine gC rfl rfl (fun hC => fieldVA (TK rfl) rfl rfl (TK rfl) rfl rfl) rfl ?_
  refine gC rfl rfl (fun hC => ungdA (k := 97) rfl (loadV (TK rfl) rfl rfl rfl)) rfl ?_
  refine gC rfl rfl (fun hC => makeFunc rfl) rfl ?_
  obtain ⟨x46, gx46, hE⟩ := guardO_some hE
  refine gC rfl rfl (fun hC => ungdA (k := 98) rfl (ungdA (k := 99) rfl (callP rfl rfl (fun H => Z94_walk (gx46 hC) H (fun _ _ hx => Z9_walk hx))))) rfl ?_
  refine s0 (pickAndA rfl rfl rfl) rfl ?_
  refine s0 assignA rfl ?_
  refine nil ?_
  refine hK45 _ ?_
  clear hK45 K45
  refine AWp.ret ?_
  repeat (first | refine xBlock_ret ?_ | refine xThen_ret ?_)
  obtain rfl := Option.some.inj hE
  refine retQ.retF H rfl ⟨rfl, rfl⟩ ?_
  exact (fun _ _ h => h)
 refine AWp.skip ?_
 refine hK42 _ ?_
 clear hK42 K42
 refine seqK fun K47 hK47 => ?_
 refine region ?_
 refine s0 (fieldVA (TK rfl) rfl rfl (TK rfl) rfl rfl) rfl ?_
 refine s0 (loadV (TK rfl) rfl rfl rfl) rfl ?_
 refine s0 (binI rfl rfl rfl) rfl ?_
 refine s0 moveA rfl ?_
 refine gC rfl rfl (fun hC => loadV (TK rfl) rfl rfl rfl) rfl ?_
 refine gC rfl rfl (fun hC => loadV (TK rfl) rfl rfl rfl) rfl ?_
 refine gC rfl rfl (fun hC => loadV (TK rfl) rfl rfl rfl) rfl ?_
 obtain ⟨x48, gx48, hE⟩ := guardO_some hE
 refine gC rfl rfl (fun hC => ungdA (k := 106) rfl (ungdA (k := 107) rfl (ungdA (k := 108) rfl (callP rfl rfl (fun H => ih_142 (gx48 hC) H))))) rfl ?_
 refine s0 (pickAndA rfl rfl rfl) rfl ?_
 refine s0 assignA rfl ?_
 refine nil ?_
 refine hK47 _ ?_
 clear hK47 K47
 refine AWp.ret ?_
 repeat (first | refine xBlock_ret ?_ | refine xThen_ret ?_)
 obtain rfl := Option.some.inj hE
 refine retQ.retF H rfl ⟨rfl, rfl⟩ ?_
 exact (fun _ _ h => h)
theorem fields_fits_1_step (n : Nat) (ih_123 : ∀ {a0 : TDoc} {a1 : TRef} {a2 : TValue}   {r : Bool}, fields_fits_n n a0 a1 a2 = some r → ∀ (H : Heap), ACalls Tryz.prog 123 [.agg (TDoc.c a0), .agg (TRef.c a1), .agg (TValue.c a2)] H fun v h' => v = .a (.d (.bool r)) ∧ h' = H) (ih_140 : ∀ {a0 : TValue} {a1 : TDoc} {a2 : TRef}   {r : Bool}, fields_fits_1_n n a0 a1 a2 = some r → ∀ (H : Heap), ACalls Tryz.prog 140 [.agg (TValue.c a0), .d (.view (TDoc.c a1)), .d (.view (TRef.c a2))] H fun v h' => v = .a (.d (.bool r)) ∧ h' = H) (ih_142 : ∀ {a0 : TDoc} {a1 : TDef} {a2 : TValue}   {r : Bool}, Z12_n n a0 a1 a2 = some r → ∀ (H : Heap), ACalls Tryz.prog 142 [.agg (TDoc.c a0), .agg (TDef.c a1), .agg (TValue.c a2)] H fun v h' => v = .a (.d (.bool r)) ∧ h' = H) : ∀ {a0 : TValue} {a1 : TDoc} {a2 : TRef}   {r : Bool}, fields_fits_1_n (n + 1) a0 a1 a2 = some r → ∀ (H : Heap), ACalls Tryz.prog 140 [.agg (TValue.c a0), .d (.view (TDoc.c a1)), .d (.view (TRef.c a2))] H fun v h' => v = .a (.d (.bool r)) ∧ h' = H := by
 intro a0 a1 a2   r hE H 
 rw [fields_fits_1_n] at hE
 refine ACalls.of_wp (fn := Tryz.f140) (c := _) Tryz.tab_ok (fun _ _ => Tryz.call140 _ _) Tryz.func140 rfl (n := 10) rfl (rs := [.tmp 4]) rfl rfl ?_
 refine seqK fun K1 hK1 => ?_
 refine region ?_
 refine s0 (boxV rfl) rfl ?_
 refine s0 assignA rfl ?_
 refine nil ?_
 refine hK1 _ ?_
 clear hK1 K1
 refine seqK fun K2 hK2 => ?_
 refine region ?_
 refine s0 (loadV (TK rfl) rfl rfl rfl) rfl ?_
 refine s0 (loadV (TK rfl) rfl rfl rfl) rfl ?_
 refine s0 (loadV (TK rfl) rfl rfl rfl) rfl ?_
 obtain ⟨x3, gx3, hE⟩ := bindO_some hE
 refine s0 (callP rfl rfl (fun H => ih_123 gx3 H)) rfl ?_
 refine s0 (notB rfl) rfl ?_
 refine s0 assignA rfl ?_
 refine nil ?_
 refine hK2 _ ?_
 clear hK2 K2
 refine AWp.ret ?_
 repeat (first | refine xBlock_ret ?_ | refine xThen_ret ?_)
 obtain rfl := Option.some.inj hE
 refine retQ.retF H rfl ⟨rfl, rfl⟩ ?_
 exact (fun _ _ h => h)
theorem Z12_step (n : Nat) (ih_123 : ∀ {a0 : TDoc} {a1 : TRef} {a2 : TValue}   {r : Bool}, fields_fits_n n a0 a1 a2 = some r → ∀ (H : Heap), ACalls Tryz.prog 123 [.agg (TDoc.c a0), .agg (TRef.c a1), .agg (TValue.c a2)] H fun v h' => v = .a (.d (.bool r)) ∧ h' = H) (ih_140 : ∀ {a0 : TValue} {a1 : TDoc} {a2 : TRef}   {r : Bool}, fields_fits_1_n n a0 a1 a2 = some r → ∀ (H : Heap), ACalls Tryz.prog 140 [.agg (TValue.c a0), .d (.view (TDoc.c a1)), .d (.view (TRef.c a2))] H fun v h' => v = .a (.d (.bool r)) ∧ h' = H) (ih_142 : ∀ {a0 : TDoc} {a1 : TDef} {a2 : TValue}   {r : Bool}, Z12_n n a0 a1 a2 = some r → ∀ (H : Heap), ACalls Tryz.prog 142 [.agg (TDoc.c a0), .agg (TDef.c a1), .agg (TValue.c a2)] H fun v h' => v = .a (.d (.bool r)) ∧ h' = H) : ∀ {a0 : TDoc} {a1 : TDef} {a2 : TValue}   {r : Bool}, Z12_n (n + 1) a0 a1 a2 = some r → ∀ (H : Heap), ACalls Tryz.prog 142 [.agg (TDoc.c a0), .agg (TDef.c a1), .agg (TValue.c a2)] H fun v h' => v = .a (.d (.bool r)) ∧ h' = H := by
 intro a0 a1 a2   r hE H 
 rw [Z12_n] at hE
 refine ACalls.of_wp (fn := Tryz.f142) (c := _) Tryz.tab_ok (fun _ _ => Tryz.call142 _ _) Tryz.func142 rfl (n := 53) rfl (rs := [.tmp 6]) rfl rfl ?_
 refine seqK fun K1 hK1 => ?_
 refine region ?_
 refine s0 (boxV rfl) rfl ?_
 refine s0 (boxV rfl) rfl ?_
 refine s0 (boxV rfl) rfl ?_
 refine s0 assignA rfl ?_
 refine nil ?_
 refine hK1 _ ?_
 clear hK1 K1
 refine seqJH (KeepsT.A (k := 4) (KeepsT.A (k := 5) KeepsT.nil)) (fun (z : Unit) => []) (fun z => H) (fun z => Z12_j2 a1 a2  = some r) ?_ ?_
 ·intro K2 hK2
  refine seqK fun K5 hK5 => ?_
  refine region ?_
  refine s0 (fieldVA (TK rfl) rfl rfl (TK rfl) rfl rfl) rfl ?_
  refine s0 (loadV (TK rfl) rfl rfl rfl) rfl ?_
  refine sLen (f := strE) (s := a2.FKeys) (TK rfl) rfl rfl rfl rfl fun hL6 => ?_
  refine s0 moveA rfl ?_
  refine nil ?_
  refine hK5 _ ?_
  clear hK5 K5
  refine block ?_
  refine loopH (KeepsT.A (k := 3) (KeepsT.A (k := 4) (KeepsT.A (k := 5) (KeepsT.A (k := 12) (KeepsT.A (k := 13) KeepsT.nil))))) (fun (z : Nat × Nat) => [(14, .a (.d (.int .i64 ((z.2 : Nat) : Int))))]) (fun z => H) (fun z => z.1) (fun z => Z12_l7 a0 a1 a2 (fields_fits_n n) z.1 z.2 = some r) ((a2.FKeys.l.length + 1), 0) hE Weak.toA ?_
  rintro ⟨n7, s14_8⟩ hE K7 hK7
  try dsimp only at hE
  cases n7 with
  | zero => cases hE
  | succ n7 =>
    rw [Z12_l7] at hE
    refine seqK fun K9 hK9 => ?_
    refine region ?_
    refine s0 (binI rfl rfl rfl) rfl ?_
    refine nil ?_
    refine hK9 _ ?_
    clear hK9 K9
    refine seqK fun K10 hK10 => ?_
    refine condE hE rfl (fun hc11 hE => ?_) (fun hc11 hE => ?_)
    ·try dsimp only at hc11
     have hf11 := of_decide_eq_true hc11
     refine AWp.skip ?_
     refine hK10 _ ?_
     clear hK10 K10
     refine seqK fun K12 hK12 => ?_
     refine block ?_
     refine seqK fun K13 hK13 => ?_
     refine region ?_
     refine s0 moveA rfl ?_
     obtain ⟨x14, gx14, hE⟩ := bindO_some hE
     refine s0 (idxMn (f := strE) (n := s14_8) (TK rfl) rfl (TK rfl) rfl rfl rfl gx14) rfl ?_
     refine s0 (loadV (TK rfl) rfl rfl rfl) rfl ?_
     refine s0 assignA rfl ?_
     refine s0 assignA rfl ?_
     refine nil ?_
     refine hK13 _ ?_
     clear hK13 K13
     refine seqK fun K15 hK15 => ?_
     refine region ?_
     refine s0 (fieldVA (TK rfl) rfl rfl (TK rfl) rfl rfl) rfl ?_
     refine s0 (loadV (TK rfl) rfl rfl rfl) rfl ?_
     refine s0 moveA rfl ?_
     obtain ⟨x16, gx16, hE⟩ := bindO_some hE
     refine s0 (callP rfl rfl (fun H => Z85_walk gx16 H)) rfl ?_
     refine s0 moveA rfl ?_
     refine s0 (extract rfl rfl) rfl ?_
     refine s0 (extract rfl rfl) rfl ?_
     refine sL (allocLA (TK rfl) rfl) rfl ?_
     refine sLn (storeLFA (TK rfl) rfl rfl rfl rfl rfl) ?_
     refine s0 assignA rfl ?_
     refine nil ?_
     refine hK15 _ ?_
     clear hK15 K15
     refine freezeA 9 _ rfl (Keeps.c (k := 3) (by conv => lhs; whnf) (by rfl) (Keeps.c (k := 4) (by conv => lhs; whnf) (by rfl) (Keeps.c (k := 5) (by conv => lhs; whnf) (by rfl) (Keeps.c (k := 7) (by conv => lhs; whnf) (by rfl) (Keeps.c (k := 10) (by conv => lhs; whnf) (by rfl) (Keeps.c (k := 12) (by conv => lhs; whnf) (by rfl) (Keeps.c (k := 13) (by conv => lhs; whnf) (by rfl) (Keeps.c (k := 14) (by conv => lhs; whnf) (by rfl) Keeps.nil)))))))) ?_
     refine seqK fun K17 hK17 => ?_
     refine AWp.draw rfl ?_
     refine DOps.s0 moveA rfl ?_
     refine DOps.s0 (notB rfl) rfl ?_
     refine DOps.s0 moveA rfl ?_
     refine DOps.gC rfl rfl (fun hC => moveA) rfl ?_
     refine DOps.gC rfl rfl (fun hC => fieldVA (TK rfl) rfl rfl (TK rfl) rfl rfl) rfl ?_
     refine DOps.gC rfl rfl (fun hC => ungdA (k := 30) rfl (loadV (TK rfl) rfl rfl (congrArg (fun x => some (A.d x)) (TValue.FItemsD_eq _)))) rfl ?_
     refine DOps.gC rfl rfl (fun hC => ungdA (k := 31) rfl (lenM' (f := TValue.c) (s := a2.FItems) (TK rfl) rfl rfl rfl)) rfl ?_
     refine DOps.gC rfl rfl (fun hC => ungdA (k := 29) rfl (ungdA (k := 32) rfl (binI rfl rfl rfl))) rfl ?_
     refine DOps.s0 (pickOrA rfl rfl rfl) rfl ?_
     refine DOps.s0 moveA rfl ?_
     refine DOps.gC rfl rfl (fun hC => loadV (TK rfl) rfl rfl rfl) rfl ?_
     refine DOps.gC rfl rfl (fun hC => fieldVA (TK rfl) rfl rfl (TK rfl) rfl rfl) rfl ?_
     refine DOps.gC rfl rfl (fun hC => ungdA (k := 37) rfl (loadV (TK rfl) rfl rfl rfl)) rfl ?_
     refine DOps.gC rfl rfl (fun hC => fieldVA (TK rfl) rfl rfl (TK rfl) rfl rfl) rfl ?_
     refine DOps.gC rfl rfl (fun hC => ungdA (k := 39) rfl (loadV (TK rfl) rfl rfl (congrArg (fun x => some (A.d x)) (TValue.FItemsD_eq _)))) rfl ?_
     refine DOps.gC rfl rfl (fun hC => moveA) rfl ?_
     obtain ⟨x18, gx18, hE⟩ := guardO_some hE
     refine DOps.gC rfl rfl (fun hC => ungdA (k := 40) rfl (ungdA (k := 41) rfl (idxMn (f := TValue.c) (n := s14_8) (TK rfl) rfl (TK rfl) rfl rfl rfl (gx18 hC)))) rfl ?_
     refine DOps.gC rfl rfl (fun hC => ungdA (k := 42) rfl (loadV (TK rfl) rfl rfl rfl)) rfl ?_
     obtain ⟨x19, gx19, hE⟩ := guardO_some hE
     refine DOps.gC rfl rfl (fun hC => ungdA (k := 36) rfl (ungdA (k := 38) rfl (ungdA (k := 43) rfl (callP rfl rfl (fun H => ih_123 (gx19 hC) H))))) rfl ?_
     refine DOps.gC rfl rfl (fun hC => ungdA (k := 44) rfl (notB rfl)) rfl ?_
     refine DOps.s0 (pickOrA rfl rfl rfl) rfl ?_
     refine DOps.nil (by decide +kernel) ?_
     refine hK17 _ ?_
     clear hK17 K17
     refine condE hE rfl (fun hc20 hE => ?_) (fun hc20 hE => ?_)
     ·refine seqK fun K21 hK21 => ?_
      refine region ?_
      refine s0 assignA rfl ?_
      refine nil ?_
      refine hK21 _ ?_
      clear hK21 K21
      refine AWp.ret ?_
      repeat (first | refine xBlock_ret ?_ | refine xThen_ret ?_)
      obtain rfl := Option.some.inj hE
      refine retQ.retF H rfl ⟨rfl, rfl⟩ ?_
      exact (fun _ _ h => h)
     refine AWp.skip ?_
     refine hK12 _ ?_
     clear hK12 K12
     refine region ?_
     refine s0 (addIA rfl rfl) rfl ?_
     refine s0 moveA rfl ?_
     refine nil ?_
     exact hK7 _ (n7, (s14_8 + 1)) Weak.toA hE (Nat.lt_succ_self _)
    refine AWp.exit ?_
    exact hK2 _ () Weak.toA hE
 rintro _ hE
 try dsimp only at hE
 unfold Z12_j2 at hE
 refine seqK fun K3 hK3 => ?_
 refine region ?_
 refine s0 (fieldVA (TK rfl) rfl rfl (TK rfl) rfl rfl) rfl ?_
 refine s0 (loadV (TK rfl) rfl rfl rfl) rfl ?_
 refine s0 (makeFunc rfl) rfl ?_
 obtain ⟨x4, gx4, hE⟩ := bindO_some hE
 refine s0 (callP rfl rfl (fun H => Z95_walk gx4 H (fun _ _ hx => Z13_walk hx))) rfl ?_
 refine s0 (notB rfl) rfl ?_
 refine s0 assignA rfl ?_
 refine nil ?_
 refine hK3 _ ?_
 clear hK3 K3
 refine AWp.ret ?_
 repeat (first | refine xBlock_ret ?_ | refine xThen_ret ?_)
 obtain rfl := Option.some.inj hE
 refine retQ.retF H rfl ⟨rfl, rfl⟩ ?_
 exact (fun _ _ h => h)
theorem fields_fits_all : ∀ (n : Nat), (∀ {a0 : TDoc} {a1 : TRef} {a2 : TValue}   {r : Bool}, fields_fits_n n a0 a1 a2 = some r → ∀ (H : Heap), ACalls Tryz.prog 123 [.agg (TDoc.c a0), .agg (TRef.c a1), .agg (TValue.c a2)] H fun v h' => v = .a (.d (.bool r)) ∧ h' = H) ∧ (∀ {a0 : TValue} {a1 : TDoc} {a2 : TRef}   {r : Bool}, fields_fits_1_n n a0 a1 a2 = some r → ∀ (H : Heap), ACalls Tryz.prog 140 [.agg (TValue.c a0), .d (.view (TDoc.c a1)), .d (.view (TRef.c a2))] H fun v h' => v = .a (.d (.bool r)) ∧ h' = H) ∧ (∀ {a0 : TDoc} {a1 : TDef} {a2 : TValue}   {r : Bool}, Z12_n n a0 a1 a2 = some r → ∀ (H : Heap), ACalls Tryz.prog 142 [.agg (TDoc.c a0), .agg (TDef.c a1), .agg (TValue.c a2)] H fun v h' => v = .a (.d (.bool r)) ∧ h' = H)
 | 0 => ⟨fun hE => by first | cases hE | (rw [fields_fits_n] at hE; cases hE), fun hE => by first | cases hE | (rw [fields_fits_1_n] at hE; cases hE), fun hE => by first | cases hE | (rw [Z12_n] at hE; cases hE)⟩
 | n + 1 => ⟨fields_fits_step n (fields_fits_all n).1 (fields_fits_all n).2.1 (fields_fits_all n).2.2, fields_fits_1_step n (fields_fits_all n).1 (fields_fits_all n).2.1 (fields_fits_all n).2.2, Z12_step n (fields_fits_all n).1 (fields_fits_all n).2.1 (fields_fits_all n).2.2⟩
def fields_fits (a0 : TDoc) (a1 : TRef) (a2 : TValue) : Option Bool := fields_fits_n F0 a0 a1 a2
theorem fields_fits_walk {a0 : TDoc} {a1 : TRef} {a2 : TValue}   {r : Bool} (hE : fields_fits a0 a1 a2 = some r) (H : Heap)  : ACalls Tryz.prog 123 [.agg (TDoc.c a0), .agg (TRef.c a1), .agg (TValue.c a2)] H fun v h' => v = .a (.d (.bool r)) ∧ h' = H := (fields_fits_all F0).1 hE H 
end Go.Proofs
