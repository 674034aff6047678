import Derived.Test.YtjlggcgmmpopmaaDoorV1
set_option maxRecDepth 100000
set_option maxHeartbeats 2000000
set_option linter.unusedVariables false
set_option linter.unusedSimpArgs false
namespace Go.Proofs
open Go Go.Ab
open AOps Cert AWp
variable {lou : Lou}
def Z62 (a0 : TValue) (a1 : Bs) : Option (TValue × Bool) := (Z49 a0.FKeys a1).bind fun x3 => bif (((!decide (a0.FKind = (6 : Int))) || (decide (x3 < (0 : Int)))) || (decide (((a0.FItems.l.length : Nat) : Int) ≤ x3))) then (some ((TValue.mk (0 : Int) (0 : Int) ([] : Bs) true ([]) (Sl.nil : Sl Bs)), false)) else ((idxC a0.FItems.l x3).bind fun x9 => (value_Copy x9).bind fun x10 => some (x10, true))
theorem Z62_walk {a0 : TValue} {a1 : Bs}   {r : (TValue × Bool)} (hE : Z62 a0 a1 = some r) (H : Heap)  : ACalls Tryd.prog 38 [.agg (TValue.c a0), .d (.str a1)] H fun v h' => v = .tup [.agg (TValue.c r.1), .d (.bool r.2)] ∧ h' = H := by
 unfold Z62 at hE
 refine ACalls.of_wp (fn := Tryd.f38) (c := _) Tryd.tab_ok (fun _ _ => Tryd.call38 _ _) Tryd.func38 rfl (n := 32) rfl (rs := [.cell 4 27, .tmp 5]) rfl rfl ?_
 refine seqK fun K1 hK1 => ?_
 refine region ?_
 refine s0 (boxV rfl) rfl ?_
 refine sL (allocLA (TK rfl) rfl) rfl ?_
 refine s0 assignA rfl ?_
 refine nil ?_
 refine hK1 _ ?_
 clear hK1 K1
 refine seqK fun K2 hK2 => ?_
 refine region ?_
 refine s0 (fieldVA (TK rfl) rfl rfl (TK rfl) rfl rfl) rfl ?_
 refine s0 (loadV (TK rfl) rfl rfl rfl) rfl ?_
 refine s0 moveA rfl ?_
 obtain ⟨x3, gx3, hE⟩ := bindO_some hE
 refine s0 (callP rfl rfl (fun H => Z49_walk gx3 H)) rfl ?_
 refine s0 assignA rfl ?_
 refine nil ?_
 refine hK2 _ ?_
 clear hK2 K2
 refine seqK fun K4 hK4 => ?_
 refine seqK fun K5 hK5 => ?_
 refine region ?_
 refine s0 (fieldVA (TK rfl) rfl rfl (TK rfl) rfl rfl) rfl ?_
 refine s0 (loadV (TK rfl) rfl rfl rfl) rfl ?_
 refine s0 (binI rfl rfl rfl) rfl ?_
 refine s0 moveA rfl ?_
 refine gC rfl rfl (fun hC => moveA) rfl ?_
 refine gC rfl rfl (fun hC => ungdA (k := 15) rfl (binI rfl rfl rfl)) rfl ?_
 refine s0 (pickOrA rfl rfl rfl) rfl ?_
 refine s0 moveA rfl ?_
 refine gC rfl rfl (fun hC => moveA) rfl ?_
 refine gC rfl rfl (fun hC => fieldVA (TK rfl) rfl rfl (TK rfl) rfl rfl) rfl ?_
 refine gC rfl rfl (fun hC => ungdA (k := 20) rfl (loadV (TK rfl) rfl rfl (congrArg (fun x => some (A.d x)) (TValue.FItemsD_eq _)))) rfl ?_
 refine gC rfl rfl (fun hC => ungdA (k := 21) rfl (lenM' (f := TValue.c) (s := a0.FItems) (TK rfl) rfl rfl rfl)) rfl ?_
 refine gC rfl rfl (fun hC => ungdA (k := 19) rfl (ungdA (k := 22) rfl (binI rfl rfl rfl))) rfl ?_
 refine s0 (pickOrA rfl rfl rfl) rfl ?_
 refine nil ?_
 refine hK5 _ ?_
 clear hK5 K5
 refine condE hE rfl (fun hc6 hE => ?_) (fun hc6 hE => ?_)
 ·refine seqK fun K7 hK7 => ?_
  refine region ?_
  refine s0 (build Tryd.tab_ok rfl rfl rfl rfl rfl rfl) rfl ?_
  refine sLn (storeLFA (TK rfl) rfl rfl rfl rfl rfl) ?_
  refine s0 assignA rfl ?_
  refine nil ?_
  refine hK7 _ ?_
  clear hK7 K7
  refine AWp.ret ?_
  repeat (first | refine xBlock_ret ?_ | refine xThen_ret ?_)
  obtain rfl := Option.some.inj hE
  refine retQ.retF H rfl ⟨rfl, rfl⟩ ?_
  exact (fun _ _ h => h)
 refine AWp.skip ?_
 refine hK4 _ ?_
 clear hK4 K4
 refine seqK fun K8 hK8 => ?_
 refine region ?_
 refine s0 (fieldVA (TK rfl) rfl rfl (TK rfl) rfl rfl) rfl ?_
 refine s0 (loadV (TK rfl) rfl rfl (congrArg (fun x => some (A.d x)) (TValue.FItemsD_eq _))) rfl ?_
 refine s0 moveA rfl ?_
 obtain ⟨x9, gx9, hE⟩ := bindO_some hE
 refine s0 (idxM (f := TValue.c) (TK rfl) rfl (TK rfl) rfl rfl rfl gx9) rfl ?_
 refine s0 (loadV (TK rfl) rfl rfl rfl) rfl ?_
 obtain ⟨x10, gx10, hE⟩ := bindO_some hE
 refine s0 (callP rfl rfl (fun H => value_Copy_walk gx10 H)) rfl ?_
 refine sLn (storeLFA (TK rfl) rfl rfl rfl rfl rfl) ?_
 refine s0 assignA rfl ?_
 refine nil ?_
 refine hK8 _ ?_
 clear hK8 K8
 refine AWp.ret ?_
 repeat (first | refine xBlock_ret ?_ | refine xThen_ret ?_)
 obtain rfl := Option.some.inj hE
 refine retQ.retF H rfl ⟨rfl, rfl⟩ ?_
 exact (fun _ _ h => h)
def Z10 (a0 : Coerce_coercer) (a1 : TValue) : Option Bool := bif ((!decide (a1.FKind = (7 : Int))) || (!a0.Fliteral)) then (some false) else ((Z62 a0.Fvars a1.FText).bind fun x7 => some (!x7.2))
theorem Z10_walk {a0 : Coerce_coercer} {a1 : TValue}  {c0 : Nat} {r : Bool} (hE : Z10 a0 a1 = some r) (H : Heap) (hc0 : H c0 = some (.cells (Coerce_coercer.c a0))) : ACalls Tryd.prog 27 [.d (.ptr c0 0), .agg (TValue.c a1)] H fun v h' => v = .a (.d (.bool r)) ∧ h' = H := by
 unfold Z10 at hE
 refine ACalls.of_wp (fn := Tryd.f27) (c := _) Tryd.tab_ok (fun _ _ => Tryd.call27 _ _) Tryd.func27 rfl (n := 29) rfl (rs := [.tmp 4]) rfl rfl ?_
 refine seqK fun K1 hK1 => ?_
 refine region ?_
 refine s0 (boxV rfl) rfl ?_
 refine s0 assignA rfl ?_
 refine nil ?_
 refine hK1 _ ?_
 clear hK1 K1
 refine seqK fun K2 hK2 => ?_
 refine seqK fun K3 hK3 => ?_
 refine region ?_
 refine s0 (fieldVA (TK rfl) rfl rfl (TK rfl) rfl rfl) rfl ?_
 refine s0 (loadV (TK rfl) rfl rfl rfl) rfl ?_
 refine s0 (binI rfl rfl rfl) rfl ?_
 refine s0 moveA rfl ?_
 refine gC rfl rfl (fun hC => moveA) rfl ?_
 refine gC rfl rfl (fun hC => ungdA (k := 11) rfl (nilP rfl)) rfl ?_
 refine gC rfl rfl (fun hC => ungdA (k := 12) rfl (fieldP (TK rfl) rfl rfl (TK rfl) rfl rfl)) rfl ?_
 refine gC rfl rfl (fun hC => ungdA (k := 13) rfl (loadP (TK rfl) rfl rfl hpG rfl)) rfl ?_
 refine gC rfl rfl (fun hC => ungdA (k := 14) rfl (notB rfl)) rfl ?_
 refine s0 (pickOrA rfl rfl rfl) rfl ?_
 refine nil ?_
 refine hK3 _ ?_
 clear hK3 K3
 refine condE hE rfl (fun hc4 hE => ?_) (fun hc4 hE => ?_)
 ·refine seqK fun K5 hK5 => ?_
  refine region ?_
  refine s0 assignA rfl ?_
  refine nil ?_
  refine hK5 _ ?_
  clear hK5 K5
  refine AWp.ret ?_
  repeat (first | refine xBlock_ret ?_ | refine xThen_ret ?_)
  obtain rfl := Option.some.inj hE
  refine retQ.retF H rfl ⟨rfl, rfl⟩ ?_
  exact (fun _ _ h => h)
 refine AWp.skip ?_
 refine hK2 _ ?_
 clear hK2 K2
 refine seqK fun K6 hK6 => ?_
 refine AWp.draw rfl ?_
 refine DOps.s0 moveA rfl ?_
 refine DOps.s0 (nilP rfl) rfl ?_
 refine DOps.s0 (fieldP (TK rfl) rfl rfl (TK rfl) rfl rfl) rfl ?_
 refine DOps.s0 (loadP (TK rfl) rfl rfl hpG rfl) rfl ?_
 refine DOps.s0 (fieldVA (TK rfl) rfl rfl (TK rfl) rfl rfl) rfl ?_
 refine DOps.s0 (loadV (TK rfl) rfl rfl rfl) rfl ?_
 obtain ⟨x7, gx7, hE⟩ := bindO_some hE
 refine DOps.s0 (callP rfl rfl (fun H => Z62_walk gx7 H)) rfl ?_
 refine DOps.s0 moveA rfl ?_
 refine DOps.s0 (extract rfl rfl) rfl ?_
 refine DOps.s0 (extract rfl rfl) rfl ?_
 refine DOps.sB (TK rfl) rfl rfl ?_ (by repeat (first | exact Snoc.nil | apply Snoc.cons))
 refine DOps.sLn (storeLFA (TK rfl) rfl rfl rfl rfl rfl) ?_
 refine DOps.s0 assignA rfl ?_
 refine DOps.nil (by decide +kernel) ?_
 refine hK6 _ ?_
 clear hK6 K6
 refine freezeA 5 _ rfl (Keeps.c (k := 6) (by conv => lhs; whnf) (by rfl) Keeps.nil) ?_
 refine seqK fun K8 hK8 => ?_
 refine region ?_
 refine s0 moveA rfl ?_
 refine s0 (notB rfl) rfl ?_
 refine s0 assignA rfl ?_
 refine nil ?_
 refine hK8 _ ?_
 clear hK8 K8
 refine AWp.ret ?_
 repeat (first | refine xBlock_ret ?_ | refine xThen_ret ?_)
 obtain rfl := Option.some.inj hE
 refine retQ.retF H rfl ⟨rfl, rfl⟩ ?_
 exact (fun _ _ h => h)
def Z37_j2  (y3_l0 : TDef) : Option (TDef × Bool) := some ((TDef.mk (0 : Int) ([] : Bs) (Sl.nil : Sl Bs) (Sl.nil : Sl TDir) (Sl.nil : Sl TField) (Sl.nil : Sl TMember) (Sl.nil : Sl TInput)), false)
def Z37_l7 (a0 : TDoc) (a1 : Bs)  : Nat → Nat → TDef → Option (TDef × Bool)
 | 0, _, _ => none
 | n7 + 1, s11_8, y9_l0 => bif (decide (((s11_8 : Nat) : Int) < ((a0.FDefs.l.length : Nat) : Int))) then ((a0.FDefs.l[s11_8]?).bind fun x15 => bif ((x15.FName == a1)) then (some (x15, true)) else ((Z37_l7 a0 a1 n7) (s11_8 + 1) y9_l0)) else (Z37_j2   y9_l0)
def Z37 (a0 : TDoc) (a1 : Bs) : Option (TDef × Bool) := Z37_l7 a0 a1 (a0.FDefs.l.length + 1) 0 TDef.zero
theorem Z37_walk {a0 : TDoc} {a1 : Bs}   {r : (TDef × Bool)} (hE : Z37 a0 a1 = some r) (H : Heap)  : ACalls Tryd.prog 58 [.agg (TDoc.c a0), .d (.str a1)] H fun v h' => v = .tup [.agg (TDef.c r.1), .d (.bool r.2)] ∧ h' = H := by
 unfold Z37 at hE
 refine ACalls.of_wp (fn := Tryd.f58) (c := _) Tryd.tab_ok (fun _ _ => Tryd.call58 _ _) Tryd.func58 rfl (n := 22) rfl (rs := [.cell 4 57, .tmp 5]) rfl rfl ?_
 refine seqK fun K1 hK1 => ?_
 refine region ?_
 refine s0 (boxV rfl) rfl ?_
 refine sL (allocLA (TK rfl) rfl) rfl ?_
 refine s0 assignA rfl ?_
 refine nil ?_
 refine hK1 _ ?_
 clear hK1 K1
 refine seqJ (KeepsT.A (k := 4) KeepsT.nil) (fun (z : TDef) => []) (fun z => [TDef.c z]) (fun z => H) (fun z => Z37_j2 z = some r) ?_ ?_
 ·intro K2 hK2
  refine seqK fun K5 hK5 => ?_
  refine region ?_
  refine s0 (fieldVA (TK rfl) rfl rfl (TK rfl) rfl rfl) rfl ?_
  refine s0 (loadV (TK rfl) rfl rfl rfl) rfl ?_
  refine sLen (f := TDef.c) (s := a0.FDefs) (TK rfl) rfl rfl rfl rfl fun hL6 => ?_
  refine s0 moveA rfl ?_
  refine nil ?_
  refine hK5 _ ?_
  clear hK5 K5
  refine block ?_
  refine loopO (KeepsT.A (k := 1) (KeepsT.A (k := 4) (KeepsT.A (k := 9) (KeepsT.A (k := 10) KeepsT.nil)))) (fun (z : Nat × Nat × TDef) => [(11, .a (.d (.int .i64 ((z.2.1 : Nat) : Int))))]) (fun z => [TDef.c z.2.2]) (fun z => H) (fun z => z.1) (fun z => Z37_l7 a0 a1 z.1 z.2.1 z.2.2 = some r) ((a0.FDefs.l.length + 1), 0, TDef.zero) hE Weak.toA ?_
  rintro ⟨n7, s11_8, y9_l0⟩ hE K7 hK7
  try dsimp only at hE
  cases n7 with
  | zero => cases hE
  | succ n7 =>
    rw [Z37_l7] at hE
    refine seqK fun K10 hK10 => ?_
    refine region ?_
    refine s0 (binI rfl rfl rfl) rfl ?_
    refine nil ?_
    refine hK10 _ ?_
    clear hK10 K10
    refine seqK fun K11 hK11 => ?_
    refine condE hE rfl (fun hc12 hE => ?_) (fun hc12 hE => ?_)
    ·try dsimp only at hc12
     have hf12 := of_decide_eq_true hc12
     refine AWp.skip ?_
     refine hK11 _ ?_
     clear hK11 K11
     refine seqK fun K13 hK13 => ?_
     refine block ?_
     refine seqK fun K14 hK14 => ?_
     refine region ?_
     obtain ⟨x15, gx15, hE⟩ := bindO_some hE
     refine s0 (idxMn (f := TDef.c) (n := s11_8) (TK rfl) rfl (TK rfl) rfl rfl rfl gx15) rfl ?_
     refine s0 (loadV (TK rfl) rfl rfl rfl) rfl ?_
     refine sL (allocLA (TK rfl) rfl) rfl ?_
     refine sLn (storeLFA (TK rfl) rfl rfl rfl rfl rfl) ?_
     refine nil ?_
     refine hK14 _ ?_
     clear hK14 K14
     refine freezeA 7 _ rfl (Keeps.c (k := 1) (by conv => lhs; whnf) (by rfl) (Keeps.c (k := 4) (by conv => lhs; whnf) (by rfl) (Keeps.c (k := 9) (by conv => lhs; whnf) (by rfl) (Keeps.c (k := 10) (by conv => lhs; whnf) (by rfl) (Keeps.c (k := 11) (by conv => lhs; whnf) (by rfl) Keeps.nil))))) ?_
     refine seqK fun K16 hK16 => ?_
     refine region ?_
     refine s0 (fieldVA (TK rfl) rfl rfl (TK rfl) rfl rfl) rfl ?_
     refine s0 (loadV (TK rfl) rfl rfl rfl) rfl ?_
     refine s0 moveA rfl ?_
     refine s0 (binS rfl rfl rfl) rfl ?_
     refine nil ?_
     refine hK16 _ ?_
     clear hK16 K16
     refine condE hE rfl (fun hc17 hE => ?_) (fun hc17 hE => ?_)
     ·refine seqK fun K18 hK18 => ?_
      refine region ?_
      refine s0 (loadV (TK rfl) rfl rfl rfl) rfl ?_
      refine sLn (storeLFA (TK rfl) rfl rfl rfl rfl rfl) ?_
      refine s0 assignA rfl ?_
      refine nil ?_
      refine hK18 _ ?_
      clear hK18 K18
      refine AWp.ret ?_
      repeat (first | refine xBlock_ret ?_ | refine xThen_ret ?_)
      obtain rfl := Option.some.inj hE
      refine retQ.retF H rfl ⟨rfl, rfl⟩ ?_
      exact (fun _ _ h => h)
     refine AWp.skip ?_
     refine hK13 _ ?_
     clear hK13 K13
     refine region ?_
     refine s0 (addIA rfl rfl) rfl ?_
     refine s0 moveA rfl ?_
     refine nil ?_
     exact hK7 _ (n7, (s11_8 + 1), y9_l0) Weak.toA hE (Nat.lt_succ_self _)
    refine AWp.exit ?_
    exact hK2 _ y9_l0 Weak.toA hE
 rintro y3_l0 hE
 try dsimp only at hE
 unfold Z37_j2 at hE
 refine seqK fun K4 hK4 => ?_
 refine region ?_
 refine s0 (build Tryd.tab_ok rfl rfl rfl rfl rfl rfl) rfl ?_
 refine sLn (storeLFA (TK rfl) rfl rfl rfl rfl rfl) ?_
 refine s0 assignA rfl ?_
 refine nil ?_
 refine hK4 _ ?_
 clear hK4 K4
 refine AWp.ret ?_
 repeat (first | refine xBlock_ret ?_ | refine xThen_ret ?_)
 obtain rfl := Option.some.inj hE
 refine retQ.retF H rfl ⟨rfl, rfl⟩ ?_
 exact (fun _ _ h => h)
def Z42 (a0 : TDoc) (a1 : Bs) : Option Int := (Z37 a0 a1).bind fun x3 => some x3.1.FKind
theorem Z42_walk {a0 : TDoc} {a1 : Bs}   {r : Int} (hE : Z42 a0 a1 = some r) (H : Heap)  : ACalls Tryd.prog 52 [.agg (TDoc.c a0), .d (.str a1)] H fun v h' => v = .a (.d (.int .i64 r)) ∧ h' = H := by
 unfold Z42 at hE
 refine ACalls.of_wp (fn := Tryd.f52) (c := _) Tryd.tab_ok (fun _ _ => Tryd.call52 _ _) Tryd.func52 rfl (n := 15) rfl (rs := [.tmp 4]) rfl rfl ?_
 refine seqK fun K1 hK1 => ?_
 refine region ?_
 refine s0 (boxV rfl) rfl ?_
 refine s0 assignA rfl ?_
 refine nil ?_
 refine hK1 _ ?_
 clear hK1 K1
 refine seqK fun K2 hK2 => ?_
 refine region ?_
 refine s0 (loadV (TK rfl) rfl rfl rfl) rfl ?_
 refine s0 moveA rfl ?_
 obtain ⟨x3, gx3, hE⟩ := bindO_some hE
 refine s0 (callP rfl rfl (fun H => Z37_walk gx3 H)) rfl ?_
 refine s0 moveA rfl ?_
 refine s0 (extract rfl rfl) rfl ?_
 refine s0 (extract rfl rfl) rfl ?_
 refine sL (allocLA (TK rfl) rfl) rfl ?_
 refine sLn (storeLFA (TK rfl) rfl rfl rfl rfl rfl) ?_
 refine s0 assignA rfl ?_
 refine nil ?_
 refine hK2 _ ?_
 clear hK2 K2
 refine freezeA 5 _ rfl Keeps.nil ?_
 refine seqK fun K4 hK4 => ?_
 refine region ?_
 refine s0 (fieldVA (TK rfl) rfl rfl (TK rfl) rfl rfl) rfl ?_
 refine s0 (loadV (TK rfl) rfl rfl rfl) rfl ?_
 refine s0 assignA rfl ?_
 refine nil ?_
 refine hK4 _ ?_
 clear hK4 K4
 refine AWp.ret ?_
 repeat (first | refine xBlock_ret ?_ | refine xThen_ret ?_)
 obtain rfl := Option.some.inj hE
 refine retQ.retF H rfl ⟨rfl, rfl⟩ ?_
 exact (fun _ _ h => h)
def Z41 (a0 : Bs) : Option Bool := some (((((a0 == ([73, 110, 116] : Bs))) || ((a0 == ([83, 116, 114, 105, 110, 103] : Bs)))) || ((a0 == ([66, 111, 111, 108, 101, 97, 110] : Bs)))) || ((a0 == ([73, 68] : Bs))))
theorem Z41_walk {a0 : Bs}   {r : Bool} (hE : Z41 a0 = some r) (H : Heap)  : ACalls Tryd.prog 59 [.d (.str a0)] H fun v h' => v = .a (.d (.bool r)) ∧ h' = H := by
 unfold Z41 at hE
 refine ACalls.of_wp (fn := Tryd.f59) (c := _) Tryd.tab_ok (fun _ _ => Tryd.call59 _ _) Tryd.func59 rfl (n := 17) rfl (rs := [.tmp 2]) rfl rfl ?_
 refine seqK fun K1 hK1 => ?_
 refine region ?_
 refine s0 assignA rfl ?_
 refine nil ?_
 refine hK1 _ ?_
 clear hK1 K1
 refine seqK fun K2 hK2 => ?_
 refine region ?_
 refine s0 moveA rfl ?_
 refine s0 (binS rfl rfl rfl) rfl ?_
 refine s0 moveA rfl ?_
 refine gC rfl rfl (fun hC => moveA) rfl ?_
 refine gC rfl rfl (fun hC => ungdA (k := 6) rfl (binS rfl rfl rfl)) rfl ?_
 refine s0 (pickOrA rfl rfl rfl) rfl ?_
 refine s0 moveA rfl ?_
 refine gC rfl rfl (fun hC => moveA) rfl ?_
 refine gC rfl rfl (fun hC => ungdA (k := 10) rfl (binS rfl rfl rfl)) rfl ?_
 refine s0 (pickOrA rfl rfl rfl) rfl ?_
 refine s0 moveA rfl ?_
 refine gC rfl rfl (fun hC => moveA) rfl ?_
 refine gC rfl rfl (fun hC => ungdA (k := 14) rfl (binS rfl rfl rfl)) rfl ?_
 refine s0 (pickOrA rfl rfl rfl) rfl ?_
 refine s0 assignA rfl ?_
 refine nil ?_
 refine hK2 _ ?_
 clear hK2 K2
 refine AWp.ret ?_
 repeat (first | refine xBlock_ret ?_ | refine xThen_ret ?_)
 obtain rfl := Option.some.inj hE
 refine retQ.retF H rfl ⟨rfl, rfl⟩ ?_
 exact (fun _ _ h => h)
def Z40 (a0 : TDoc) (a1 : Bs) : Option Bool := (Z41 a1).bind fun x3 => guardO (!x3) (Z42 a0 a1) (0 : Int) fun x4 => some (x3 || (decide (x4 = (4 : Int))))
theorem Z40_walk {a0 : TDoc} {a1 : Bs}   {r : Bool} (hE : Z40 a0 a1 = some r) (H : Heap)  : ACalls Tryd.prog 51 [.agg (TDoc.c a0), .d (.str a1)] H fun v h' => v = .a (.d (.bool r)) ∧ h' = H := by
 unfold Z40 at hE
 refine ACalls.of_wp (fn := Tryd.f51) (c := _) Tryd.tab_ok (fun _ _ => Tryd.call51 _ _) Tryd.func51 rfl (n := 13) rfl (rs := [.tmp 4]) rfl rfl ?_
 refine seqK fun K1 hK1 => ?_
 refine region ?_
 refine s0 (boxV rfl) rfl ?_
 refine s0 assignA rfl ?_
 refine nil ?_
 refine hK1 _ ?_
 clear hK1 K1
 refine seqK fun K2 hK2 => ?_
 refine region ?_
 refine s0 moveA rfl ?_
 obtain ⟨x3, gx3, hE⟩ := bindO_some hE
 refine s0 (callP rfl rfl (fun H => Z41_walk gx3 H)) rfl ?_
 refine s0 moveA rfl ?_
 refine gC rfl rfl (fun hC => loadV (TK rfl) rfl rfl rfl) rfl ?_
 refine gC rfl rfl (fun hC => moveA) rfl ?_
 obtain ⟨x4, gx4, hE⟩ := guardO_some hE
 refine gC rfl rfl (fun hC => ungdA (k := 8) rfl (ungdA (k := 9) rfl (callP rfl rfl (fun H => Z42_walk (gx4 hC) H)))) rfl ?_
 refine gC rfl rfl (fun hC => ungdA (k := 10) rfl (binI rfl rfl rfl)) rfl ?_
 refine s0 (pickOrA rfl rfl rfl) rfl ?_
 refine s0 assignA rfl ?_
 refine nil ?_
 refine hK2 _ ?_
 clear hK2 K2
 refine AWp.ret ?_
 repeat (first | refine xBlock_ret ?_ | refine xThen_ret ?_)
 obtain rfl := Option.some.inj hE
 refine retQ.retF H rfl ⟨rfl, rfl⟩ ?_
 exact (fun _ _ h => h)
def Z39 (a0 : TDoc) (a1 : Bs) : Option Bool := (Z40 a0 a1).bind fun x3 => guardO (!x3) (Z42 a0 a1) (0 : Int) fun x4 => some (x3 || (decide (x4 = (5 : Int))))
theorem Z39_walk {a0 : TDoc} {a1 : Bs}   {r : Bool} (hE : Z39 a0 a1 = some r) (H : Heap)  : ACalls Tryd.prog 28 [.agg (TDoc.c a0), .d (.str a1)] H fun v h' => v = .a (.d (.bool r)) ∧ h' = H := by
 unfold Z39 at hE
 refine ACalls.of_wp (fn := Tryd.f28) (c := _) Tryd.tab_ok (fun _ _ => Tryd.call28 _ _) Tryd.func28 rfl (n := 14) rfl (rs := [.tmp 4]) rfl rfl ?_
 refine seqK fun K1 hK1 => ?_
 refine region ?_
 refine s0 (boxV rfl) rfl ?_
 refine s0 assignA rfl ?_
 refine nil ?_
 refine hK1 _ ?_
 clear hK1 K1
 refine seqK fun K2 hK2 => ?_
 refine region ?_
 refine s0 (loadV (TK rfl) rfl rfl rfl) rfl ?_
 refine s0 moveA rfl ?_
 obtain ⟨x3, gx3, hE⟩ := bindO_some hE
 refine s0 (callP rfl rfl (fun H => Z40_walk gx3 H)) rfl ?_
 refine s0 moveA rfl ?_
 refine gC rfl rfl (fun hC => loadV (TK rfl) rfl rfl rfl) rfl ?_
 refine gC rfl rfl (fun hC => moveA) rfl ?_
 obtain ⟨x4, gx4, hE⟩ := guardO_some hE
 refine gC rfl rfl (fun hC => ungdA (k := 9) rfl (ungdA (k := 10) rfl (callP rfl rfl (fun H => Z42_walk (gx4 hC) H)))) rfl ?_
 refine gC rfl rfl (fun hC => ungdA (k := 11) rfl (binI rfl rfl rfl)) rfl ?_
 refine s0 (pickOrA rfl rfl rfl) rfl ?_
 refine s0 assignA rfl ?_
 refine nil ?_
 refine hK2 _ ?_
 clear hK2 K2
 refine AWp.ret ?_
 repeat (first | refine xBlock_ret ?_ | refine xThen_ret ?_)
 obtain rfl := Option.some.inj hE
 refine retQ.retF H rfl ⟨rfl, rfl⟩ ?_
 exact (fun _ _ h => h)
def Z14 (a0 : TValue) (a1 : Int) : Option (TValue × Int) := bif (!decide (a1 = (0 : Int))) then (some ((TValue.mk (0 : Int) (0 : Int) ([] : Bs) true ([]) (Sl.nil : Sl Bs)), a1)) else ((value_Copy a0).bind fun x7 => some (x7, (0 : Int)))
theorem Z14_walk {a0 : TValue} {a1 : Int}   {r : (TValue × Int)} (hE : Z14 a0 a1 = some r) (H : Heap)  : ACalls Tryd.prog 29 [.agg (TValue.c a0), .d (.int .i64 a1)] H fun v h' => v = .tup [.agg (TValue.c r.1), .d (.int .i64 r.2)] ∧ h' = H := by
 unfold Z14 at hE
 refine ACalls.of_wp (fn := Tryd.f29) (c := _) Tryd.tab_ok (fun _ _ => Tryd.call29 _ _) Tryd.func29 rfl (n := 12) rfl (rs := [.cell 4 27, .tmp 5]) rfl rfl ?_
 refine seqK fun K1 hK1 => ?_
 refine region ?_
 refine s0 (boxV rfl) rfl ?_
 refine sL (allocLA (TK rfl) rfl) rfl ?_
 refine s0 assignA rfl ?_
 refine nil ?_
 refine hK1 _ ?_
 clear hK1 K1
 refine seqK fun K2 hK2 => ?_
 refine seqK fun K3 hK3 => ?_
 refine region ?_
 refine s0 moveA rfl ?_
 refine s0 (binI rfl rfl rfl) rfl ?_
 refine nil ?_
 refine hK3 _ ?_
 clear hK3 K3
 refine condE hE rfl (fun hc4 hE => ?_) (fun hc4 hE => ?_)
 ·refine seqK fun K5 hK5 => ?_
  refine region ?_
  refine s0 (build Tryd.tab_ok rfl rfl rfl rfl rfl rfl) rfl ?_
  refine s0 moveA rfl ?_
  refine sLn (storeLFA (TK rfl) rfl rfl rfl rfl rfl) ?_
  refine s0 assignA rfl ?_
  refine nil ?_
  refine hK5 _ ?_
  clear hK5 K5
  refine AWp.ret ?_
  repeat (first | refine xBlock_ret ?_ | refine xThen_ret ?_)
  obtain rfl := Option.some.inj hE
  refine retQ.retF H rfl ⟨rfl, rfl⟩ ?_
  exact (fun _ _ h => h)
 refine AWp.skip ?_
 refine hK2 _ ?_
 clear hK2 K2
 refine seqK fun K6 hK6 => ?_
 refine region ?_
 refine s0 (loadV (TK rfl) rfl rfl rfl) rfl ?_
 obtain ⟨x7, gx7, hE⟩ := bindO_some hE
 refine s0 (callP rfl rfl (fun H => value_Copy_walk gx7 H)) rfl ?_
 refine sLn (storeLFA (TK rfl) rfl rfl rfl rfl rfl) ?_
 refine s0 assignA rfl ?_
 refine nil ?_
 refine hK6 _ ?_
 clear hK6 K6
 refine AWp.ret ?_
 repeat (first | refine xBlock_ret ?_ | refine xThen_ret ?_)
 obtain rfl := Option.some.inj hE
 refine retQ.retF H rfl ⟨rfl, rfl⟩ ?_
 exact (fun _ _ h => h)
def Z60 (a0 : TRef) : Option Bool := guardO ((decide ((0 : Int) < ((a0.FWraps.l.length : Nat) : Int)))) (a0.FWraps.l[0]?) (0 : Int) fun x4 => some ((decide ((0 : Int) < ((a0.FWraps.l.length : Nat) : Int))) && (decide (x4 = (1 : Int))))
theorem Z60_walk {a0 : TRef}   {r : Bool} (hE : Z60 a0 = some r) (H : Heap)  : ACalls Tryd.prog 35 [.agg (TRef.c a0)] H fun v h' => v = .a (.d (.bool r)) ∧ h' = H := by
 unfold Z60 at hE
 refine ACalls.of_wp (fn := Tryd.f35) (c := _) Tryd.tab_ok (fun _ _ => Tryd.call35 _ _) Tryd.func35 rfl (n := 14) rfl (rs := [.tmp 2]) rfl rfl ?_
 refine seqK fun K1 hK1 => ?_
 refine region ?_
 refine s0 (boxV rfl) rfl ?_
 refine s0 assignA rfl ?_
 refine nil ?_
 refine hK1 _ ?_
 clear hK1 K1
 refine seqK fun K2 hK2 => ?_
 refine region ?_
 refine s0 (fieldVA (TK rfl) rfl rfl (TK rfl) rfl rfl) rfl ?_
 refine s0 (loadV (TK rfl) rfl rfl rfl) rfl ?_
 refine sLen (f := (intE .i64)) (s := a0.FWraps) (TK rfl) rfl rfl rfl rfl fun hL3 => ?_
 refine s0 (binI rfl rfl rfl) rfl ?_
 refine s0 moveA rfl ?_
 refine gC rfl rfl (fun hC => fieldVA (TK rfl) rfl rfl (TK rfl) rfl rfl) rfl ?_
 refine gC rfl rfl (fun hC => ungdA (k := 8) rfl (loadV (TK rfl) rfl rfl rfl)) rfl ?_
 obtain ⟨x4, gx4, hE⟩ := guardO_some hE
 refine gC rfl rfl (fun hC => ungdA (k := 9) rfl (idxMn (f := (intE .i64)) (n := 0) (TK rfl) rfl (TK rfl) rfl rfl rfl (gx4 hC))) rfl ?_
 refine gC rfl rfl (fun hC => ungdA (k := 10) rfl (loadV (TK rfl) rfl rfl rfl)) rfl ?_
 refine gC rfl rfl (fun hC => ungdA (k := 11) rfl (binI rfl rfl rfl)) rfl ?_
 refine s0 (pickAndA rfl rfl rfl) rfl ?_
 refine s0 assignA rfl ?_
 refine nil ?_
 refine hK2 _ ?_
 clear hK2 K2
 refine AWp.ret ?_
 repeat (first | refine xBlock_ret ?_ | refine xThen_ret ?_)
 obtain rfl := Option.some.inj hE
 refine retQ.retF H rfl ⟨rfl, rfl⟩ ?_
 exact (fun _ _ h => h)
def Z7 (a0 : Coerce_coercer) (a1 : Int) : Option (Int × Coerce_coercer) := bif (decide ((24 : Int) < a1)) then (some ((5 : Int), a0)) else ((addC a0.Fnodes (1 : Int)).bind fun x7 => bif (decide ((4096 : Int) < x7)) then (some ((4 : Int), (Coerce_coercer.mk a0.Fd a0.Fvars a0.Fliteral x7))) else (some ((0 : Int), (Coerce_coercer.mk a0.Fd a0.Fvars a0.Fliteral x7))))
theorem Z7_walk {a0 : Coerce_coercer} {a1 : Int}  {c0 : Nat} {r : (Int × Coerce_coercer)} (hE : Z7 a0 a1 = some r) (H : Heap) (hc0 : H c0 = some (.cells (Coerce_coercer.c a0))) : ACalls Tryd.prog 55 [.d (.ptr c0 0), .d (.int .i64 a1)] H fun v h' => v = .a (.d (.int .i64 r.1)) ∧ h' = (H.set c0 (some (.cells (Coerce_coercer.c r.2)))) := by
 unfold Z7 at hE
 refine ACalls.of_wp (fn := Tryd.f55) (c := _) Tryd.tab_ok (fun _ _ => Tryd.call55 _ _) Tryd.func55 rfl (n := 19) rfl (rs := [.tmp 4]) rfl rfl ?_
 refine AWp.heqA (h' := (H.set c0 (some (.cells (Coerce_coercer.c a0))))) (by funext n_; simp only [Heap.set]; (repeat' split) <;> simp_all) ?_
 refine seqK fun K1 hK1 => ?_
 refine region ?_
 refine s0 assignA rfl ?_
 refine nil ?_
 refine hK1 _ ?_
 clear hK1 K1
 refine seqK fun K2 hK2 => ?_
 refine seqK fun K3 hK3 => ?_
 refine region ?_
 refine s0 moveA rfl ?_
 refine s0 (binI rfl rfl rfl) rfl ?_
 refine nil ?_
 refine hK3 _ ?_
 clear hK3 K3
 refine condE hE rfl (fun hc4 hE => ?_) (fun hc4 hE => ?_)
 ·refine seqK fun K5 hK5 => ?_
  refine region ?_
  refine s0 assignA rfl ?_
  refine nil ?_
  refine hK5 _ ?_
  clear hK5 K5
  refine AWp.ret ?_
  repeat (first | refine xBlock_ret ?_ | refine xThen_ret ?_)
  obtain rfl := Option.some.inj hE
  refine retQ.retF (H.set c0 (some (.cells (Coerce_coercer.c a0)))) rfl ⟨rfl, rfl⟩ ?_
  exact (fun _ _ h => h)
 refine AWp.skip ?_
 refine hK2 _ ?_
 clear hK2 K2
 refine seqK fun K6 hK6 => ?_
 refine region ?_
 refine s0 moveA rfl ?_
 refine s0 (nilP rfl) rfl ?_
 refine s0 (fieldP (TK rfl) rfl rfl (TK rfl) rfl rfl) rfl ?_
 refine s0 (loadP (TK rfl) rfl rfl hpG rfl) rfl ?_
 obtain ⟨x7, gx7, hE⟩ := bindO_some hE
 refine s0 (addM rfl rfl gx7) rfl ?_
 refine s0 (nilP rfl) rfl ?_
 refine s0 (fieldP (TK rfl) rfl rfl (TK rfl) rfl rfl) rfl ?_
 refine sHn (storeP1 (TK rfl) rfl rfl hpG rfl (by repeat (first | exact SetAt.zero | apply SetAt.succ))) rfl rfl ?_
 refine AOps.heq (h' := (H.set c0 (some (.cells (Coerce_coercer.c (Coerce_coercer.mk a0.Fd a0.Fvars a0.Fliteral x7)))))) (by first | rfl | (rw [Heap.set_set]; rfl) | (funext n_; simp only [Heap.set]; (repeat' split) <;> first | rfl | (exfalso; simp_all; done) | (simp_all; done))) ?_
 refine nil ?_
 refine hK6 _ ?_
 clear hK6 K6
 refine seqK fun K8 hK8 => ?_
 refine seqK fun K9 hK9 => ?_
 refine region ?_
 refine s0 moveA rfl ?_
 refine s0 (nilP rfl) rfl ?_
 refine s0 (fieldP (TK rfl) rfl rfl (TK rfl) rfl rfl) rfl ?_
 refine s0 (loadP (TK rfl) rfl rfl hpG rfl) rfl ?_
 refine s0 (binI rfl rfl rfl) rfl ?_
 refine nil ?_
 refine hK9 _ ?_
 clear hK9 K9
 refine condE hE rfl (fun hc10 hE => ?_) (fun hc10 hE => ?_)
 ·refine seqK fun K11 hK11 => ?_
  refine region ?_
  refine s0 assignA rfl ?_
  refine nil ?_
  refine hK11 _ ?_
  clear hK11 K11
  refine AWp.ret ?_
  repeat (first | refine xBlock_ret ?_ | refine xThen_ret ?_)
  obtain rfl := Option.some.inj hE
  refine retQ.retF (H.set c0 (some (.cells (Coerce_coercer.c (Coerce_coercer.mk a0.Fd a0.Fvars a0.Fliteral x7))))) rfl ⟨rfl, rfl⟩ ?_
  exact (fun _ _ h => h)
 refine AWp.skip ?_
 refine hK8 _ ?_
 clear hK8 K8
 refine seqK fun K12 hK12 => ?_
 refine region ?_
 refine s0 assignA rfl ?_
 refine nil ?_
 refine hK12 _ ?_
 clear hK12 K12
 refine AWp.ret ?_
 repeat (first | refine xBlock_ret ?_ | refine xThen_ret ?_)
 obtain rfl := Option.some.inj hE
 refine retQ.retF (H.set c0 (some (.cells (Coerce_coercer.c (Coerce_coercer.mk a0.Fd a0.Fvars a0.Fliteral x7))))) rfl ⟨rfl, rfl⟩ ?_
 exact (fun _ _ h => h)
def Z13_j8  (y9_c0 : Coerce_coercer) : Option (Int × Coerce_coercer) := some ((0 : Int), y9_c0)
def Z13_l13 (a1 : TValue) (a2 : Int) (k_rec_54 : Coerce_coercer → TValue → Int → Option (Int × Coerce_coercer)) : Nat → Nat → Coerce_coercer → Option (Int × Coerce_coercer)
 | 0, _, _ => none
 | n13 + 1, s20_14, y15_c0 => bif (decide (((s20_14 : Nat) : Int) < ((a1.FItems.l.length : Nat) : Int))) then ((a1.FItems.l[s20_14]?).bind fun x21 => (addC a2 (1 : Int)).bind fun x23 => (k_rec_54 y15_c0 x21 x23).bind fun x24 => bif (!decide (x24.1 = (0 : Int))) then (some (x24.1, x24.2)) else ((Z13_l13 a1 a2 k_rec_54 n13) (s20_14 + 1) x24.2)) else (Z13_j8   y15_c0)
def Z13_n : Nat → Coerce_coercer → TValue → Int → Option (Int × Coerce_coercer)
 | 0, _, _, _ => none
 | n + 1, a0, a1, a2 => (Z7 a0 a2).bind fun x4 => bif (!decide (x4.1 = (0 : Int))) then (some (x4.1, x4.2)) else (Z13_l13 a1 a2 (Z13_n n) (a1.FItems.l.length + 1) 0 x4.2)
theorem Z13_step (n : Nat) (ih_54 : ∀ {a0 : Coerce_coercer} {a1 : TValue} {a2 : Int}  {c0 : Nat} {r : (Int × Coerce_coercer)}, Z13_n n a0 a1 a2 = some r → ∀ (H : Heap) (hc0 : H c0 = some (.cells (Coerce_coercer.c a0))), ACalls Tryd.prog 54 [.d (.ptr c0 0), .agg (TValue.c a1), .d (.int .i64 a2)] H fun v h' => v = .a (.d (.int .i64 r.1)) ∧ h' = (H.set c0 (some (.cells (Coerce_coercer.c r.2))))) : ∀ {a0 : Coerce_coercer} {a1 : TValue} {a2 : Int}  {c0 : Nat} {r : (Int × Coerce_coercer)}, Z13_n (n + 1) a0 a1 a2 = some r → ∀ (H : Heap) (hc0 : H c0 = some (.cells (Coerce_coercer.c a0))), ACalls Tryd.prog 54 [.d (.ptr c0 0), .agg (TValue.c a1), .d (.int .i64 a2)] H fun v h' => v = .a (.d (.int .i64 r.1)) ∧ h' = (H.set c0 (some (.cells (Coerce_coercer.c r.2)))) := by
 intro a0 a1 a2  c0 r hE H hc0
 rw [Z13_n] at hE
 refine ACalls.of_wp (fn := Tryd.f54) (c := _) Tryd.tab_ok (fun _ _ => Tryd.call54 _ _) Tryd.func54 rfl (n := 33) rfl (rs := [.tmp 6]) rfl rfl ?_
 refine AWp.heqA (h' := (H.set c0 (some (.cells (Coerce_coercer.c a0))))) (by funext n_; simp only [Heap.set]; (repeat' split) <;> simp_all) ?_
 refine seqK fun K1 hK1 => ?_
 refine region ?_
 refine s0 (boxV rfl) rfl ?_
 refine s0 assignA rfl ?_
 refine nil ?_
 refine hK1 _ ?_
 clear hK1 K1
 refine seqK fun K2 hK2 => ?_
 refine seqK fun K3 hK3 => ?_
 refine region ?_
 refine s0 moveA rfl ?_
 refine s0 moveA rfl ?_
 obtain ⟨x4, gx4, hE⟩ := bindO_some hE
 refine sH (callH rfl rfl (Z7_walk gx4 _ hpG)) rfl ?_
 refine AOps.heq (h' := (H.set c0 (some (.cells (Coerce_coercer.c x4.2))))) (by first | rfl | (rw [Heap.set_set]; rfl) | (funext n_; simp only [Heap.set]; (repeat' split) <;> first | rfl | (exfalso; simp_all; done) | (simp_all; done))) ?_
 refine s0 assignA rfl ?_
 refine nil ?_
 refine hK3 _ ?_
 clear hK3 K3
 refine seqK fun K5 hK5 => ?_
 refine region ?_
 refine s0 moveA rfl ?_
 refine s0 (binI rfl rfl rfl) rfl ?_
 refine nil ?_
 refine hK5 _ ?_
 clear hK5 K5
 refine condE hE rfl (fun hc6 hE => ?_) (fun hc6 hE => ?_)
 ·refine seqK fun K7 hK7 => ?_
  refine region ?_
  refine s0 moveA rfl ?_
  refine s0 assignA rfl ?_
  refine nil ?_
  refine hK7 _ ?_
  clear hK7 K7
  refine AWp.ret ?_
  repeat (first | refine xBlock_ret ?_ | refine xThen_ret ?_)
  obtain rfl := Option.some.inj hE
  refine retQ.retF (H.set c0 (some (.cells (Coerce_coercer.c x4.2)))) rfl ⟨rfl, rfl⟩ ?_
  exact (fun _ _ h => h)
 refine AWp.skip ?_
 refine hK2 _ ?_
 clear hK2 K2
 refine seqJH KeepsT.nil (fun (z : Coerce_coercer) => []) (fun z => (H.set c0 (some (.cells (Coerce_coercer.c z))))) (fun z => Z13_j8 z = some r) ?_ ?_
 ·intro K8 hK8
  refine seqK fun K11 hK11 => ?_
  refine region ?_
  refine s0 (fieldVA (TK rfl) rfl rfl (TK rfl) rfl rfl) rfl ?_
  refine s0 (loadV (TK rfl) rfl rfl (congrArg (fun x => some (A.d x)) (TValue.FItemsD_eq _))) rfl ?_
  refine sLen (f := TValue.c) (s := a1.FItems) (TK rfl) rfl rfl rfl rfl fun hL12 => ?_
  refine s0 moveA rfl ?_
  refine nil ?_
  refine hK11 _ ?_
  clear hK11 K11
  refine block ?_
  refine loopH (KeepsT.A (k := 0) (KeepsT.A (k := 2) (KeepsT.A (k := 18) (KeepsT.A (k := 19) KeepsT.nil)))) (fun (z : Nat × Nat × Coerce_coercer) => [(20, .a (.d (.int .i64 ((z.2.1 : Nat) : Int))))]) (fun z => (H.set c0 (some (.cells (Coerce_coercer.c z.2.2))))) (fun z => z.1) (fun z => Z13_l13 a1 a2 (Z13_n n) z.1 z.2.1 z.2.2 = some r) ((a1.FItems.l.length + 1), 0, x4.2) hE Weak.toA ?_
  rintro ⟨n13, s20_14, y15_c0⟩ hE K13 hK13
  try dsimp only at hE
  cases n13 with
  | zero => cases hE
  | succ n13 =>
    rw [Z13_l13] at hE
    refine seqK fun K16 hK16 => ?_
    refine region ?_
    refine s0 (binI rfl rfl rfl) rfl ?_
    refine nil ?_
    refine hK16 _ ?_
    clear hK16 K16
    refine seqK fun K17 hK17 => ?_
    refine condE hE rfl (fun hc18 hE => ?_) (fun hc18 hE => ?_)
    ·try dsimp only at hc18
     have hf18 := of_decide_eq_true hc18
     refine AWp.skip ?_
     refine hK17 _ ?_
     clear hK17 K17
     refine seqK fun K19 hK19 => ?_
     refine block ?_
     refine seqK fun K20 hK20 => ?_
     refine region ?_
     obtain ⟨x21, gx21, hE⟩ := bindO_some hE
     refine s0 (idxMn (f := TValue.c) (n := s20_14) (TK rfl) rfl (TK rfl) rfl rfl rfl gx21) rfl ?_
     refine s0 (loadV (TK rfl) rfl rfl rfl) rfl ?_
     refine sL (allocLA (TK rfl) rfl) rfl ?_
     refine sLn (storeLFA (TK rfl) rfl rfl rfl rfl rfl) ?_
     refine nil ?_
     refine hK20 _ ?_
     clear hK20 K20
     refine freezeA 9 _ rfl (Keeps.c (k := 0) (by conv => lhs; whnf) (by rfl) (Keeps.c (k := 2) (by conv => lhs; whnf) (by rfl) (Keeps.c (k := 18) (by conv => lhs; whnf) (by rfl) (Keeps.c (k := 19) (by conv => lhs; whnf) (by rfl) (Keeps.c (k := 20) (by conv => lhs; whnf) (by rfl) Keeps.nil))))) ?_
     refine seqK fun K22 hK22 => ?_
     refine region ?_
     refine s0 moveA rfl ?_
     refine s0 (loadV (TK rfl) rfl rfl rfl) rfl ?_
     refine s0 moveA rfl ?_
     obtain ⟨x23, gx23, hE⟩ := bindO_some hE
     refine s0 (addM rfl rfl gx23) rfl ?_
     obtain ⟨x24, gx24, hE⟩ := bindO_some hE
     refine sH (callH rfl rfl (ih_54 gx24 _ hpG)) rfl ?_
     refine AOps.heq (h' := (H.set c0 (some (.cells (Coerce_coercer.c x24.2))))) (by first | rfl | (rw [Heap.set_set]; rfl) | (funext n_; simp only [Heap.set]; (repeat' split) <;> first | rfl | (exfalso; simp_all; done) | (simp_all; done))) ?_
     refine s0 assignA rfl ?_
     refine nil ?_
     refine hK22 _ ?_
     clear hK22 K22
     refine seqK fun K25 hK25 => ?_
     refine region ?_
     refine s0 moveA rfl ?_
     refine s0 (binI rfl rfl rfl) rfl ?_
     refine nil ?_
     refine hK25 _ ?_
     clear hK25 K25
     refine condE hE rfl (fun hc26 hE => ?_) (fun hc26 hE => ?_)
     ·refine seqK fun K27 hK27 => ?_
      refine region ?_
      refine s0 moveA rfl ?_
      refine s0 assignA rfl ?_
      refine nil ?_
      refine hK27 _ ?_
      clear hK27 K27
      refine AWp.ret ?_
      repeat (first | refine xBlock_ret ?_ | refine xThen_ret ?_)
      obtain rfl := Option.some.inj hE
      refine retQ.retF (H.set c0 (some (.cells (Coerce_coercer.c x24.2)))) rfl ⟨rfl, rfl⟩ ?_
      exact (fun _ _ h => h)
     refine AWp.skip ?_
     refine hK19 _ ?_
     clear hK19 K19
     refine region ?_
     refine s0 (addIA rfl rfl) rfl ?_
     refine s0 moveA rfl ?_
     refine nil ?_
     exact hK13 _ (n13, (s20_14 + 1), x24.2) Weak.toA hE (Nat.lt_succ_self _)
    refine AWp.exit ?_
    exact hK8 _ y15_c0 Weak.toA hE
 rintro y9_c0 hE
 try dsimp only at hE
 unfold Z13_j8 at hE
 refine seqK fun K10 hK10 => ?_
 refine region ?_
 refine s0 assignA rfl ?_
 refine nil ?_
 refine hK10 _ ?_
 clear hK10 K10
 refine AWp.ret ?_
 repeat (first | refine xBlock_ret ?_ | refine xThen_ret ?_)
 obtain rfl := Option.some.inj hE
 refine retQ.retF (H.set c0 (some (.cells (Coerce_coercer.c y9_c0)))) rfl ⟨rfl, rfl⟩ ?_
 exact (fun _ _ h => h)
theorem Z13_all : ∀ (n : Nat), (∀ {a0 : Coerce_coercer} {a1 : TValue} {a2 : Int}  {c0 : Nat} {r : (Int × Coerce_coercer)}, Z13_n n a0 a1 a2 = some r → ∀ (H : Heap) (hc0 : H c0 = some (.cells (Coerce_coercer.c a0))), ACalls Tryd.prog 54 [.d (.ptr c0 0), .agg (TValue.c a1), .d (.int .i64 a2)] H fun v h' => v = .a (.d (.int .i64 r.1)) ∧ h' = (H.set c0 (some (.cells (Coerce_coercer.c r.2)))))
 | 0 => fun hE => by first | cases hE | (rw [Z13_n] at hE; cases hE)
 | n + 1 => Z13_step n (Z13_all n)
def Z13 (a0 : Coerce_coercer) (a1 : TValue) (a2 : Int) : Option (Int × Coerce_coercer) := Z13_n F0 a0 a1 a2
theorem Z13_walk {a0 : Coerce_coercer} {a1 : TValue} {a2 : Int}  {c0 : Nat} {r : (Int × Coerce_coercer)} (hE : Z13 a0 a1 a2 = some r) (H : Heap) (hc0 : H c0 = some (.cells (Coerce_coercer.c a0))) : ACalls Tryd.prog 54 [.d (.ptr c0 0), .agg (TValue.c a1), .d (.int .i64 a2)] H fun v h' => v = .a (.d (.int .i64 r.1)) ∧ h' = (H.set c0 (some (.cells (Coerce_coercer.c r.2)))) := (Z13_all F0) hE H hc0
def Z43 (a0 : (Sl Int)) : Option (Sl Int) := bif a0.nl then (some (Sl.nil : Sl Int)) else ((appC 8 (⟨false, []⟩ : Sl Int) a0).bind fun x7 => some x7)
theorem Z43_walk {a0 : (Sl Int)} {w0 : Option Nat}  {r : (Sl Int)} (hE : Z43 a0 = some r) (H : Heap)  : ACalls Tryd.prog 94 [.d (Sl.d 1 (intE .i64) w0 a0)] H fun v h' => v = .a (.d (Sl.d 1 (intE .i64) none r)) ∧ h' = H := by
 unfold Z43 at hE
 refine ACalls.of_wp (fn := Tryd.f94) (c := _) Tryd.tab_ok (fun _ _ => Tryd.call94 _ _) Tryd.func94 rfl (n := 8) rfl (rs := [.tmp 2]) rfl rfl ?_
 refine seqK fun K1 hK1 => ?_
 refine region ?_
 refine s0 (assignNil (k' := 1) rfl) rfl ?_
 refine nil ?_
 refine hK1 _ ?_
 clear hK1 K1
 refine seqK fun K2 hK2 => ?_
 refine seqK fun K3 hK3 => ?_
 refine region ?_
 refine s0 moveA rfl ?_
 refine s0 (eqNil (TK rfl) rfl rfl) rfl ?_
 refine nil ?_
 refine hK3 _ ?_
 clear hK3 K3
 refine condE hE rfl (fun hc4 hE => ?_) (fun hc4 hE => ?_)
 ·refine seqK fun K5 hK5 => ?_
  refine region ?_
  refine s0 (assignNil (k' := 1) rfl) rfl ?_
  refine nil ?_
  refine hK5 _ ?_
  clear hK5 K5
  refine AWp.ret ?_
  repeat (first | refine xBlock_ret ?_ | refine xThen_ret ?_)
  obtain rfl := Option.some.inj hE
  refine retQ.retF H rfl ⟨rfl, rfl⟩ ?_
  exact (fun _ _ h => h)
 refine AWp.skip ?_
 refine hK2 _ ?_
 clear hK2 K2
 refine seqK fun K6 hK6 => ?_
 refine region ?_
 refine s0 (buildSliceF (TK rfl) rfl (TK rfl) rfl rfl rfl rfl rfl rfl) rfl ?_
 refine s0 moveA rfl ?_
 obtain ⟨x7, gx7, hE⟩ := bindO_some hE
 refine s0 (appFM (f := (intE .i64)) (TK rfl) rfl (TK rfl) (TK rfl) ⟨_, rfl⟩ rfl rfl (by decide) rfl rfl rfl (by intro q h; cases h <;> decide) rfl rfl gx7) rfl ?_
 refine s0 assignA rfl ?_
 refine nil ?_
 refine hK6 _ ?_
 clear hK6 K6
 refine AWp.ret ?_
 repeat (first | refine xBlock_ret ?_ | refine xThen_ret ?_)
 obtain rfl := Option.some.inj hE
 refine retQ.retF H rfl ⟨rfl, rfl⟩ ?_
 exact (fun _ _ h => h)
def Z61_j3 (a0 : TRef)  (s3_4 : (Sl Int)) : Option TRef := (Z43 s3_4).bind fun x6 => some (TRef.mk a0.FName x6)
def Z61 (a0 : TRef) : Option TRef := (Z60 a0).bind fun x8 => bif x8 then ((partC a0.FWraps (some (1 : Int)) none).bind fun x10 => Z61_j3 a0  x10) else (Z61_j3 a0  a0.FWraps)
theorem Z61_walk {a0 : TRef}   {r : TRef} (hE : Z61 a0 = some r) (H : Heap)  : ACalls Tryd.prog 83 [.agg (TRef.c a0)] H fun v h' => v = .a (.agg (TRef.c r)) ∧ h' = H := by
 unfold Z61 at hE
 refine ACalls.of_wp (fn := Tryd.f83) (c := _) Tryd.tab_ok (fun _ _ => Tryd.call83 _ _) Tryd.func83 rfl (n := 15) rfl (rs := [.cell 2 40]) rfl rfl ?_
 refine seqK fun K1 hK1 => ?_
 refine region ?_
 refine s0 (boxV rfl) rfl ?_
 refine sL (allocLA (TK rfl) rfl) rfl ?_
 refine nil ?_
 refine hK1 _ ?_
 clear hK1 K1
 refine seqK fun K2 hK2 => ?_
 refine region ?_
 refine s0 (fieldVA (TK rfl) rfl rfl (TK rfl) rfl rfl) rfl ?_
 refine s0 (loadV (TK rfl) rfl rfl rfl) rfl ?_
 refine s0 assignA rfl ?_
 refine nil ?_
 refine hK2 _ ?_
 clear hK2 K2
 refine seqJH (KeepsT.A (k := 1) (KeepsT.A (k := 2) KeepsT.nil)) (fun (z : (Sl Int)) => [(3, .a (.d (Sl.d 1 (intE .i64) none z)))]) (fun z => H) (fun z => Z61_j3 a0 z = some r) ?_ ?_
 ·intro K3 hK3
  refine seqK fun K7 hK7 => ?_
  refine region ?_
  refine s0 (loadV (TK rfl) rfl rfl rfl) rfl ?_
  obtain ⟨x8, gx8, hE⟩ := bindO_some hE
  refine s0 (callP rfl rfl (fun H => Z60_walk gx8 H)) rfl ?_
  refine nil ?_
  refine hK7 _ ?_
  clear hK7 K7
  refine condE hE rfl (fun hc9 hE => ?_) (fun hc9 hE => ?_)
  ·refine region ?_
   refine s0 moveA rfl ?_
   obtain ⟨x10, gx10, hE⟩ := bindO_some hE
   refine s0 (partM (f := (intE .i64)) (l := (some (1 : Int))) (r := none) (TK rfl) rfl (TK rfl) rfl rfl rfl trivial gx10) rfl ?_
   refine s0 assignA rfl ?_
   refine nil ?_
   exact hK3 _ x10 Weak.toA hE
  refine AWp.skip ?_
  exact hK3 _ a0.FWraps Weak.toA hE
 rintro s3_4 hE
 try dsimp only at hE
 unfold Z61_j3 at hE
 refine seqK fun K5 hK5 => ?_
 refine AWp.draw rfl ?_
 refine DOps.s0 (fieldVA (TK rfl) rfl rfl (TK rfl) rfl rfl) rfl ?_
 refine DOps.s0 (loadV (TK rfl) rfl rfl rfl) rfl ?_
 refine DOps.s0 moveA rfl ?_
 obtain ⟨x6, gx6, hE⟩ := bindO_some hE
 refine DOps.s0 (callP rfl rfl (fun H => Z43_walk gx6 H)) rfl ?_
 refine DOps.s0 (build Tryd.tab_ok rfl rfl rfl rfl rfl rfl) rfl ?_
 refine DOps.sLn (storeLFA (TK rfl) rfl rfl rfl rfl rfl) ?_
 refine DOps.nil (by decide +kernel) ?_
 refine hK5 _ ?_
 clear hK5 K5
 refine AWp.ret ?_
 repeat (first | refine xBlock_ret ?_ | refine xThen_ret ?_)
 obtain rfl := Option.some.inj hE
 refine retQ.retF H rfl ⟨rfl, rfl⟩ ?_
 exact (fun _ _ h => h)
end Go.Proofs

namespace Go.Proofs
open Go Go.Ab
open AOps Cert AWp
variable {lou : Lou}
def Z59 (a0 : TRef) : Option Bool := (Z61 a0).bind fun x3 => guardO ((decide ((0 : Int) < ((x3.FWraps.l.length : Nat) : Int)))) (x3.FWraps.l[0]?) (0 : Int) fun x6 => some ((decide ((0 : Int) < ((x3.FWraps.l.length : Nat) : Int))) && (decide (x6 = (2 : Int))))
theorem Z59_walk {a0 : TRef}   {r : Bool} (hE : Z59 a0 = some r) (H : Heap)  : ACalls Tryd.prog 82 [.agg (TRef.c a0)] H fun v h' => v = .a (.d (.bool r)) ∧ h' = H := by
 unfold Z59 at hE
 refine ACalls.of_wp (fn := Tryd.f82) (c := _) Tryd.tab_ok (fun _ _ => Tryd.call82 _ _) Tryd.func82 rfl (n := 16) rfl (rs := [.tmp 2]) rfl rfl ?_
 refine seqK fun K1 hK1 => ?_
 refine region ?_
 refine sL (boxL rfl (by repeat (first | exact Snoc.nil | apply Snoc.cons))) rfl ?_
 refine s0 assignA rfl ?_
 refine nil ?_
 refine hK1 _ ?_
 clear hK1 K1
 refine seqK fun K2 hK2 => ?_
 refine region ?_
 refine s0 (loadL (TK rfl) rfl rfl rfl rfl) rfl ?_
 obtain ⟨x3, gx3, hE⟩ := bindO_some hE
 refine s0 (callP rfl rfl (fun H => Z61_walk gx3 H)) rfl ?_
 refine sLn (storeLFA (TK rfl) rfl rfl rfl rfl rfl) ?_
 refine nil ?_
 refine hK2 _ ?_
 clear hK2 K2
 refine seqK fun K4 hK4 => ?_
 refine region ?_
 refine s0 (fieldL (TK rfl) rfl rfl (TK rfl) rfl rfl) rfl ?_
 refine s0 (loadL (TK rfl) rfl rfl rfl rfl) rfl ?_
 refine sLen (f := (intE .i64)) (s := x3.FWraps) (TK rfl) rfl rfl rfl rfl fun hL5 => ?_
 refine s0 (binI rfl rfl rfl) rfl ?_
 refine s0 moveA rfl ?_
 refine gC rfl rfl (fun hC => fieldL (TK rfl) rfl rfl (TK rfl) rfl rfl) rfl ?_
 refine gC rfl rfl (fun hC => ungdLA (k := 10) rfl (loadL (TK rfl) rfl rfl rfl rfl)) rfl ?_
 obtain ⟨x6, gx6, hE⟩ := guardO_some hE
 refine gC rfl rfl (fun hC => ungdA (k := 11) rfl (idxMn (f := (intE .i64)) (n := 0) (TK rfl) rfl (TK rfl) rfl rfl rfl (gx6 hC))) rfl ?_
 refine gC rfl rfl (fun hC => ungdA (k := 12) rfl (loadV (TK rfl) rfl rfl rfl)) rfl ?_
 refine gC rfl rfl (fun hC => ungdA (k := 13) rfl (binI rfl rfl rfl)) rfl ?_
 refine s0 (pickAndA rfl rfl rfl) rfl ?_
 refine s0 assignA rfl ?_
 refine nil ?_
 refine hK4 _ ?_
 clear hK4 K4
 refine AWp.ret ?_
 repeat (first | refine xBlock_ret ?_ | refine xThen_ret ?_)
 obtain rfl := Option.some.inj hE
 refine retQ.retF H rfl ⟨rfl, rfl⟩ ?_
 exact (fun _ _ h => h)
def Z58 (a0 : TRef) : Option (TRef × Bool) := (Z59 a0).bind fun x4 => bif (!x4) then (some ((TRef.mk ([] : Bs) (Sl.nil : Sl Int)), false)) else ((Z61 a0).bind fun x8 => (partC x8.FWraps (some (1 : Int)) none).bind fun x10 => some ((TRef.mk x8.FName x10), true))
theorem Z58_walk {a0 : TRef}   {r : (TRef × Bool)} (hE : Z58 a0 = some r) (H : Heap)  : ACalls Tryd.prog 56 [.agg (TRef.c a0)] H fun v h' => v = .tup [.agg (TRef.c r.1), .d (.bool r.2)] ∧ h' = H := by
 unfold Z58 at hE
 refine ACalls.of_wp (fn := Tryd.f56) (c := _) Tryd.tab_ok (fun _ _ => Tryd.call56 _ _) Tryd.func56 rfl (n := 15) rfl (rs := [.cell 2 40, .tmp 3]) rfl rfl ?_
 refine seqK fun K1 hK1 => ?_
 refine region ?_
 refine sL (boxL rfl (by repeat (first | exact Snoc.nil | apply Snoc.cons))) rfl ?_
 refine sL (allocLA (TK rfl) rfl) rfl ?_
 refine s0 assignA rfl ?_
 refine nil ?_
 refine hK1 _ ?_
 clear hK1 K1
 refine seqK fun K2 hK2 => ?_
 refine seqK fun K3 hK3 => ?_
 refine region ?_
 refine s0 (loadL (TK rfl) rfl rfl rfl rfl) rfl ?_
 obtain ⟨x4, gx4, hE⟩ := bindO_some hE
 refine s0 (callP rfl rfl (fun H => Z59_walk gx4 H)) rfl ?_
 refine s0 (notB rfl) rfl ?_
 refine nil ?_
 refine hK3 _ ?_
 clear hK3 K3
 refine condE hE rfl (fun hc5 hE => ?_) (fun hc5 hE => ?_)
 ·refine seqK fun K6 hK6 => ?_
  refine region ?_
  refine s0 (build Tryd.tab_ok rfl rfl rfl rfl rfl rfl) rfl ?_
  refine sLn (storeLFA (TK rfl) rfl rfl rfl rfl rfl) ?_
  refine s0 assignA rfl ?_
  refine nil ?_
  refine hK6 _ ?_
  clear hK6 K6
  refine AWp.ret ?_
  repeat (first | refine xBlock_ret ?_ | refine xThen_ret ?_)
  obtain rfl := Option.some.inj hE
  refine retQ.retF H rfl ⟨rfl, rfl⟩ ?_
  exact (fun _ _ h => h)
 refine AWp.skip ?_
 refine hK2 _ ?_
 clear hK2 K2
 refine seqK fun K7 hK7 => ?_
 refine region ?_
 refine s0 (loadL (TK rfl) rfl rfl rfl rfl) rfl ?_
 obtain ⟨x8, gx8, hE⟩ := bindO_some hE
 refine s0 (callP rfl rfl (fun H => Z61_walk gx8 H)) rfl ?_
 refine sLn (storeLFA (TK rfl) rfl rfl rfl rfl rfl) ?_
 refine nil ?_
 refine hK7 _ ?_
 clear hK7 K7
 refine seqK fun K9 hK9 => ?_
 refine region ?_
 refine s0 (fieldL (TK rfl) rfl rfl (TK rfl) rfl rfl) rfl ?_
 refine s0 (loadL (TK rfl) rfl rfl rfl rfl) rfl ?_
 obtain ⟨x10, gx10, hE⟩ := bindO_some hE
 refine s0 (partM (f := (intE .i64)) (l := (some (1 : Int))) (r := none) (TK rfl) rfl (TK rfl) rfl rfl rfl trivial gx10) rfl ?_
 refine s0 (fieldL (TK rfl) rfl rfl (TK rfl) rfl rfl) rfl ?_
 refine sLn (storeL1 (TK rfl) rfl rfl rfl rfl (by repeat (first | exact SetAt.zero | apply SetAt.succ)) (by repeat (first | exact SetAt.zero | apply SetAt.succ))) ?_
 refine nil ?_
 refine hK9 _ ?_
 clear hK9 K9
 refine seqK fun K11 hK11 => ?_
 refine region ?_
 refine s0 (loadL (TK rfl) rfl rfl rfl rfl) rfl ?_
 refine sLn (storeLFA (TK rfl) rfl rfl rfl rfl rfl) ?_
 refine s0 assignA rfl ?_
 refine nil ?_
 refine hK11 _ ?_
 clear hK11 K11
 refine AWp.ret ?_
 repeat (first | refine xBlock_ret ?_ | refine xThen_ret ?_)
 obtain rfl := Option.some.inj hE
 refine retQ.retF H rfl ⟨rfl, rfl⟩ ?_
 exact (fun _ _ h => h)
def Z38_j2  (y3_l0 : TInput) : Option (TInput × Bool) := some ((TInput.mk ([] : Bs) TRef.zero false TValue.zero (Sl.nil : Sl TDir)), false)
def Z38_l7 (a0 : (Sl TInput)) (a1 : Bs)  : Nat → Nat → TInput → Option (TInput × Bool)
 | 0, _, _ => none
 | n7 + 1, s10_8, y9_l0 => bif (decide (((s10_8 : Nat) : Int) < ((a0.l.length : Nat) : Int))) then ((a0.l[s10_8]?).bind fun x15 => bif ((x15.FName == a1)) then (some (x15, true)) else ((Z38_l7 a0 a1 n7) (s10_8 + 1) y9_l0)) else (Z38_j2   y9_l0)
def Z38 (a0 : (Sl TInput)) (a1 : Bs) : Option (TInput × Bool) := Z38_l7 a0 a1 (a0.l.length + 1) 0 TInput.zero
theorem Z38_walk {a0 : (Sl TInput)} {a1 : Bs} {w0 : Option Nat}  {r : (TInput × Bool)} (hE : Z38 a0 a1 = some r) (H : Heap)  : ACalls Tryd.prog 33 [.d (Sl.d 10 TInput.c w0 a0), .d (.str a1)] H fun v h' => v = .tup [.agg (TInput.c r.1), .d (.bool r.2)] ∧ h' = H := by
 unfold Z38 at hE
 refine ACalls.of_wp (fn := Tryd.f33) (c := _) Tryd.tab_ok (fun _ _ => Tryd.call33 _ _) Tryd.func33 rfl (n := 21) rfl (rs := [.cell 4 61, .tmp 5]) rfl rfl ?_
 refine seqK fun K1 hK1 => ?_
 refine region ?_
 refine sL (allocLA (TK rfl) rfl) rfl ?_
 refine s0 assignA rfl ?_
 refine nil ?_
 refine hK1 _ ?_
 clear hK1 K1
 refine seqJ (KeepsT.A (k := 4) KeepsT.nil) (fun (z : TInput) => []) (fun z => [TInput.c z]) (fun z => H) (fun z => Z38_j2 z = some r) ?_ ?_
 ·intro K2 hK2
  refine seqK fun K5 hK5 => ?_
  refine region ?_
  refine s0 moveA rfl ?_
  refine sLen (f := TInput.c) (s := a0) (TK rfl) rfl rfl rfl rfl fun hL6 => ?_
  refine s0 moveA rfl ?_
  refine nil ?_
  refine hK5 _ ?_
  clear hK5 K5
  refine block ?_
  refine loopO (KeepsT.A (k := 1) (KeepsT.A (k := 4) (KeepsT.A (k := 8) (KeepsT.A (k := 9) KeepsT.nil)))) (fun (z : Nat × Nat × TInput) => [(10, .a (.d (.int .i64 ((z.2.1 : Nat) : Int))))]) (fun z => [TInput.c z.2.2]) (fun z => H) (fun z => z.1) (fun z => Z38_l7 a0 a1 z.1 z.2.1 z.2.2 = some r) ((a0.l.length + 1), 0, TInput.zero) hE Weak.toA ?_
  rintro ⟨n7, s10_8, y9_l0⟩ hE K7 hK7
  try dsimp only at hE
  cases n7 with
  | zero => cases hE
  | succ n7 =>
    rw [Z38_l7] at hE
    refine seqK fun K10 hK10 => ?_
    refine region ?_
    refine s0 (binI rfl rfl rfl) rfl ?_
    refine nil ?_
    refine hK10 _ ?_
    clear hK10 K10
    refine seqK fun K11 hK11 => ?_
    refine condE hE rfl (fun hc12 hE => ?_) (fun hc12 hE => ?_)
    ·try dsimp only at hc12
     have hf12 := of_decide_eq_true hc12
     refine AWp.skip ?_
     refine hK11 _ ?_
     clear hK11 K11
     refine seqK fun K13 hK13 => ?_
     refine block ?_
     refine seqK fun K14 hK14 => ?_
     refine region ?_
     obtain ⟨x15, gx15, hE⟩ := bindO_some hE
     refine s0 (idxMn (f := TInput.c) (n := s10_8) (TK rfl) rfl (TK rfl) rfl rfl rfl gx15) rfl ?_
     refine s0 (loadV (TK rfl) rfl rfl rfl) rfl ?_
     refine sL (allocLA (TK rfl) rfl) rfl ?_
     refine sLn (storeLFA (TK rfl) rfl rfl rfl rfl rfl) ?_
     refine nil ?_
     refine hK14 _ ?_
     clear hK14 K14
     refine freezeA 7 _ rfl (Keeps.c (k := 1) (by conv => lhs; whnf) (by rfl) (Keeps.c (k := 4) (by conv => lhs; whnf) (by rfl) (Keeps.c (k := 8) (by conv => lhs; whnf) (by rfl) (Keeps.c (k := 9) (by conv => lhs; whnf) (by rfl) (Keeps.c (k := 10) (by conv => lhs; whnf) (by rfl) Keeps.nil))))) ?_
     refine seqK fun K16 hK16 => ?_
     refine region ?_
     refine s0 (fieldVA (TK rfl) rfl rfl (TK rfl) rfl rfl) rfl ?_
     refine s0 (loadV (TK rfl) rfl rfl rfl) rfl ?_
     refine s0 moveA rfl ?_
     refine s0 (binS rfl rfl rfl) rfl ?_
     refine nil ?_
     refine hK16 _ ?_
     clear hK16 K16
     refine condE hE rfl (fun hc17 hE => ?_) (fun hc17 hE => ?_)
     ·refine seqK fun K18 hK18 => ?_
      refine region ?_
      refine s0 (loadV (TK rfl) rfl rfl rfl) rfl ?_
      refine sLn (storeLFA (TK rfl) rfl rfl rfl rfl rfl) ?_
      refine s0 assignA rfl ?_
      refine nil ?_
      refine hK18 _ ?_
      clear hK18 K18
      refine AWp.ret ?_
      repeat (first | refine xBlock_ret ?_ | refine xThen_ret ?_)
      obtain rfl := Option.some.inj hE
      refine retQ.retF H rfl ⟨rfl, rfl⟩ ?_
      exact (fun _ _ h => h)
     refine AWp.skip ?_
     refine hK13 _ ?_
     clear hK13 K13
     refine region ?_
     refine s0 (addIA rfl rfl) rfl ?_
     refine s0 moveA rfl ?_
     refine nil ?_
     exact hK7 _ (n7, (s10_8 + 1), y9_l0) Weak.toA hE (Nat.lt_succ_self _)
    refine AWp.exit ?_
    exact hK2 _ y9_l0 Weak.toA hE
 rintro y3_l0 hE
 try dsimp only at hE
 unfold Z38_j2 at hE
 refine seqK fun K4 hK4 => ?_
 refine region ?_
 refine s0 (build Tryd.tab_ok rfl rfl rfl rfl rfl rfl) rfl ?_
 refine sLn (storeLFA (TK rfl) rfl rfl rfl rfl rfl) ?_
 refine s0 assignA rfl ?_
 refine nil ?_
 refine hK4 _ ?_
 clear hK4 K4
 refine AWp.ret ?_
 repeat (first | refine xBlock_ret ?_ | refine xThen_ret ?_)
 obtain rfl := Option.some.inj hE
 refine retQ.retF H rfl ⟨rfl, rfl⟩ ?_
 exact (fun _ _ h => h)
def Z12 (a0 : TValue) (a1 : Bool) (a2 : Coerce_coercer) : Option Coerce_coercer := some (Coerce_coercer.mk a2.Fd a0 a1 a2.Fnodes)
theorem Z12_walk {a0 : TValue} {a1 : Bool} {a2 : Coerce_coercer}  {c2 : Nat} {r : Coerce_coercer} (hE : Z12 a0 a1 a2 = some r) (H : Heap) (hc2 : H c2 = some (.cells (Coerce_coercer.c a2))) : ACallsD Tryd.prog 95 [.d (.view (TValue.c a0)), .d (.view (boolE a1)), .d (.view [.ptr c2 0])] H fun v h' => v = .tup [] ∧ h' = (H.set c2 (some (.cells (Coerce_coercer.c r)))) := by
 unfold Z12 at hE
 refine ACallsD.of_wp (fn := Tryd.f95) (c := _) Tryd.tab_ok (fun _ _ => Tryd.call95 _ _) Tryd.func95 rfl (n := 11) rfl (rs := []) rfl rfl ?_
 refine AWp.heqA (h' := (H.set c2 (some (.cells (Coerce_coercer.c a2))))) (by funext n_; simp only [Heap.set]; (repeat' split) <;> simp_all) ?_
 refine region ?_
 refine s0 (loadV (TK rfl) rfl rfl rfl) rfl ?_
 refine s0 (loadV (TK rfl) rfl rfl rfl) rfl ?_
 refine s0 (loadV (TK rfl) rfl rfl rfl) rfl ?_
 refine s0 (loadV (TK rfl) rfl rfl rfl) rfl ?_
 refine s0 (nilP rfl) rfl ?_
 refine s0 (fieldP (TK rfl) rfl rfl (TK rfl) rfl rfl) rfl ?_
 refine sHn (storeP' (TK rfl) rfl rfl hpG rfl (Nat.le_of_ble_eq_true rfl) rfl rfl) rfl rfl ?_
 refine AOps.heq (h' := (H.set c2 (some (.cells (Coerce_coercer.c (Coerce_coercer.mk a2.Fd a0 a2.Fliteral a2.Fnodes)))))) (by first | rfl | (rw [Heap.set_set]; rfl) | (funext n_; simp only [Heap.set]; (repeat' split) <;> first | rfl | (exfalso; simp_all; done) | (simp_all; done))) ?_
 refine s0 (nilP rfl) rfl ?_
 refine s0 (fieldP (TK rfl) rfl rfl (TK rfl) rfl rfl) rfl ?_
 refine sHn (storeP1 (TK rfl) rfl rfl hpG rfl (by repeat (first | exact SetAt.zero | apply SetAt.succ))) rfl rfl ?_
 refine AOps.heq (h' := (H.set c2 (some (.cells (Coerce_coercer.c (Coerce_coercer.mk a2.Fd a0 a1 a2.Fnodes)))))) (by first | rfl | (rw [Heap.set_set]; rfl) | (funext n_; simp only [Heap.set]; (repeat' split) <;> first | rfl | (exfalso; simp_all; done) | (simp_all; done))) ?_
 refine nil ?_
 repeat (first | refine xBlock_normal ?_ | refine xThen_exit ?_ | refine xBlock_exit ?_)
 obtain rfl := Option.some.inj hE
 refine retQ.normalF (H.set c2 (some (.cells (Coerce_coercer.c (Coerce_coercer.mk a2.Fd a0 a1 a2.Fnodes))))) (xs := []) rfl ⟨rfl, rfl⟩ ?_
 exact (fun _ _ h => h)
def Z63 (a0 : Bs) : Option TValue := some (TValue.mk (3 : Int) (0 : Int) a0 true ([]) (Sl.nil : Sl Bs))
theorem Z63_walk {a0 : Bs}   {r : TValue} (hE : Z63 a0 = some r) (H : Heap)  : ACalls Tryd.prog 85 [.d (.str a0)] H fun v h' => v = .a (.agg (TValue.c r)) ∧ h' = H := by
 unfold Z63 at hE
 refine ACalls.of_wp (fn := Tryd.f85) (c := _) Tryd.tab_ok (fun _ _ => Tryd.call85 _ _) Tryd.func85 rfl (n := 5) rfl (rs := [.cell 2 27]) rfl rfl ?_
 refine seqK fun K1 hK1 => ?_
 refine region ?_
 refine sL (allocLA (TK rfl) rfl) rfl ?_
 refine nil ?_
 refine hK1 _ ?_
 clear hK1 K1
 refine seqK fun K2 hK2 => ?_
 refine region ?_
 refine s0 moveA rfl ?_
 refine s0 (build Tryd.tab_ok rfl rfl rfl rfl rfl rfl) rfl ?_
 refine sLn (storeLFA (TK rfl) rfl rfl rfl rfl rfl) ?_
 refine nil ?_
 refine hK2 _ ?_
 clear hK2 K2
 refine AWp.ret ?_
 repeat (first | refine xBlock_ret ?_ | refine xThen_ret ?_)
 obtain rfl := Option.some.inj hE
 refine retQ.retF H rfl ⟨rfl, rfl⟩ ?_
 exact (fun _ _ h => h)
def Z48_j2   : Option Int := some (-1 : Int)
def Z48_l6 (a0 : (Sl TMember)) (a1 : (TMember → Option Bool))  : Nat → Nat → Option Int
 | 0, _ => none
 | n6 + 1, s8_7 => bif (decide (((s8_7 : Nat) : Int) < ((a0.l.length : Nat) : Int))) then ((a0.l[s8_7]?).bind fun x14 => (a1 x14).bind fun x15 => bif x15 then (some ((s8_7 : Nat) : Int)) else ((Z48_l6 a0 a1 n6) (s8_7 + 1))) else (Z48_j2   )
def Z48 (a0 : (Sl TMember)) (a1 : (TMember → Option Bool)) : Option Int := Z48_l6 a0 a1 (a0.l.length + 1) 0
theorem Z48_walk {a0 : (Sl TMember)} {a1 : (TMember → Option Bool)} {w0 : Option Nat} {cl1 : List D} {k1 : Nat} {r : Int} (hE : Z48 a0 a1 = some r) (H : Heap) (hf1 : ∀ x0 r, a1 x0 = some r → ∀ H, ACalls Tryd.prog k1 ([.agg (TMember.c x0)] ++ cl1.map A.d) H fun v h' => v = .a (.d (.bool r)) ∧ h' = H) : ACalls Tryd.prog 96 [.d (Sl.d 2 TMember.c w0 a0), .d (.func k1 cl1)] H fun v h' => v = .a (.d (.int .i64 r)) ∧ h' = H := by
 unfold Z48 at hE
 refine ACalls.of_wp (fn := Tryd.f96) (c := _) Tryd.tab_ok (fun _ _ => Tryd.call96 _ _) Tryd.func96 rfl (n := 19) rfl (rs := [.tmp 4]) rfl rfl ?_
 refine seqK fun K1 hK1 => ?_
 refine region ?_
 refine s0 assignA rfl ?_
 refine nil ?_
 refine hK1 _ ?_
 clear hK1 K1
 refine seqJH KeepsT.nil (fun (z : Unit) => []) (fun z => H) (fun z => Z48_j2  = some r) ?_ ?_
 ·intro K2 hK2
  refine seqK fun K4 hK4 => ?_
  refine region ?_
  refine s0 moveA rfl ?_
  refine sLen (f := TMember.c) (s := a0) (TK rfl) rfl rfl rfl rfl fun hL5 => ?_
  refine s0 moveA rfl ?_
  refine nil ?_
  refine hK4 _ ?_
  clear hK4 K4
  refine block ?_
  refine loopH (KeepsT.A (k := 0) (KeepsT.A (k := 1) (KeepsT.A (k := 7) KeepsT.nil))) (fun (z : Nat × Nat) => [(8, .a (.d (.int .i64 ((z.2 : Nat) : Int))))]) (fun z => H) (fun z => z.1) (fun z => Z48_l6 a0 a1 z.1 z.2 = some r) ((a0.l.length + 1), 0) hE Weak.toA ?_
  rintro ⟨n6, s8_7⟩ hE K6 hK6
  try dsimp only at hE
  cases n6 with
  | zero => cases hE
  | succ n6 =>
    rw [Z48_l6] at hE
    refine seqK fun K8 hK8 => ?_
    refine region ?_
    refine s0 (binI rfl rfl rfl) rfl ?_
    refine nil ?_
    refine hK8 _ ?_
    clear hK8 K8
    refine seqK fun K9 hK9 => ?_
    refine condE hE rfl (fun hc10 hE => ?_) (fun hc10 hE => ?_)
    ·try dsimp only at hc10
     have hf10 := of_decide_eq_true hc10
     refine AWp.skip ?_
     refine hK9 _ ?_
     clear hK9 K9
     refine seqK fun K11 hK11 => ?_
     refine block ?_
     refine seqK fun K12 hK12 => ?_
     refine region ?_
     refine s0 moveA rfl ?_
     refine s0 assignA rfl ?_
     refine nil ?_
     refine hK12 _ ?_
     clear hK12 K12
     refine seqK fun K13 hK13 => ?_
     refine region ?_
     refine s0 moveA rfl ?_
     refine s0 moveA rfl ?_
     refine s0 moveA rfl ?_
     obtain ⟨x14, gx14, hE⟩ := bindO_some hE
     refine s0 (idxMn (f := TMember.c) (n := s8_7) (TK rfl) rfl (TK rfl) rfl rfl rfl gx14) rfl ?_
     refine s0 (loadV (TK rfl) rfl rfl rfl) rfl ?_
     obtain ⟨x15, gx15, hE⟩ := bindO_some hE
     refine s0 (callP rfl rfl (hf1 _ _ gx15)) rfl ?_
     refine nil ?_
     refine hK13 _ ?_
     clear hK13 K13
     refine condE hE rfl (fun hc16 hE => ?_) (fun hc16 hE => ?_)
     ·refine seqK fun K17 hK17 => ?_
      refine region ?_
      refine s0 moveA rfl ?_
      refine s0 assignA rfl ?_
      refine nil ?_
      refine hK17 _ ?_
      clear hK17 K17
      refine AWp.ret ?_
      repeat (first | refine xBlock_ret ?_ | refine xThen_ret ?_)
      obtain rfl := Option.some.inj hE
      refine retQ.retF H rfl ⟨rfl, rfl⟩ ?_
      exact (fun _ _ h => h)
     refine AWp.skip ?_
     refine hK11 _ ?_
     clear hK11 K11
     refine region ?_
     refine s0 (addIA rfl rfl) rfl ?_
     refine s0 moveA rfl ?_
     refine nil ?_
     exact hK6 _ (n6, (s8_7 + 1)) Weak.toA hE (Nat.lt_succ_self _)
    refine AWp.exit ?_
    exact hK2 _ () Weak.toA hE
 rintro _ hE
 try dsimp only at hE
 unfold Z48_j2 at hE
 refine seqK fun K3 hK3 => ?_
 refine region ?_
 refine s0 assignA rfl ?_
 refine nil ?_
 refine hK3 _ ?_
 clear hK3 K3
 refine AWp.ret ?_
 repeat (first | refine xBlock_ret ?_ | refine xThen_ret ?_)
 obtain rfl := Option.some.inj hE
 refine retQ.retF H rfl ⟨rfl, rfl⟩ ?_
 exact (fun _ _ h => h)
def Z46 (a0 : (Sl TMember)) (a1 : (TMember → Option Bool)) : Option Bool := (Z48 a0 a1).bind fun x3 => some (decide ((0 : Int) ≤ x3))
theorem Z46_walk {a0 : (Sl TMember)} {a1 : (TMember → Option Bool)} {w0 : Option Nat} {cl1 : List D} {k1 : Nat} {r : Bool} (hE : Z46 a0 a1 = some r) (H : Heap) (hf1 : ∀ x0 r, a1 x0 = some r → ∀ H, ACalls Tryd.prog k1 ([.agg (TMember.c x0)] ++ cl1.map A.d) H fun v h' => v = .a (.d (.bool r)) ∧ h' = H) : ACalls Tryd.prog 86 [.d (Sl.d 2 TMember.c w0 a0), .d (.func k1 cl1)] H fun v h' => v = .a (.d (.bool r)) ∧ h' = H := by
 unfold Z46 at hE
 refine ACalls.of_wp (fn := Tryd.f86) (c := _) Tryd.tab_ok (fun _ _ => Tryd.call86 _ _) Tryd.func86 rfl (n := 9) rfl (rs := [.tmp 4]) rfl rfl ?_
 refine seqK fun K1 hK1 => ?_
 refine region ?_
 refine s0 assignA rfl ?_
 refine nil ?_
 refine hK1 _ ?_
 clear hK1 K1
 refine seqK fun K2 hK2 => ?_
 refine region ?_
 refine s0 moveA rfl ?_
 refine s0 moveA rfl ?_
 obtain ⟨x3, gx3, hE⟩ := bindO_some hE
 refine s0 (callP rfl rfl (fun H => Z48_walk gx3 H hf1)) rfl ?_
 refine s0 (binI rfl rfl rfl) rfl ?_
 refine s0 assignA rfl ?_
 refine nil ?_
 refine hK2 _ ?_
 clear hK2 K2
 refine AWp.ret ?_
 repeat (first | refine xBlock_ret ?_ | refine xThen_ret ?_)
 obtain rfl := Option.some.inj hE
 refine retQ.retF H rfl ⟨rfl, rfl⟩ ?_
 exact (fun _ _ h => h)
def Z9 (a0 : TMember) (a1 : TValue) : Option Bool := some ((a0.FName == a1.FText))
theorem Z9_walk {a0 : TMember} {a1 : TValue}   {r : Bool} (hE : Z9 a0 a1 = some r) (H : Heap)  : ACalls Tryd.prog 87 [.agg (TMember.c a0), .d (.view (TValue.c a1))] H fun v h' => v = .a (.d (.bool r)) ∧ h' = H := by
 unfold Z9 at hE
 refine ACalls.of_wp (fn := Tryd.f87) (c := _) Tryd.tab_ok (fun _ _ => Tryd.call87 _ _) Tryd.func87 rfl (n := 9) rfl (rs := [.tmp 3]) rfl rfl ?_
 refine seqK fun K1 hK1 => ?_
 refine region ?_
 refine s0 (boxV rfl) rfl ?_
 refine s0 assignA rfl ?_
 refine nil ?_
 refine hK1 _ ?_
 clear hK1 K1
 refine seqK fun K2 hK2 => ?_
 refine region ?_
 refine s0 (fieldVA (TK rfl) rfl rfl (TK rfl) rfl rfl) rfl ?_
 refine s0 (loadV (TK rfl) rfl rfl rfl) rfl ?_
 refine s0 (fieldVA (TK rfl) rfl rfl (TK rfl) rfl rfl) rfl ?_
 refine s0 (loadV (TK rfl) rfl rfl rfl) rfl ?_
 refine s0 (binS rfl rfl rfl) rfl ?_
 refine s0 assignA rfl ?_
 refine nil ?_
 refine hK2 _ ?_
 clear hK2 K2
 refine AWp.ret ?_
 repeat (first | refine xBlock_ret ?_ | refine xThen_ret ?_)
 obtain rfl := Option.some.inj hE
 refine retQ.retF H rfl ⟨rfl, rfl⟩ ?_
 exact (fun _ _ h => h)
def Z8_j3  (s8_4 : Bool) (y5_l0 : TValue) : Option (TValue × Int) := bif (!s8_4) then (some ((TValue.mk (0 : Int) (0 : Int) ([] : Bs) true ([]) (Sl.nil : Sl Bs)), (23 : Int))) else (some (y5_l0, (0 : Int)))
def Z8_j20  (y21_l0 : TValue) : Option (TValue × Int) := Z8_j3   (decide (y21_l0.FKind = (3 : Int))) y21_l0
def Z8_j26 (a0 : Coerce_coercer) (a1 : Bs)  (y27_l0 : TValue) : Option (TValue × Int) := (Z37 a0.Fd a1).bind fun x29 => guardO ((decide (y27_l0.FKind = (4 : Int)))) (Z46 x29.1.FMembers (fun y0 => Z9 y0 y27_l0)) false fun x30 => bif (!((decide (y27_l0.FKind = (4 : Int))) && x30)) then (some ((TValue.mk (0 : Int) (0 : Int) ([] : Bs) true ([]) (Sl.nil : Sl Bs)), (23 : Int))) else (some (y27_l0, (0 : Int)))
def Z8 (a0 : Coerce_coercer) (a1 : Bs) (a2 : TValue) : Option (TValue × Int) := bif ((a1 == ([73, 110, 116] : Bs))) then (Z8_j3   (((decide (a2.FKind = (2 : Int))) && (decide ((-2147483648 : Int) ≤ a2.FInt))) && (decide (a2.FInt < (2147483648 : Int)))) a2) else (bif ((a1 == ([83, 116, 114, 105, 110, 103] : Bs))) then (Z8_j3   (decide (a2.FKind = (3 : Int))) a2) else (bif ((a1 == ([66, 111, 111, 108, 101, 97, 110] : Bs))) then (Z8_j3   (decide (a2.FKind = (1 : Int))) a2) else (bif ((a1 == ([73, 68] : Bs))) then (bif (decide (a2.FKind = (2 : Int))) then ((Z56 a2.FInt).bind fun x24 => (Z63 x24).bind fun x25 => Z8_j20   x25) else (Z8_j20   a2)) else (bif ((decide (a2.FKind = (3 : Int))) && (!a0.Fliteral)) then (Z8_j26 a0 a1  (TValue.mk (4 : Int) a2.FInt a2.FText a2.FItems.nl a2.FItems.l a2.FKeys)) else (Z8_j26 a0 a1  a2)))))
theorem Z8_walk {a0 : Coerce_coercer} {a1 : Bs} {a2 : TValue} {oT : Ab.Obj} {c0 : Nat} {gT : Nat} {r : (TValue × Int)} (hE : Z8 a0 a1 a2 = some r) (H : Heap) (hc0 : H c0 = some (.cells (Coerce_coercer.c a0))) (hgT : H gT = some oT) (hoT : IsTab Tryd.prog oT) : ACalls Tryd.prog 61 [.d (.ptr c0 0), .d (.str a1), .agg (TValue.c a2)] H fun v h' => v = .tup [.agg (TValue.c r.1), .d (.int .i64 r.2)] ∧ h' = H := by
 unfold Z8 at hE
 refine ACalls.of_wp (fn := Tryd.f61) (c := _) Tryd.tab_ok (fun _ _ => Tryd.call61 _ _) Tryd.func61 rfl (n := 82) rfl (rs := [.cell 6 27, .tmp 7]) rfl rfl ?_
 refine seqK fun K1 hK1 => ?_
 refine region ?_
 refine sL (boxL rfl (by repeat (first | exact Snoc.nil | apply Snoc.cons))) rfl ?_
 refine sL (allocLA (TK rfl) rfl) rfl ?_
 refine s0 assignA rfl ?_
 refine nil ?_
 refine hK1 _ ?_
 clear hK1 K1
 refine seqK fun K2 hK2 => ?_
 refine region ?_
 refine s0 assignA rfl ?_
 refine nil ?_
 refine hK2 _ ?_
 clear hK2 K2
 refine AWp.seqJD (KeepsT.A (k := 5) (KeepsT.A (k := 6) KeepsT.nil)) (fun (z : Bool × TValue) => [(8, .a (.d (.bool z.1)))]) (fun z => [TValue.c z.2, TValue.c TValue.zero]) (fun z => H) (fun z => Z8_j3 z.1 z.2 = some r) ?_ ?_
 ·intro K3 hK3 hD3
  refine seqK fun K11 hK11 => ?_
  refine region ?_
  refine s0 moveA rfl ?_
  refine nil ?_
  refine hK11 _ ?_
  clear hK11 K11
  refine block ?_
  refine seqK fun K12 hK12 => ?_
  refine region ?_
  refine s0 (binS rfl rfl rfl) rfl ?_
  refine s0 assignA rfl ?_
  refine nil ?_
  refine hK12 _ ?_
  clear hK12 K12
  refine condE hE rfl (fun hc13 hE => ?_) (fun hc13 hE => ?_)
  ·refine region ?_
   refine s0 (fieldL (TK rfl) rfl rfl (TK rfl) rfl rfl) rfl ?_
   refine s0 (loadL (TK rfl) rfl rfl rfl rfl) rfl ?_
   refine s0 (binI rfl rfl rfl) rfl ?_
   refine s0 moveA rfl ?_
   refine gC rfl rfl (fun hC => fieldL (TK rfl) rfl rfl (TK rfl) rfl rfl) rfl ?_
   refine gC rfl rfl (fun hC => ungdLA (k := 47) rfl (loadL (TK rfl) rfl rfl rfl rfl)) rfl ?_
   refine gC rfl rfl (fun hC => ungdA (k := 48) rfl (binI rfl rfl rfl)) rfl ?_
   refine s0 (pickAndA rfl rfl rfl) rfl ?_
   refine s0 moveA rfl ?_
   refine gC rfl rfl (fun hC => fieldL (TK rfl) rfl rfl (TK rfl) rfl rfl) rfl ?_
   refine gC rfl rfl (fun hC => ungdLA (k := 52) rfl (loadL (TK rfl) rfl rfl rfl rfl)) rfl ?_
   refine gC rfl rfl (fun hC => ungdA (k := 53) rfl (binI rfl rfl rfl)) rfl ?_
   refine s0 (pickAndA rfl rfl rfl) rfl ?_
   refine s0 assignA rfl ?_
   refine nil ?_
   exact hK3 _ ((((decide (a2.FKind = (2 : Int))) && (decide ((-2147483648 : Int) ≤ a2.FInt))) && (decide (a2.FInt < (2147483648 : Int)))), a2) Weak.toA hE
  refine seqK fun K14 hK14 => ?_
  refine region ?_
  refine s0 (binS rfl rfl rfl) rfl ?_
  refine s0 assignA rfl ?_
  refine nil ?_
  refine hK14 _ ?_
  clear hK14 K14
  refine condE hE rfl (fun hc15 hE => ?_) (fun hc15 hE => ?_)
  ·refine region ?_
   refine s0 (fieldL (TK rfl) rfl rfl (TK rfl) rfl rfl) rfl ?_
   refine s0 (loadL (TK rfl) rfl rfl rfl rfl) rfl ?_
   refine s0 (binI rfl rfl rfl) rfl ?_
   refine s0 assignA rfl ?_
   refine nil ?_
   exact hK3 _ ((decide (a2.FKind = (3 : Int))), a2) Weak.toA hE
  refine seqK fun K16 hK16 => ?_
  refine region ?_
  refine s0 (binS rfl rfl rfl) rfl ?_
  refine s0 assignA rfl ?_
  refine nil ?_
  refine hK16 _ ?_
  clear hK16 K16
  refine condE hE rfl (fun hc17 hE => ?_) (fun hc17 hE => ?_)
  ·refine region ?_
   refine s0 (fieldL (TK rfl) rfl rfl (TK rfl) rfl rfl) rfl ?_
   refine s0 (loadL (TK rfl) rfl rfl rfl rfl) rfl ?_
   refine s0 (binI rfl rfl rfl) rfl ?_
   refine s0 assignA rfl ?_
   refine nil ?_
   exact hK3 _ ((decide (a2.FKind = (1 : Int))), a2) Weak.toA hE
  refine seqK fun K18 hK18 => ?_
  refine region ?_
  refine s0 (binS rfl rfl rfl) rfl ?_
  refine s0 assignA rfl ?_
  refine nil ?_
  refine hK18 _ ?_
  clear hK18 K18
  refine condE hE rfl (fun hc19 hE => ?_) (fun hc19 hE => ?_)
  ·refine seqJ (KeepsT.A (k := 5) (KeepsT.A (k := 6) KeepsT.nil)) (fun (z : TValue) => []) (fun z => [TValue.c z, TValue.c TValue.zero]) (fun z => H) (fun z => Z8_j20 z = some r) ?_ ?_
   ·intro K20 hK20
    refine seqK fun K22 hK22 => ?_
    refine region ?_
    refine s0 (fieldL (TK rfl) rfl rfl (TK rfl) rfl rfl) rfl ?_
    refine s0 (loadL (TK rfl) rfl rfl rfl rfl) rfl ?_
    refine s0 (binI rfl rfl rfl) rfl ?_
    refine nil ?_
    refine hK22 _ ?_
    clear hK22 K22
    refine condE hE rfl (fun hc23 hE => ?_) (fun hc23 hE => ?_)
    ·refine region ?_
     refine s0 (fieldL (TK rfl) rfl rfl (TK rfl) rfl rfl) rfl ?_
     refine s0 (loadL (TK rfl) rfl rfl rfl rfl) rfl ?_
     obtain ⟨x24, gx24, hE⟩ := bindO_some hE
     refine s0 (callR rfl rfl (Z56_walk (gT := gT) (oT := oT) gx24 _ hpG (by assumption))) rfl ?_
     obtain ⟨x25, gx25, hE⟩ := bindO_some hE
     refine s0 (callP rfl rfl (fun H => Z63_walk gx25 H)) rfl ?_
     refine sLn (storeLFA (TK rfl) rfl rfl rfl rfl rfl) ?_
     refine nil ?_
     exact hK20 _ x25 Weak.toA hE
    refine AWp.skip ?_
    exact hK20 _ a2 Weak.toA hE
   rintro y21_l0 hE
   try dsimp only at hE
   unfold Z8_j20 at hE
   refine region ?_
   refine s0 (fieldL (TK rfl) rfl rfl (TK rfl) rfl rfl) rfl ?_
   refine s0 (loadL (TK rfl) rfl rfl rfl rfl) rfl ?_
   refine s0 (binI rfl rfl rfl) rfl ?_
   refine s0 assignA rfl ?_
   refine nil ?_
   exact hK3 _ ((decide (y21_l0.FKind = (3 : Int))), y21_l0) Weak.toA hE
  refine seqJ (KeepsT.A (k := 0) (KeepsT.A (k := 1) (KeepsT.A (k := 5) (KeepsT.A (k := 6) KeepsT.nil)))) (fun (z : TValue) => []) (fun z => [TValue.c z, TValue.c TValue.zero]) (fun z => H) (fun z => Z8_j26 a0 a1 z = some r) ?_ ?_
  ·intro K26 hK26
   refine seqK fun K36 hK36 => ?_
   refine region ?_
   refine s0 (fieldL (TK rfl) rfl rfl (TK rfl) rfl rfl) rfl ?_
   refine s0 (loadL (TK rfl) rfl rfl rfl rfl) rfl ?_
   refine s0 (binI rfl rfl rfl) rfl ?_
   refine s0 moveA rfl ?_
   refine gC rfl rfl (fun hC => moveA) rfl ?_
   refine gC rfl rfl (fun hC => ungdA (k := 16) rfl (nilP rfl)) rfl ?_
   refine gC rfl rfl (fun hC => ungdA (k := 17) rfl (fieldP (TK rfl) rfl rfl (TK rfl) rfl rfl)) rfl ?_
   refine gC rfl rfl (fun hC => ungdA (k := 18) rfl (loadP (TK rfl) rfl rfl hpG rfl)) rfl ?_
   refine gC rfl rfl (fun hC => ungdA (k := 19) rfl (notB rfl)) rfl ?_
   refine s0 (pickAndA rfl rfl rfl) rfl ?_
   refine nil ?_
   refine hK36 _ ?_
   clear hK36 K36
   refine condE hE rfl (fun hc37 hE => ?_) (fun hc37 hE => ?_)
   ·refine region ?_
    refine s0 (fieldL (TK rfl) rfl rfl (TK rfl) rfl rfl) rfl ?_
    refine AOps.relocal 0 (TValue.cu a2) rfl (fun j w cs hh hx => by rw [← TValue.cu_eq]; exact hx) ?_
    refine sLn (storeL1 (TK rfl) rfl rfl rfl rfl (by repeat (first | exact SetAt.zero | apply SetAt.succ)) (by repeat (first | exact SetAt.zero | apply SetAt.succ))) ?_
    refine AOps.relocal 0 (TValue.c (TValue.mk (4 : Int) a2.FInt a2.FText a2.FItems.nl a2.FItems.l a2.FKeys)) rfl (fun j w cs hh hx => by rw [TValue.cu_eq]; exact hx) ?_
    refine nil ?_
    exact hK26 _ (TValue.mk (4 : Int) a2.FInt a2.FText a2.FItems.nl a2.FItems.l a2.FKeys) Weak.toA hE
   refine AWp.skip ?_
   exact hK26 _ a2 Weak.toA hE
  rintro y27_l0 hE
  try dsimp only at hE
  unfold Z8_j26 at hE
  refine seqK fun K28 hK28 => ?_
  refine region ?_
  refine s0 moveA rfl ?_
  refine s0 (nilP rfl) rfl ?_
  refine s0 (fieldP (TK rfl) rfl rfl (TK rfl) rfl rfl) rfl ?_
  refine s0 (loadP (TK rfl) rfl rfl hpG rfl) rfl ?_
  refine s0 moveA rfl ?_
  obtain ⟨x29, gx29, hE⟩ := bindO_some hE
  refine s0 (callP rfl rfl (fun H => Z37_walk gx29 H)) rfl ?_
  refine s0 moveA rfl ?_
  refine s0 (extract rfl rfl) rfl ?_
  refine s0 (extract rfl rfl) rfl ?_
  refine sL (allocLA (TK rfl) rfl) rfl ?_
  refine sLn (storeLFA (TK rfl) rfl rfl rfl rfl rfl) ?_
  refine s0 assignA rfl ?_
  refine nil ?_
  refine hK28 _ ?_
  clear hK28 K28
  refine freezeA 9 _ rfl (Keeps.c (k := 5) (by conv => lhs; whnf) (by rfl) (Keeps.c (k := 6) (by conv => lhs; whnf) (by rfl) Keeps.nil)) ?_
  refine AWp.freezeAt 5 _ rfl rfl ?_
  refine region ?_
  refine s0 (fieldVA (TK rfl) rfl rfl (TK rfl) rfl rfl) rfl ?_
  refine s0 (loadV (TK rfl) rfl rfl rfl) rfl ?_
  refine s0 (binI rfl rfl rfl) rfl ?_
  refine s0 moveA rfl ?_
  refine gC rfl rfl (fun hC => fieldVA (TK rfl) rfl rfl (TK rfl) rfl rfl) rfl ?_
  refine gC rfl rfl (fun hC => ungdA (k := 36) rfl (loadV (TK rfl) rfl rfl rfl)) rfl ?_
  refine gC rfl rfl (fun hC => makeFunc rfl) rfl ?_
  obtain ⟨x30, gx30, hE⟩ := guardO_some hE
  refine gC rfl rfl (fun hC => ungdA (k := 37) rfl (ungdA (k := 38) rfl (callP rfl rfl (fun H => Z46_walk (gx30 hC) H (fun _ _ hx => Z9_walk hx))))) rfl ?_
  refine s0 (pickAndA rfl rfl rfl) rfl ?_
  refine s0 assignA rfl ?_
  refine nil ?_
  refine hD3 _ ?_
  refine seqK fun K31 hK31 => ?_
  refine seqK fun K32 hK32 => ?_
  refine region ?_
  refine s0 moveA rfl ?_
  refine s0 (notB rfl) rfl ?_
  refine nil ?_
  refine hK32 _ ?_
  clear hK32 K32
  refine condE hE rfl (fun hc33 hE => ?_) (fun hc33 hE => ?_)
  ·refine seqK fun K34 hK34 => ?_
   refine region ?_
   refine s0 (build Tryd.tab_ok rfl rfl rfl rfl rfl rfl) rfl ?_
   refine sLn (storeLFA (TK rfl) rfl rfl rfl rfl rfl) ?_
   refine s0 assignA rfl ?_
   refine nil ?_
   refine hK34 _ ?_
   clear hK34 K34
   refine AWp.ret ?_
   repeat (first | refine xBlock_ret ?_ | refine xThen_ret ?_)
   obtain rfl := Option.some.inj hE
   refine retQ.retF H rfl ⟨rfl, rfl⟩ ?_
   exact (fun _ _ h => h)
  refine AWp.skip ?_
  refine hK31 _ ?_
  clear hK31 K31
  refine seqK fun K35 hK35 => ?_
  refine region ?_
  refine s0 (loadV (TK rfl) rfl rfl rfl) rfl ?_
  refine sLn (storeLFA (TK rfl) rfl rfl rfl rfl rfl) ?_
  refine s0 assignA rfl ?_
  refine nil ?_
  refine hK35 _ ?_
  clear hK35 K35
  refine AWp.ret ?_
  repeat (first | refine xBlock_ret ?_ | refine xThen_ret ?_)
  obtain rfl := Option.some.inj hE
  refine retQ.retF H rfl ⟨rfl, rfl⟩ ?_
  exact (fun _ _ h => h)
 rintro ⟨s8_4, y5_l0⟩ hE
 try dsimp only at hE
 unfold Z8_j3 at hE
 refine seqK fun K6 hK6 => ?_
 refine seqK fun K7 hK7 => ?_
 refine region ?_
 refine s0 moveA rfl ?_
 refine s0 (notB rfl) rfl ?_
 refine nil ?_
 refine hK7 _ ?_
 clear hK7 K7
 refine condE hE rfl (fun hc8 hE => ?_) (fun hc8 hE => ?_)
 ·refine seqK fun K9 hK9 => ?_
  refine region ?_
  refine s0 (build Tryd.tab_ok rfl rfl rfl rfl rfl rfl) rfl ?_
  refine sLn (storeLFA (TK rfl) rfl rfl rfl rfl rfl) ?_
  refine s0 assignA rfl ?_
  refine nil ?_
  refine hK9 _ ?_
  clear hK9 K9
  refine AWp.ret ?_
  repeat (first | refine xBlock_ret ?_ | refine xThen_ret ?_)
  obtain rfl := Option.some.inj hE
  refine retQ.retF H rfl ⟨rfl, rfl⟩ ?_
  exact (fun _ _ h => h)
 refine AWp.skip ?_
 refine hK6 _ ?_
 clear hK6 K6
 refine seqK fun K10 hK10 => ?_
 refine region ?_
 refine s0 (loadL (TK rfl) rfl rfl rfl rfl) rfl ?_
 refine sLn (storeLFA (TK rfl) rfl rfl rfl rfl rfl) ?_
 refine s0 assignA rfl ?_
 refine nil ?_
 refine hK10 _ ?_
 clear hK10 K10
 refine AWp.ret ?_
 repeat (first | refine xBlock_ret ?_ | refine xThen_ret ?_)
 obtain rfl := Option.some.inj hE
 refine retQ.retF H rfl ⟨rfl, rfl⟩ ?_
 exact (fun _ _ h => h)
end Go.Proofs
