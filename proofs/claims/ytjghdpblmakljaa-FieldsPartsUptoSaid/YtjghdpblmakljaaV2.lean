import Derived.Test.YtjghdpblmakljaaV1
set_option linter.unusedVariables false
set_option linter.unusedSimpArgs false
namespace Go.Proofs
open Go Go.Ab
def fields_given_j2 (a0 : (Sl TArg)) (a1 : Bs)  (y3_l0 : TValue) : Option (TValue × Bool) := some ((TValue.mk (0 : Int) (0 : Int) ([] : Bs) true ([]) (Sl.nil : Sl Bs)), false)
def fields_given_l7 (a0 : (Sl TArg)) (a1 : Bs)  : Nat → Nat → TValue → Option (TValue × Bool)
 | 0, _, _ => none
 | n7 + 1, s10_8, y9_l0 => bif (decide (((s10_8 : Nat) : Int) < ((a0.l.length : Nat) : Int))) then ((a0.l[s10_8]?).bind fun x15 => bif ((x15.FName == a1)) then (some (x15.FValue, true)) else ((fields_given_l7 a0 a1 n7) (s10_8 + 1) y9_l0)) else (fields_given_j2 a0 a1  y9_l0)
def fields_given (a0 : (Sl TArg)) (a1 : Bs) : Option (TValue × Bool) := fields_given_l7 a0 a1 (a0.l.length + 1) 0 TValue.zero
set_option maxRecDepth 100000 in
set_option maxHeartbeats 2000000 in
theorem fields_given_walk {a0 : (Sl TArg)} {a1 : Bs} {w0 : Option Nat}  {r : (TValue × Bool)} (hE : fields_given a0 a1 = some r) (H : Heap)  : ACalls Try.prog 63 [.d (Sl.d 6 TArg.c w0 a0), .d (.str a1)] H fun v h' => v = .tup [.agg (TValue.c r.1), .d (.bool r.2)] ∧ h' = H := by
 unfold fields_given at hE
 refine ACalls.of_wp (fn := Try.f63) (c := _) Try.tab_ok (fun _ _ => Try.call63 _ _) Try.func63 rfl (n := 22) rfl (rs := [.cell 4 84, .tmp 5]) rfl rfl ?_
 refine AWp.seqK fun K1 hK1 => ?_
 refine AWp.region ?_
 refine AOps.sL (Cert.allocL (Try.tab_ok _ _ rfl) rfl (by repeat (first | exact Snoc.nil | apply Snoc.cons))) rfl ?_
 refine AOps.s0 (Cert.assign (by conv => lhs; whnf)) rfl ?_
 refine AOps.nil ?_
 refine hK1 _ ?_
 clear hK1 K1
 refine AWp.seqJ (KeepsT.cons (k := 4) (by conv => lhs; whnf) KeepsT.nil) (fun (z : TValue) => []) (fun z => [TValue.c z]) (fun z => H) (fun z => fields_given_j2 a0 a1 z = some r) ?_ ?_
 ·intro K2 hK2
  refine AWp.seqK fun K5 hK5 => ?_
  refine AWp.region ?_
  refine AOps.s0 (Cert.move (by conv => lhs; whnf)) rfl ?_
  refine AOps.sLen (f := TArg.c) (s := a0) (Try.tab_ok _ _ rfl) rfl rfl rfl rfl fun hL6 => ?_
  refine AOps.s0 (Cert.move (by conv => lhs; whnf)) rfl ?_
  refine AOps.nil ?_
  refine hK5 _ ?_
  clear hK5 K5
  refine AWp.block ?_
  refine AWp.loopO (KeepsT.cons (k := 1) (by conv => lhs; whnf) (KeepsT.cons (k := 4) (by conv => lhs; whnf) (KeepsT.cons (k := 8) (by conv => lhs; whnf) (KeepsT.cons (k := 9) (by conv => lhs; whnf) KeepsT.nil)))) (fun (z : Nat × Nat × TValue) => [(10, .a (.d (.int .i64 ((z.2.1 : Nat) : Int))))]) (fun z => [TValue.c z.2.2]) (fun z => H) (fun z => z.1) (fun z => fields_given_l7 a0 a1 z.1 z.2.1 z.2.2 = some r) ((a0.l.length + 1), 0, TValue.zero) hE Weak.toA ?_
  rintro ⟨n7, s10_8, y9_l0⟩ hE K7 hK7
  try dsimp only at hE
  cases n7 with
  | zero => cases hE
  | succ n7 =>
    rw [fields_given_l7] at hE
    refine AWp.seqK fun K10 hK10 => ?_
    refine AWp.region ?_
    refine AOps.s0 (Cert.binI rfl rfl rfl) rfl ?_
    refine AOps.nil ?_
    refine hK10 _ ?_
    clear hK10 K10
    refine AWp.seqK fun K11 hK11 => ?_
    refine AWp.cond rfl (fun hc12 => ?_) (fun hc12 => ?_)
    ·have hE := condT hc12 hE
     try dsimp only at hc12
     have hf12 := of_decide_eq_true hc12
     refine AWp.skip ?_
     refine hK11 _ ?_
     clear hK11 K11
     refine AWp.seqK fun K13 hK13 => ?_
     refine AWp.block ?_
     refine AWp.seqK fun K14 hK14 => ?_
     refine AWp.region ?_
     obtain ⟨x15, gx15, hE⟩ := bindO_some hE
     refine AOps.s0 (Cert.idxMn (f := TArg.c) (n := s10_8) (Try.tab_ok _ _ rfl) rfl (Try.tab_ok _ _ rfl) rfl rfl rfl gx15) rfl ?_
     refine AOps.s0 (Cert.loadV (Try.tab_ok _ _ rfl) rfl rfl rfl) rfl ?_
     refine AOps.sL (Cert.allocL (Try.tab_ok _ _ rfl) rfl (by repeat (first | exact Snoc.nil | apply Snoc.cons))) rfl ?_
     refine AOps.sLn (Cert.storeLF (Try.tab_ok _ _ rfl) rfl rfl rfl rfl rfl (by repeat (first | exact SetAt.zero | apply SetAt.succ))) ?_
     refine AOps.nil ?_
     refine hK14 _ ?_
     clear hK14 K14
     refine AWp.freeze 7 _ rfl (by repeat (first | exact Snoc.nil | apply Snoc.cons)) (Keeps.c (k := 1) (by conv => lhs; whnf) (by rfl) (Keeps.c (k := 4) (by conv => lhs; whnf) (by rfl) (Keeps.c (k := 8) (by conv => lhs; whnf) (by rfl) (Keeps.c (k := 9) (by conv => lhs; whnf) (by rfl) (Keeps.c (k := 10) (by conv => lhs; whnf) (by rfl) Keeps.nil))))) ?_
     refine AWp.seqK fun K16 hK16 => ?_
     refine AWp.region ?_
     refine AOps.s0 (Cert.fieldV (Try.tab_ok _ _ rfl) rfl rfl (Try.tab_ok _ _ rfl) rfl rfl (by conv => lhs; whnf)) rfl ?_
     refine AOps.s0 (Cert.loadV (Try.tab_ok _ _ rfl) rfl rfl rfl) rfl ?_
     refine AOps.s0 (Cert.move (by conv => lhs; whnf)) rfl ?_
     refine AOps.s0 (Cert.binS rfl rfl rfl) rfl ?_
     refine AOps.nil ?_
     refine hK16 _ ?_
     clear hK16 K16
     refine AWp.cond rfl (fun hc17 => ?_) (fun hc17 => ?_)
     ·have hE := condT hc17 hE
      try dsimp only at hc17
      refine AWp.seqK fun K18 hK18 => ?_
      refine AWp.region ?_
      refine AOps.s0 (Cert.fieldV (Try.tab_ok _ _ rfl) rfl rfl (Try.tab_ok _ _ rfl) rfl rfl (by conv => lhs; whnf)) rfl ?_
      refine AOps.s0 (Cert.loadV (Try.tab_ok _ _ rfl) rfl rfl rfl) rfl ?_
      refine AOps.sLn (Cert.storeLF (Try.tab_ok _ _ rfl) rfl rfl rfl rfl rfl (by repeat (first | exact SetAt.zero | apply SetAt.succ))) ?_
      refine AOps.s0 (Cert.assign (by conv => lhs; whnf)) rfl ?_
      refine AOps.nil ?_
      refine hK18 _ ?_
      clear hK18 K18
      refine AWp.ret ?_
      repeat (first | refine xBlock_ret ?_ | refine xThen_ret ?_)
      obtain rfl := Option.some.inj hE
      refine retQ.retF H rfl ⟨rfl, rfl⟩ ?_
      exact (fun _ _ h => h)
     ·have hE := condF hc17 hE
      try dsimp only at hc17
      refine AWp.skip ?_
      refine hK13 _ ?_
      clear hK13 K13
      refine AWp.region ?_
      refine AOps.s0 (Cert.addI rfl rfl (by first | omega | (dsimp only; omega)) (by first | omega | (dsimp only; omega))) rfl ?_
      refine AOps.s0 (Cert.move (by conv => lhs; whnf)) rfl ?_
      refine AOps.nil ?_
      exact hK7 _ (n7, (s10_8 + 1), y9_l0) Weak.toA hE (Nat.lt_succ_self _)
    ·have hE := condF hc12 hE
     try dsimp only at hc12
     refine AWp.exit ?_
     exact hK2 _ y9_l0 Weak.toA hE
 ·rintro y3_l0 hE
  try dsimp only at hE
  unfold fields_given_j2 at hE
  refine AWp.seqK fun K4 hK4 => ?_
  refine AWp.region ?_
  refine AOps.s0 (Cert.build Try.tab_ok rfl rfl rfl rfl rfl rfl) rfl ?_
  refine AOps.sLn (Cert.storeLF (Try.tab_ok _ _ rfl) rfl rfl rfl rfl rfl (by repeat (first | exact SetAt.zero | apply SetAt.succ))) ?_
  refine AOps.s0 (Cert.assign (by conv => lhs; whnf)) rfl ?_
  refine AOps.nil ?_
  refine hK4 _ ?_
  clear hK4 K4
  refine AWp.ret ?_
  repeat (first | refine xBlock_ret ?_ | refine xThen_ret ?_)
  obtain rfl := Option.some.inj hE
  refine retQ.retF H rfl ⟨rfl, rfl⟩ ?_
  exact (fun _ _ h => h)
def schema_InputOf_j2 (a0 : (Sl TInput)) (a1 : Bs)  (y3_l0 : TInput) : Option (TInput × Bool) := some ((TInput.mk ([] : Bs) TRef.zero false TValue.zero (Sl.nil : Sl TDir)), false)
def schema_InputOf_l7 (a0 : (Sl TInput)) (a1 : Bs)  : Nat → Nat → TInput → Option (TInput × Bool)
 | 0, _, _ => none
 | n7 + 1, s10_8, y9_l0 => bif (decide (((s10_8 : Nat) : Int) < ((a0.l.length : Nat) : Int))) then ((a0.l[s10_8]?).bind fun x15 => bif ((x15.FName == a1)) then (some (x15, true)) else ((schema_InputOf_l7 a0 a1 n7) (s10_8 + 1) y9_l0)) else (schema_InputOf_j2 a0 a1  y9_l0)
def schema_InputOf (a0 : (Sl TInput)) (a1 : Bs) : Option (TInput × Bool) := schema_InputOf_l7 a0 a1 (a0.l.length + 1) 0 TInput.zero
set_option maxRecDepth 100000 in
set_option maxHeartbeats 2000000 in
theorem schema_InputOf_walk {a0 : (Sl TInput)} {a1 : Bs} {w0 : Option Nat}  {r : (TInput × Bool)} (hE : schema_InputOf a0 a1 = some r) (H : Heap)  : ACalls Try.prog 75 [.d (Sl.d 10 TInput.c w0 a0), .d (.str a1)] H fun v h' => v = .tup [.agg (TInput.c r.1), .d (.bool r.2)] ∧ h' = H := by
 unfold schema_InputOf at hE
 refine ACalls.of_wp (fn := Try.f75) (c := _) Try.tab_ok (fun _ _ => Try.call75 _ _) Try.func75 rfl (n := 21) rfl (rs := [.cell 4 86, .tmp 5]) rfl rfl ?_
 refine AWp.seqK fun K1 hK1 => ?_
 refine AWp.region ?_
 refine AOps.sL (Cert.allocL (Try.tab_ok _ _ rfl) rfl (by repeat (first | exact Snoc.nil | apply Snoc.cons))) rfl ?_
 refine AOps.s0 (Cert.assign (by conv => lhs; whnf)) rfl ?_
 refine AOps.nil ?_
 refine hK1 _ ?_
 clear hK1 K1
 refine AWp.seqJ (KeepsT.cons (k := 4) (by conv => lhs; whnf) KeepsT.nil) (fun (z : TInput) => []) (fun z => [TInput.c z]) (fun z => H) (fun z => schema_InputOf_j2 a0 a1 z = some r) ?_ ?_
 ·intro K2 hK2
  refine AWp.seqK fun K5 hK5 => ?_
  refine AWp.region ?_
  refine AOps.s0 (Cert.move (by conv => lhs; whnf)) rfl ?_
  refine AOps.sLen (f := TInput.c) (s := a0) (Try.tab_ok _ _ rfl) rfl rfl rfl rfl fun hL6 => ?_
  refine AOps.s0 (Cert.move (by conv => lhs; whnf)) rfl ?_
  refine AOps.nil ?_
  refine hK5 _ ?_
  clear hK5 K5
  refine AWp.block ?_
  refine AWp.loopO (KeepsT.cons (k := 1) (by conv => lhs; whnf) (KeepsT.cons (k := 4) (by conv => lhs; whnf) (KeepsT.cons (k := 8) (by conv => lhs; whnf) (KeepsT.cons (k := 9) (by conv => lhs; whnf) KeepsT.nil)))) (fun (z : Nat × Nat × TInput) => [(10, .a (.d (.int .i64 ((z.2.1 : Nat) : Int))))]) (fun z => [TInput.c z.2.2]) (fun z => H) (fun z => z.1) (fun z => schema_InputOf_l7 a0 a1 z.1 z.2.1 z.2.2 = some r) ((a0.l.length + 1), 0, TInput.zero) hE Weak.toA ?_
  rintro ⟨n7, s10_8, y9_l0⟩ hE K7 hK7
  try dsimp only at hE
  cases n7 with
  | zero => cases hE
  | succ n7 =>
    rw [schema_InputOf_l7] at hE
    refine AWp.seqK fun K10 hK10 => ?_
    refine AWp.region ?_
    refine AOps.s0 (Cert.binI rfl rfl rfl) rfl ?_
    refine AOps.nil ?_
    refine hK10 _ ?_
    clear hK10 K10
    refine AWp.seqK fun K11 hK11 => ?_
    refine AWp.cond rfl (fun hc12 => ?_) (fun hc12 => ?_)
    ·have hE := condT hc12 hE
     try dsimp only at hc12
     have hf12 := of_decide_eq_true hc12
     refine AWp.skip ?_
     refine hK11 _ ?_
     clear hK11 K11
     refine AWp.seqK fun K13 hK13 => ?_
     refine AWp.block ?_
     refine AWp.seqK fun K14 hK14 => ?_
     refine AWp.region ?_
     obtain ⟨x15, gx15, hE⟩ := bindO_some hE
     refine AOps.s0 (Cert.idxMn (f := TInput.c) (n := s10_8) (Try.tab_ok _ _ rfl) rfl (Try.tab_ok _ _ rfl) rfl rfl rfl gx15) rfl ?_
     refine AOps.s0 (Cert.loadV (Try.tab_ok _ _ rfl) rfl rfl rfl) rfl ?_
     refine AOps.sL (Cert.allocL (Try.tab_ok _ _ rfl) rfl (by repeat (first | exact Snoc.nil | apply Snoc.cons))) rfl ?_
     refine AOps.sLn (Cert.storeLF (Try.tab_ok _ _ rfl) rfl rfl rfl rfl rfl (by repeat (first | exact SetAt.zero | apply SetAt.succ))) ?_
     refine AOps.nil ?_
     refine hK14 _ ?_
     clear hK14 K14
     refine AWp.freeze 7 _ rfl (by repeat (first | exact Snoc.nil | apply Snoc.cons)) (Keeps.c (k := 1) (by conv => lhs; whnf) (by rfl) (Keeps.c (k := 4) (by conv => lhs; whnf) (by rfl) (Keeps.c (k := 8) (by conv => lhs; whnf) (by rfl) (Keeps.c (k := 9) (by conv => lhs; whnf) (by rfl) (Keeps.c (k := 10) (by conv => lhs; whnf) (by rfl) Keeps.nil))))) ?_
     refine AWp.seqK fun K16 hK16 => ?_
     refine AWp.region ?_
     refine AOps.s0 (Cert.fieldV (Try.tab_ok _ _ rfl) rfl rfl (Try.tab_ok _ _ rfl) rfl rfl (by conv => lhs; whnf)) rfl ?_
     refine AOps.s0 (Cert.loadV (Try.tab_ok _ _ rfl) rfl rfl rfl) rfl ?_
     refine AOps.s0 (Cert.move (by conv => lhs; whnf)) rfl ?_
     refine AOps.s0 (Cert.binS rfl rfl rfl) rfl ?_
     refine AOps.nil ?_
     refine hK16 _ ?_
     clear hK16 K16
     refine AWp.cond rfl (fun hc17 => ?_) (fun hc17 => ?_)
     ·have hE := condT hc17 hE
      try dsimp only at hc17
      refine AWp.seqK fun K18 hK18 => ?_
      refine AWp.region ?_
      refine AOps.s0 (Cert.loadV (Try.tab_ok _ _ rfl) rfl rfl rfl) rfl ?_
      refine AOps.sLn (Cert.storeLF (Try.tab_ok _ _ rfl) rfl rfl rfl rfl rfl (by repeat (first | exact SetAt.zero | apply SetAt.succ))) ?_
      refine AOps.s0 (Cert.assign (by conv => lhs; whnf)) rfl ?_
      refine AOps.nil ?_
      refine hK18 _ ?_
      clear hK18 K18
      refine AWp.ret ?_
      repeat (first | refine xBlock_ret ?_ | refine xThen_ret ?_)
      obtain rfl := Option.some.inj hE
      refine retQ.retF H rfl ⟨rfl, rfl⟩ ?_
      exact (fun _ _ h => h)
     ·have hE := condF hc17 hE
      try dsimp only at hc17
      refine AWp.skip ?_
      refine hK13 _ ?_
      clear hK13 K13
      refine AWp.region ?_
      refine AOps.s0 (Cert.addI rfl rfl (by first | omega | (dsimp only; omega)) (by first | omega | (dsimp only; omega))) rfl ?_
      refine AOps.s0 (Cert.move (by conv => lhs; whnf)) rfl ?_
      refine AOps.nil ?_
      exact hK7 _ (n7, (s10_8 + 1), y9_l0) Weak.toA hE (Nat.lt_succ_self _)
    ·have hE := condF hc12 hE
     try dsimp only at hc12
     refine AWp.exit ?_
     exact hK2 _ y9_l0 Weak.toA hE
 ·rintro y3_l0 hE
  try dsimp only at hE
  unfold schema_InputOf_j2 at hE
  refine AWp.seqK fun K4 hK4 => ?_
  refine AWp.region ?_
  refine AOps.s0 (Cert.build Try.tab_ok rfl rfl rfl rfl rfl rfl) rfl ?_
  refine AOps.sLn (Cert.storeLF (Try.tab_ok _ _ rfl) rfl rfl rfl rfl rfl (by repeat (first | exact SetAt.zero | apply SetAt.succ))) ?_
  refine AOps.s0 (Cert.assign (by conv => lhs; whnf)) rfl ?_
  refine AOps.nil ?_
  refine hK4 _ ?_
  clear hK4 K4
  refine AWp.ret ?_
  repeat (first | refine xBlock_ret ?_ | refine xThen_ret ?_)
  obtain rfl := Option.some.inj hE
  refine retQ.retF H rfl ⟨rfl, rfl⟩ ?_
  exact (fun _ _ h => h)
def schema_Leaf (a0 : TDoc) (a1 : Bs) : Option Bool := (schema_Scalar a1).bind fun x3 => guardO (!x3) (schema_kind a0 a1) (0 : Int) fun x4 => some (x3 || (decide (x4 = (4 : Int))))
set_option maxRecDepth 100000 in
set_option maxHeartbeats 2000000 in
theorem schema_Leaf_walk {a0 : TDoc} {a1 : Bs}   {r : Bool} (hE : schema_Leaf a0 a1 = some r) (H : Heap)  : ACalls Try.prog 65 [.agg (TDoc.c a0), .d (.str a1)] H fun v h' => v = .a (.d (.bool r)) ∧ h' = H := by
 unfold schema_Leaf at hE
 refine ACalls.of_wp (fn := Try.f65) (c := _) Try.tab_ok (fun _ _ => Try.call65 _ _) Try.func65 rfl (n := 13) rfl (rs := [.tmp 4]) rfl rfl ?_
 refine AWp.seqK fun K1 hK1 => ?_
 refine AWp.region ?_
 refine AOps.s0 (Cert.boxV rfl) rfl ?_
 refine AOps.s0 (Cert.assign (by conv => lhs; whnf)) rfl ?_
 refine AOps.nil ?_
 refine hK1 _ ?_
 clear hK1 K1
 refine AWp.seqK fun K2 hK2 => ?_
 refine AWp.region ?_
 refine AOps.s0 (Cert.move (by conv => lhs; whnf)) rfl ?_
 obtain ⟨x3, gx3, hE⟩ := bindO_some hE
 refine AOps.s0 (Cert.callP rfl rfl (fun H => schema_Scalar_walk gx3 H)) rfl ?_
 refine AOps.s0 (Cert.move (by conv => lhs; whnf)) rfl ?_
 refine AOps.gC rfl rfl (fun hC => Cert.loadV (Try.tab_ok _ _ rfl) rfl rfl rfl) rfl ?_
 refine AOps.gC rfl rfl (fun hC => Cert.move (by conv => lhs; whnf)) rfl ?_
 obtain ⟨x4, gx4, hE⟩ := guardO_some hE
 refine AOps.gC rfl rfl (fun hC => Cert.ungd (k := 8) rfl (by first | exact hC | exact andL hC | exact andL (andL hC) | exact andL (andL (andL hC)) | exact andR hC | simp_all) (Cert.ungd (k := 9) rfl (by first | exact hC | exact andL hC | exact andL (andL hC) | exact andL (andL (andL hC)) | exact andR hC | simp_all) (Cert.callP rfl rfl (fun H => schema_kind_walk (gx4 hC) H)))) rfl ?_
 refine AOps.gC rfl rfl (fun hC => Cert.ungd (k := 10) rfl (by first | exact hC | exact andL hC | exact andL (andL hC) | exact andL (andL (andL hC)) | exact andR hC | simp_all) (Cert.binI rfl rfl rfl)) rfl ?_
 refine AOps.s0 (Cert.pickOr rfl rfl rfl (fun h => by first | exact h | exact notT h | exact andI hC h | exact andI hC (notT h) | simp_all)) rfl ?_
 refine AOps.s0 (Cert.assign (by conv => lhs; whnf)) rfl ?_
 refine AOps.nil ?_
 refine hK2 _ ?_
 clear hK2 K2
 refine AWp.ret ?_
 repeat (first | refine xBlock_ret ?_ | refine xThen_ret ?_)
 obtain rfl := Option.some.inj hE
 refine retQ.retF H rfl ⟨rfl, rfl⟩ ?_
 exact (fun _ _ h => h)
def schema_IsInput (a0 : TDoc) (a1 : Bs) : Option Bool := (schema_Leaf a0 a1).bind fun x3 => guardO (!x3) (schema_kind a0 a1) (0 : Int) fun x4 => some (x3 || (decide (x4 = (5 : Int))))
set_option maxRecDepth 100000 in
set_option maxHeartbeats 2000000 in
theorem schema_IsInput_walk {a0 : TDoc} {a1 : Bs}   {r : Bool} (hE : schema_IsInput a0 a1 = some r) (H : Heap)  : ACalls Try.prog 79 [.agg (TDoc.c a0), .d (.str a1)] H fun v h' => v = .a (.d (.bool r)) ∧ h' = H := by
 unfold schema_IsInput at hE
 refine ACalls.of_wp (fn := Try.f79) (c := _) Try.tab_ok (fun _ _ => Try.call79 _ _) Try.func79 rfl (n := 14) rfl (rs := [.tmp 4]) rfl rfl ?_
 refine AWp.seqK fun K1 hK1 => ?_
 refine AWp.region ?_
 refine AOps.s0 (Cert.boxV rfl) rfl ?_
 refine AOps.s0 (Cert.assign (by conv => lhs; whnf)) rfl ?_
 refine AOps.nil ?_
 refine hK1 _ ?_
 clear hK1 K1
 refine AWp.seqK fun K2 hK2 => ?_
 refine AWp.region ?_
 refine AOps.s0 (Cert.loadV (Try.tab_ok _ _ rfl) rfl rfl rfl) rfl ?_
 refine AOps.s0 (Cert.move (by conv => lhs; whnf)) rfl ?_
 obtain ⟨x3, gx3, hE⟩ := bindO_some hE
 refine AOps.s0 (Cert.callP rfl rfl (fun H => schema_Leaf_walk gx3 H)) rfl ?_
 refine AOps.s0 (Cert.move (by conv => lhs; whnf)) rfl ?_
 refine AOps.gC rfl rfl (fun hC => Cert.loadV (Try.tab_ok _ _ rfl) rfl rfl rfl) rfl ?_
 refine AOps.gC rfl rfl (fun hC => Cert.move (by conv => lhs; whnf)) rfl ?_
 obtain ⟨x4, gx4, hE⟩ := guardO_some hE
 refine AOps.gC rfl rfl (fun hC => Cert.ungd (k := 9) rfl (by first | exact hC | exact andL hC | exact andL (andL hC) | exact andL (andL (andL hC)) | exact andR hC | simp_all) (Cert.ungd (k := 10) rfl (by first | exact hC | exact andL hC | exact andL (andL hC) | exact andL (andL (andL hC)) | exact andR hC | simp_all) (Cert.callP rfl rfl (fun H => schema_kind_walk (gx4 hC) H)))) rfl ?_
 refine AOps.gC rfl rfl (fun hC => Cert.ungd (k := 11) rfl (by first | exact hC | exact andL hC | exact andL (andL hC) | exact andL (andL (andL hC)) | exact andR hC | simp_all) (Cert.binI rfl rfl rfl)) rfl ?_
 refine AOps.s0 (Cert.pickOr rfl rfl rfl (fun h => by first | exact h | exact notT h | exact andI hC h | exact andI hC (notT h) | simp_all)) rfl ?_
 refine AOps.s0 (Cert.assign (by conv => lhs; whnf)) rfl ?_
 refine AOps.nil ?_
 refine hK2 _ ?_
 clear hK2 K2
 refine AWp.ret ?_
 repeat (first | refine xBlock_ret ?_ | refine xThen_ret ?_)
 obtain rfl := Option.some.inj hE
 refine retQ.retF H rfl ⟨rfl, rfl⟩ ?_
 exact (fun _ _ h => h)
def typeref_Inner (a0 : TRef) : Option (TRef × Bool) := (typeref_IsList a0).bind fun x4 => bif (!x4) then (some ((TRef.mk ([] : Bs) (Sl.nil : Sl Int)), false)) else ((typeref_Nullable a0).bind fun x8 => (partC x8.FWraps (some (1 : Int)) none).bind fun x10 => some ((TRef.mk x8.FName x10), true))
set_option maxRecDepth 100000 in
set_option maxHeartbeats 2000000 in
theorem typeref_Inner_walk {a0 : TRef}   {r : (TRef × Bool)} (hE : typeref_Inner a0 = some r) (H : Heap)  : ACalls Try.prog 80 [.agg (TRef.c a0)] H fun v h' => v = .tup [.agg (TRef.c r.1), .d (.bool r.2)] ∧ h' = H := by
 unfold typeref_Inner at hE
 refine ACalls.of_wp (fn := Try.f80) (c := _) Try.tab_ok (fun _ _ => Try.call80 _ _) Try.func80 rfl (n := 15) rfl (rs := [.cell 2 29, .tmp 3]) rfl rfl ?_
 refine AWp.seqK fun K1 hK1 => ?_
 refine AWp.region ?_
 refine AOps.sL (Cert.boxL rfl (by repeat (first | exact Snoc.nil | apply Snoc.cons))) rfl ?_
 refine AOps.sL (Cert.allocL (Try.tab_ok _ _ rfl) rfl (by repeat (first | exact Snoc.nil | apply Snoc.cons))) rfl ?_
 refine AOps.s0 (Cert.assign (by conv => lhs; whnf)) rfl ?_
 refine AOps.nil ?_
 refine hK1 _ ?_
 clear hK1 K1
 refine AWp.seqK fun K2 hK2 => ?_
 refine AWp.seqK fun K3 hK3 => ?_
 refine AWp.region ?_
 refine AOps.s0 (Cert.loadL (Try.tab_ok _ _ rfl) rfl rfl rfl rfl) rfl ?_
 obtain ⟨x4, gx4, hE⟩ := bindO_some hE
 refine AOps.s0 (Cert.callP rfl rfl (fun H => typeref_IsList_walk gx4 H)) rfl ?_
 refine AOps.s0 (Cert.notB rfl) rfl ?_
 refine AOps.nil ?_
 refine hK3 _ ?_
 clear hK3 K3
 refine AWp.cond rfl (fun hc5 => ?_) (fun hc5 => ?_)
 ·have hE := condT hc5 hE
  try dsimp only at hc5
  refine AWp.seqK fun K6 hK6 => ?_
  refine AWp.region ?_
  refine AOps.s0 (Cert.build Try.tab_ok rfl rfl rfl rfl rfl rfl) rfl ?_
  refine AOps.sLn (Cert.storeLF (Try.tab_ok _ _ rfl) rfl rfl rfl rfl rfl (by repeat (first | exact SetAt.zero | apply SetAt.succ))) ?_
  refine AOps.s0 (Cert.assign (by conv => lhs; whnf)) rfl ?_
  refine AOps.nil ?_
  refine hK6 _ ?_
  clear hK6 K6
  refine AWp.ret ?_
  repeat (first | refine xBlock_ret ?_ | refine xThen_ret ?_)
  obtain rfl := Option.some.inj hE
  refine retQ.retF H rfl ⟨rfl, rfl⟩ ?_
  exact (fun _ _ h => h)
 ·have hE := condF hc5 hE
  try dsimp only at hc5
  refine AWp.skip ?_
  refine hK2 _ ?_
  clear hK2 K2
  refine AWp.seqK fun K7 hK7 => ?_
  refine AWp.region ?_
  refine AOps.s0 (Cert.loadL (Try.tab_ok _ _ rfl) rfl rfl rfl rfl) rfl ?_
  obtain ⟨x8, gx8, hE⟩ := bindO_some hE
  refine AOps.s0 (Cert.callP rfl rfl (fun H => typeref_Nullable_walk gx8 H)) rfl ?_
  refine AOps.sLn (Cert.storeLF (Try.tab_ok _ _ rfl) rfl rfl rfl rfl rfl (by repeat (first | exact SetAt.zero | apply SetAt.succ))) ?_
  refine AOps.nil ?_
  refine hK7 _ ?_
  clear hK7 K7
  refine AWp.seqK fun K9 hK9 => ?_
  refine AWp.region ?_
  refine AOps.s0 (Cert.fieldL (Try.tab_ok _ _ rfl) rfl rfl (Try.tab_ok _ _ rfl) rfl rfl) rfl ?_
  refine AOps.s0 (Cert.loadL (Try.tab_ok _ _ rfl) rfl rfl rfl rfl) rfl ?_
  obtain ⟨x10, gx10, hE⟩ := bindO_some hE
  refine AOps.s0 (Cert.partM (f := (intE .i64)) (l := (some (1 : Int))) (r := none) (Try.tab_ok _ _ rfl) rfl (Try.tab_ok _ _ rfl) rfl rfl rfl trivial gx10) rfl ?_
  refine AOps.s0 (Cert.fieldL (Try.tab_ok _ _ rfl) rfl rfl (Try.tab_ok _ _ rfl) rfl rfl) rfl ?_
  refine AOps.sLn (Cert.storeL1 (Try.tab_ok _ _ rfl) rfl rfl rfl rfl (by repeat (first | exact SetAt.zero | apply SetAt.succ)) (by repeat (first | exact SetAt.zero | apply SetAt.succ))) ?_
  refine AOps.nil ?_
  refine hK9 _ ?_
  clear hK9 K9
  refine AWp.seqK fun K11 hK11 => ?_
  refine AWp.region ?_
  refine AOps.s0 (Cert.loadL (Try.tab_ok _ _ rfl) rfl rfl rfl rfl) rfl ?_
  refine AOps.sLn (Cert.storeLF (Try.tab_ok _ _ rfl) rfl rfl rfl rfl rfl (by repeat (first | exact SetAt.zero | apply SetAt.succ))) ?_
  refine AOps.s0 (Cert.assign (by conv => lhs; whnf)) rfl ?_
  refine AOps.nil ?_
  refine hK11 _ ?_
  clear hK11 K11
  refine AWp.ret ?_
  repeat (first | refine xBlock_ret ?_ | refine xThen_ret ?_)
  obtain rfl := Option.some.inj hE
  refine retQ.retF H rfl ⟨rfl, rfl⟩ ?_
  exact (fun _ _ h => h)
def slices_IndexFunc_alueapiValue_j2 (a0 : (Sl TValue)) (a1 : (TValue → Option Bool))   : Option Int := some (-1 : Int)
def slices_IndexFunc_alueapiValue_l6 (a0 : (Sl TValue)) (a1 : (TValue → Option Bool))  : Nat → Nat → Option Int
 | 0, _ => none
 | n6 + 1, s8_7 => bif (decide (((s8_7 : Nat) : Int) < ((a0.l.length : Nat) : Int))) then ((a0.l[s8_7]?).bind fun x14 => (a1 x14).bind fun x15 => bif x15 then (some ((s8_7 : Nat) : Int)) else ((slices_IndexFunc_alueapiValue_l6 a0 a1 n6) (s8_7 + 1))) else (slices_IndexFunc_alueapiValue_j2 a0 a1  )
def slices_IndexFunc_alueapiValue (a0 : (Sl TValue)) (a1 : (TValue → Option Bool)) : Option Int := slices_IndexFunc_alueapiValue_l6 a0 a1 (a0.l.length + 1) 0
set_option maxRecDepth 100000 in
set_option maxHeartbeats 2000000 in
theorem slices_IndexFunc_alueapiValue_walk {a0 : (Sl TValue)} {a1 : (TValue → Option Bool)} {w0 : Option Nat} {cl1 : List D} {k1 : Nat} {r : Int} (hE : slices_IndexFunc_alueapiValue a0 a1 = some r) (H : Heap) (hf1 : ∀ x0 r, a1 x0 = some r → ∀ H, ACalls Try.prog k1 ([.agg (TValue.c x0)] ++ cl1.map A.d) H fun v h' => v = .a (.d (.bool r)) ∧ h' = H) : ACalls Try.prog 88 [.d (Sl.d 5 TValue.c w0 a0), .d (.func k1 cl1)] H fun v h' => v = .a (.d (.int .i64 r)) ∧ h' = H := by
 unfold slices_IndexFunc_alueapiValue at hE
 refine ACalls.of_wp (fn := Try.f88) (c := _) Try.tab_ok (fun _ _ => Try.call88 _ _) Try.func88 rfl (n := 19) rfl (rs := [.tmp 4]) rfl rfl ?_
 refine AWp.seqK fun K1 hK1 => ?_
 refine AWp.region ?_
 refine AOps.s0 (Cert.assign (by conv => lhs; whnf)) rfl ?_
 refine AOps.nil ?_
 refine hK1 _ ?_
 clear hK1 K1
 refine AWp.seqJH KeepsT.nil (fun (z : Unit) => []) (fun z => H) (fun z => slices_IndexFunc_alueapiValue_j2 a0 a1  = some r) ?_ ?_
 ·intro K2 hK2
  refine AWp.seqK fun K4 hK4 => ?_
  refine AWp.region ?_
  refine AOps.s0 (Cert.move (by conv => lhs; whnf)) rfl ?_
  refine AOps.sLen (f := TValue.c) (s := a0) (Try.tab_ok _ _ rfl) rfl rfl rfl rfl fun hL5 => ?_
  refine AOps.s0 (Cert.move (by conv => lhs; whnf)) rfl ?_
  refine AOps.nil ?_
  refine hK4 _ ?_
  clear hK4 K4
  refine AWp.block ?_
  refine AWp.loopH (KeepsT.cons (k := 0) (by conv => lhs; whnf) (KeepsT.cons (k := 1) (by conv => lhs; whnf) (KeepsT.cons (k := 7) (by conv => lhs; whnf) KeepsT.nil))) (fun (z : Nat × Nat) => [(8, .a (.d (.int .i64 ((z.2 : Nat) : Int))))]) (fun z => H) (fun z => z.1) (fun z => slices_IndexFunc_alueapiValue_l6 a0 a1 z.1 z.2 = some r) ((a0.l.length + 1), 0) hE Weak.toA ?_
  rintro ⟨n6, s8_7⟩ hE K6 hK6
  try dsimp only at hE
  cases n6 with
  | zero => cases hE
  | succ n6 =>
    rw [slices_IndexFunc_alueapiValue_l6] at hE
    refine AWp.seqK fun K8 hK8 => ?_
    refine AWp.region ?_
    refine AOps.s0 (Cert.binI rfl rfl rfl) rfl ?_
    refine AOps.nil ?_
    refine hK8 _ ?_
    clear hK8 K8
    refine AWp.seqK fun K9 hK9 => ?_
    refine AWp.cond rfl (fun hc10 => ?_) (fun hc10 => ?_)
    ·have hE := condT hc10 hE
     try dsimp only at hc10
     have hf10 := of_decide_eq_true hc10
     refine AWp.skip ?_
     refine hK9 _ ?_
     clear hK9 K9
     refine AWp.seqK fun K11 hK11 => ?_
     refine AWp.block ?_
     refine AWp.seqK fun K12 hK12 => ?_
     refine AWp.region ?_
     refine AOps.s0 (Cert.move (by conv => lhs; whnf)) rfl ?_
     refine AOps.s0 (Cert.assign (by conv => lhs; whnf)) rfl ?_
     refine AOps.nil ?_
     refine hK12 _ ?_
     clear hK12 K12
     refine AWp.seqK fun K13 hK13 => ?_
     refine AWp.region ?_
     refine AOps.s0 (Cert.move (by conv => lhs; whnf)) rfl ?_
     refine AOps.s0 (Cert.move (by conv => lhs; whnf)) rfl ?_
     refine AOps.s0 (Cert.move (by conv => lhs; whnf)) rfl ?_
     obtain ⟨x14, gx14, hE⟩ := bindO_some hE
     refine AOps.s0 (Cert.idxMn (f := TValue.c) (n := s8_7) (Try.tab_ok _ _ rfl) rfl (Try.tab_ok _ _ rfl) rfl rfl rfl gx14) rfl ?_
     refine AOps.s0 (Cert.loadV (Try.tab_ok _ _ rfl) rfl rfl rfl) rfl ?_
     obtain ⟨x15, gx15, hE⟩ := bindO_some hE
     refine AOps.s0 (Cert.callP rfl rfl (hf1 _ _ gx15)) rfl ?_
     refine AOps.nil ?_
     refine hK13 _ ?_
     clear hK13 K13
     refine AWp.cond rfl (fun hc16 => ?_) (fun hc16 => ?_)
     ·have hE := condT hc16 hE
      try dsimp only at hc16
      refine AWp.seqK fun K17 hK17 => ?_
      refine AWp.region ?_
      refine AOps.s0 (Cert.move (by conv => lhs; whnf)) rfl ?_
      refine AOps.s0 (Cert.assign (by conv => lhs; whnf)) rfl ?_
      refine AOps.nil ?_
      refine hK17 _ ?_
      clear hK17 K17
      refine AWp.ret ?_
      repeat (first | refine xBlock_ret ?_ | refine xThen_ret ?_)
      obtain rfl := Option.some.inj hE
      refine retQ.retF H rfl ⟨rfl, rfl⟩ ?_
      exact (fun _ _ h => h)
     ·have hE := condF hc16 hE
      try dsimp only at hc16
      refine AWp.skip ?_
      refine hK11 _ ?_
      clear hK11 K11
      refine AWp.region ?_
      refine AOps.s0 (Cert.addI rfl rfl (by first | omega | (dsimp only; omega)) (by first | omega | (dsimp only; omega))) rfl ?_
      refine AOps.s0 (Cert.move (by conv => lhs; whnf)) rfl ?_
      refine AOps.nil ?_
      exact hK6 _ (n6, (s8_7 + 1)) Weak.toA hE (Nat.lt_succ_self _)
    ·have hE := condF hc10 hE
     try dsimp only at hc10
     refine AWp.exit ?_
     exact hK2 _ () Weak.toA hE
 ·rintro _ hE
  try dsimp only at hE
  unfold slices_IndexFunc_alueapiValue_j2 at hE
  refine AWp.seqK fun K3 hK3 => ?_
  refine AWp.region ?_
  refine AOps.s0 (Cert.assign (by conv => lhs; whnf)) rfl ?_
  refine AOps.nil ?_
  refine hK3 _ ?_
  clear hK3 K3
  refine AWp.ret ?_
  repeat (first | refine xBlock_ret ?_ | refine xThen_ret ?_)
  obtain rfl := Option.some.inj hE
  refine retQ.retF H rfl ⟨rfl, rfl⟩ ?_
  exact (fun _ _ h => h)
def slices_ContainsFunc_alueapiValue (a0 : (Sl TValue)) (a1 : (TValue → Option Bool)) : Option Bool := (slices_IndexFunc_alueapiValue a0 a1).bind fun x3 => some (decide ((0 : Int) ≤ x3))
set_option maxRecDepth 100000 in
set_option maxHeartbeats 2000000 in
theorem slices_ContainsFunc_alueapiValue_walk {a0 : (Sl TValue)} {a1 : (TValue → Option Bool)} {w0 : Option Nat} {cl1 : List D} {k1 : Nat} {r : Bool} (hE : slices_ContainsFunc_alueapiValue a0 a1 = some r) (H : Heap) (hf1 : ∀ x0 r, a1 x0 = some r → ∀ H, ACalls Try.prog k1 ([.agg (TValue.c x0)] ++ cl1.map A.d) H fun v h' => v = .a (.d (.bool r)) ∧ h' = H) : ACalls Try.prog 81 [.d (Sl.d 5 TValue.c w0 a0), .d (.func k1 cl1)] H fun v h' => v = .a (.d (.bool r)) ∧ h' = H := by
 unfold slices_ContainsFunc_alueapiValue at hE
 refine ACalls.of_wp (fn := Try.f81) (c := _) Try.tab_ok (fun _ _ => Try.call81 _ _) Try.func81 rfl (n := 9) rfl (rs := [.tmp 4]) rfl rfl ?_
 refine AWp.seqK fun K1 hK1 => ?_
 refine AWp.region ?_
 refine AOps.s0 (Cert.assign (by conv => lhs; whnf)) rfl ?_
 refine AOps.nil ?_
 refine hK1 _ ?_
 clear hK1 K1
 refine AWp.seqK fun K2 hK2 => ?_
 refine AWp.region ?_
 refine AOps.s0 (Cert.move (by conv => lhs; whnf)) rfl ?_
 refine AOps.s0 (Cert.move (by conv => lhs; whnf)) rfl ?_
 obtain ⟨x3, gx3, hE⟩ := bindO_some hE
 refine AOps.s0 (Cert.callP rfl rfl (fun H => slices_IndexFunc_alueapiValue_walk gx3 H hf1)) rfl ?_
 refine AOps.s0 (Cert.binI rfl rfl rfl) rfl ?_
 refine AOps.s0 (Cert.assign (by conv => lhs; whnf)) rfl ?_
 refine AOps.nil ?_
 refine hK2 _ ?_
 clear hK2 K2
 refine AWp.ret ?_
 repeat (first | refine xBlock_ret ?_ | refine xThen_ret ?_)
 obtain rfl := Option.some.inj hE
 refine retQ.retF H rfl ⟨rfl, rfl⟩ ?_
 exact (fun _ _ h => h)
def slices_IndexFunc_berapiMember_j2 (a0 : (Sl TMember)) (a1 : (TMember → Option Bool))   : Option Int := some (-1 : Int)
def slices_IndexFunc_berapiMember_l6 (a0 : (Sl TMember)) (a1 : (TMember → Option Bool))  : Nat → Nat → Option Int
 | 0, _ => none
 | n6 + 1, s8_7 => bif (decide (((s8_7 : Nat) : Int) < ((a0.l.length : Nat) : Int))) then ((a0.l[s8_7]?).bind fun x14 => (a1 x14).bind fun x15 => bif x15 then (some ((s8_7 : Nat) : Int)) else ((slices_IndexFunc_berapiMember_l6 a0 a1 n6) (s8_7 + 1))) else (slices_IndexFunc_berapiMember_j2 a0 a1  )
def slices_IndexFunc_berapiMember (a0 : (Sl TMember)) (a1 : (TMember → Option Bool)) : Option Int := slices_IndexFunc_berapiMember_l6 a0 a1 (a0.l.length + 1) 0
set_option maxRecDepth 100000 in
set_option maxHeartbeats 2000000 in
theorem slices_IndexFunc_berapiMember_walk {a0 : (Sl TMember)} {a1 : (TMember → Option Bool)} {w0 : Option Nat} {cl1 : List D} {k1 : Nat} {r : Int} (hE : slices_IndexFunc_berapiMember a0 a1 = some r) (H : Heap) (hf1 : ∀ x0 r, a1 x0 = some r → ∀ H, ACalls Try.prog k1 ([.agg (TMember.c x0)] ++ cl1.map A.d) H fun v h' => v = .a (.d (.bool r)) ∧ h' = H) : ACalls Try.prog 89 [.d (Sl.d 2 TMember.c w0 a0), .d (.func k1 cl1)] H fun v h' => v = .a (.d (.int .i64 r)) ∧ h' = H := by
 unfold slices_IndexFunc_berapiMember at hE
 refine ACalls.of_wp (fn := Try.f89) (c := _) Try.tab_ok (fun _ _ => Try.call89 _ _) Try.func89 rfl (n := 19) rfl (rs := [.tmp 4]) rfl rfl ?_
 refine AWp.seqK fun K1 hK1 => ?_
 refine AWp.region ?_
 refine AOps.s0 (Cert.assign (by conv => lhs; whnf)) rfl ?_
 refine AOps.nil ?_
 refine hK1 _ ?_
 clear hK1 K1
 refine AWp.seqJH KeepsT.nil (fun (z : Unit) => []) (fun z => H) (fun z => slices_IndexFunc_berapiMember_j2 a0 a1  = some r) ?_ ?_
 ·intro K2 hK2
  refine AWp.seqK fun K4 hK4 => ?_
  refine AWp.region ?_
  refine AOps.s0 (Cert.move (by conv => lhs; whnf)) rfl ?_
  refine AOps.sLen (f := TMember.c) (s := a0) (Try.tab_ok _ _ rfl) rfl rfl rfl rfl fun hL5 => ?_
  refine AOps.s0 (Cert.move (by conv => lhs; whnf)) rfl ?_
  refine AOps.nil ?_
  refine hK4 _ ?_
  clear hK4 K4
  refine AWp.block ?_
  refine AWp.loopH (KeepsT.cons (k := 0) (by conv => lhs; whnf) (KeepsT.cons (k := 1) (by conv => lhs; whnf) (KeepsT.cons (k := 7) (by conv => lhs; whnf) KeepsT.nil))) (fun (z : Nat × Nat) => [(8, .a (.d (.int .i64 ((z.2 : Nat) : Int))))]) (fun z => H) (fun z => z.1) (fun z => slices_IndexFunc_berapiMember_l6 a0 a1 z.1 z.2 = some r) ((a0.l.length + 1), 0) hE Weak.toA ?_
  rintro ⟨n6, s8_7⟩ hE K6 hK6
  try dsimp only at hE
  cases n6 with
  | zero => cases hE
  | succ n6 =>
    rw [slices_IndexFunc_berapiMember_l6] at hE
    refine AWp.seqK fun K8 hK8 => ?_
    refine AWp.region ?_
    refine AOps.s0 (Cert.binI rfl rfl rfl) rfl ?_
    refine AOps.nil ?_
    refine hK8 _ ?_
    clear hK8 K8
    refine AWp.seqK fun K9 hK9 => ?_
    refine AWp.cond rfl (fun hc10 => ?_) (fun hc10 => ?_)
    ·have hE := condT hc10 hE
     try dsimp only at hc10
     have hf10 := of_decide_eq_true hc10
     refine AWp.skip ?_
     refine hK9 _ ?_
     clear hK9 K9
     refine AWp.seqK fun K11 hK11 => ?_
     refine AWp.block ?_
     refine AWp.seqK fun K12 hK12 => ?_
     refine AWp.region ?_
     refine AOps.s0 (Cert.move (by conv => lhs; whnf)) rfl ?_
     refine AOps.s0 (Cert.assign (by conv => lhs; whnf)) rfl ?_
     refine AOps.nil ?_
     refine hK12 _ ?_
     clear hK12 K12
     refine AWp.seqK fun K13 hK13 => ?_
     refine AWp.region ?_
     refine AOps.s0 (Cert.move (by conv => lhs; whnf)) rfl ?_
     refine AOps.s0 (Cert.move (by conv => lhs; whnf)) rfl ?_
     refine AOps.s0 (Cert.move (by conv => lhs; whnf)) rfl ?_
     obtain ⟨x14, gx14, hE⟩ := bindO_some hE
     refine AOps.s0 (Cert.idxMn (f := TMember.c) (n := s8_7) (Try.tab_ok _ _ rfl) rfl (Try.tab_ok _ _ rfl) rfl rfl rfl gx14) rfl ?_
     refine AOps.s0 (Cert.loadV (Try.tab_ok _ _ rfl) rfl rfl rfl) rfl ?_
     obtain ⟨x15, gx15, hE⟩ := bindO_some hE
     refine AOps.s0 (Cert.callP rfl rfl (hf1 _ _ gx15)) rfl ?_
     refine AOps.nil ?_
     refine hK13 _ ?_
     clear hK13 K13
     refine AWp.cond rfl (fun hc16 => ?_) (fun hc16 => ?_)
     ·have hE := condT hc16 hE
      try dsimp only at hc16
      refine AWp.seqK fun K17 hK17 => ?_
      refine AWp.region ?_
      refine AOps.s0 (Cert.move (by conv => lhs; whnf)) rfl ?_
      refine AOps.s0 (Cert.assign (by conv => lhs; whnf)) rfl ?_
      refine AOps.nil ?_
      refine hK17 _ ?_
      clear hK17 K17
      refine AWp.ret ?_
      repeat (first | refine xBlock_ret ?_ | refine xThen_ret ?_)
      obtain rfl := Option.some.inj hE
      refine retQ.retF H rfl ⟨rfl, rfl⟩ ?_
      exact (fun _ _ h => h)
     ·have hE := condF hc16 hE
      try dsimp only at hc16
      refine AWp.skip ?_
      refine hK11 _ ?_
      clear hK11 K11
      refine AWp.region ?_
      refine AOps.s0 (Cert.addI rfl rfl (by first | omega | (dsimp only; omega)) (by first | omega | (dsimp only; omega))) rfl ?_
      refine AOps.s0 (Cert.move (by conv => lhs; whnf)) rfl ?_
      refine AOps.nil ?_
      exact hK6 _ (n6, (s8_7 + 1)) Weak.toA hE (Nat.lt_succ_self _)
    ·have hE := condF hc10 hE
     try dsimp only at hc10
     refine AWp.exit ?_
     exact hK2 _ () Weak.toA hE
 ·rintro _ hE
  try dsimp only at hE
  unfold slices_IndexFunc_berapiMember_j2 at hE
  refine AWp.seqK fun K3 hK3 => ?_
  refine AWp.region ?_
  refine AOps.s0 (Cert.assign (by conv => lhs; whnf)) rfl ?_
  refine AOps.nil ?_
  refine hK3 _ ?_
  clear hK3 K3
  refine AWp.ret ?_
  repeat (first | refine xBlock_ret ?_ | refine xThen_ret ?_)
  obtain rfl := Option.some.inj hE
  refine retQ.retF H rfl ⟨rfl, rfl⟩ ?_
  exact (fun _ _ h => h)
def slices_ContainsFunc_berapiMember (a0 : (Sl TMember)) (a1 : (TMember → Option Bool)) : Option Bool := (slices_IndexFunc_berapiMember a0 a1).bind fun x3 => some (decide ((0 : Int) ≤ x3))
set_option maxRecDepth 100000 in
set_option maxHeartbeats 2000000 in
theorem slices_ContainsFunc_berapiMember_walk {a0 : (Sl TMember)} {a1 : (TMember → Option Bool)} {w0 : Option Nat} {cl1 : List D} {k1 : Nat} {r : Bool} (hE : slices_ContainsFunc_berapiMember a0 a1 = some r) (H : Heap) (hf1 : ∀ x0 r, a1 x0 = some r → ∀ H, ACalls Try.prog k1 ([.agg (TMember.c x0)] ++ cl1.map A.d) H fun v h' => v = .a (.d (.bool r)) ∧ h' = H) : ACalls Try.prog 83 [.d (Sl.d 2 TMember.c w0 a0), .d (.func k1 cl1)] H fun v h' => v = .a (.d (.bool r)) ∧ h' = H := by
 unfold slices_ContainsFunc_berapiMember at hE
 refine ACalls.of_wp (fn := Try.f83) (c := _) Try.tab_ok (fun _ _ => Try.call83 _ _) Try.func83 rfl (n := 9) rfl (rs := [.tmp 4]) rfl rfl ?_
 refine AWp.seqK fun K1 hK1 => ?_
 refine AWp.region ?_
 refine AOps.s0 (Cert.assign (by conv => lhs; whnf)) rfl ?_
 refine AOps.nil ?_
 refine hK1 _ ?_
 clear hK1 K1
 refine AWp.seqK fun K2 hK2 => ?_
 refine AWp.region ?_
 refine AOps.s0 (Cert.move (by conv => lhs; whnf)) rfl ?_
 refine AOps.s0 (Cert.move (by conv => lhs; whnf)) rfl ?_
 obtain ⟨x3, gx3, hE⟩ := bindO_some hE
 refine AOps.s0 (Cert.callP rfl rfl (fun H => slices_IndexFunc_berapiMember_walk gx3 H hf1)) rfl ?_
 refine AOps.s0 (Cert.binI rfl rfl rfl) rfl ?_
 refine AOps.s0 (Cert.assign (by conv => lhs; whnf)) rfl ?_
 refine AOps.nil ?_
 refine hK2 _ ?_
 clear hK2 K2
 refine AWp.ret ?_
 repeat (first | refine xBlock_ret ?_ | refine xThen_ret ?_)
 obtain rfl := Option.some.inj hE
 refine retQ.retF H rfl ⟨rfl, rfl⟩ ?_
 exact (fun _ _ h => h)
def fields_fits_2 (a0 : TMember) (a1 : TValue) : Option Bool := some ((a0.FName == a1.FText))
set_option maxRecDepth 100000 in
set_option maxHeartbeats 2000000 in
theorem fields_fits_2_walk {a0 : TMember} {a1 : TValue}   {r : Bool} (hE : fields_fits_2 a0 a1 = some r) (H : Heap)  : ACalls Try.prog 84 [.agg (TMember.c a0), .d (.view (TValue.c a1))] H fun v h' => v = .a (.d (.bool r)) ∧ h' = H := by
 unfold fields_fits_2 at hE
 refine ACalls.of_wp (fn := Try.f84) (c := _) Try.tab_ok (fun _ _ => Try.call84 _ _) Try.func84 rfl (n := 9) rfl (rs := [.tmp 3]) rfl rfl ?_
 refine AWp.seqK fun K1 hK1 => ?_
 refine AWp.region ?_
 refine AOps.s0 (Cert.boxV rfl) rfl ?_
 refine AOps.s0 (Cert.assign (by conv => lhs; whnf)) rfl ?_
 refine AOps.nil ?_
 refine hK1 _ ?_
 clear hK1 K1
 refine AWp.seqK fun K2 hK2 => ?_
 refine AWp.region ?_
 refine AOps.s0 (Cert.fieldV (Try.tab_ok _ _ rfl) rfl rfl (Try.tab_ok _ _ rfl) rfl rfl (by conv => lhs; whnf)) rfl ?_
 refine AOps.s0 (Cert.loadV (Try.tab_ok _ _ rfl) rfl rfl rfl) rfl ?_
 refine AOps.s0 (Cert.fieldV (Try.tab_ok _ _ rfl) rfl rfl (Try.tab_ok _ _ rfl) rfl rfl (by conv => lhs; whnf)) rfl ?_
 refine AOps.s0 (Cert.loadV (Try.tab_ok _ _ rfl) rfl rfl rfl) rfl ?_
 refine AOps.s0 (Cert.binS rfl rfl rfl) rfl ?_
 refine AOps.s0 (Cert.assign (by conv => lhs; whnf)) rfl ?_
 refine AOps.nil ?_
 refine hK2 _ ?_
 clear hK2 K2
 refine AWp.ret ?_
 repeat (first | refine xBlock_ret ?_ | refine xThen_ret ?_)
 obtain rfl := Option.some.inj hE
 refine retQ.retF H rfl ⟨rfl, rfl⟩ ?_
 exact (fun _ _ h => h)
def slices_IndexFunc_nputapiInput_j2 (a0 : (Sl TInput)) (a1 : (TInput → Option Bool))   : Option Int := some (-1 : Int)
def slices_IndexFunc_nputapiInput_l6 (a0 : (Sl TInput)) (a1 : (TInput → Option Bool))  : Nat → Nat → Option Int
 | 0, _ => none
 | n6 + 1, s8_7 => bif (decide (((s8_7 : Nat) : Int) < ((a0.l.length : Nat) : Int))) then ((a0.l[s8_7]?).bind fun x14 => (a1 x14).bind fun x15 => bif x15 then (some ((s8_7 : Nat) : Int)) else ((slices_IndexFunc_nputapiInput_l6 a0 a1 n6) (s8_7 + 1))) else (slices_IndexFunc_nputapiInput_j2 a0 a1  )
def slices_IndexFunc_nputapiInput (a0 : (Sl TInput)) (a1 : (TInput → Option Bool)) : Option Int := slices_IndexFunc_nputapiInput_l6 a0 a1 (a0.l.length + 1) 0
set_option maxRecDepth 100000 in
set_option maxHeartbeats 2000000 in
theorem slices_IndexFunc_nputapiInput_walk {a0 : (Sl TInput)} {a1 : (TInput → Option Bool)} {w0 : Option Nat} {cl1 : List D} {k1 : Nat} {r : Int} (hE : slices_IndexFunc_nputapiInput a0 a1 = some r) (H : Heap) (hf1 : ∀ x0 r, a1 x0 = some r → ∀ H, ACalls Try.prog k1 ([.agg (TInput.c x0)] ++ cl1.map A.d) H fun v h' => v = .a (.d (.bool r)) ∧ h' = H) : ACalls Try.prog 93 [.d (Sl.d 10 TInput.c w0 a0), .d (.func k1 cl1)] H fun v h' => v = .a (.d (.int .i64 r)) ∧ h' = H := by
 unfold slices_IndexFunc_nputapiInput at hE
 refine ACalls.of_wp (fn := Try.f93) (c := _) Try.tab_ok (fun _ _ => Try.call93 _ _) Try.func93 rfl (n := 19) rfl (rs := [.tmp 4]) rfl rfl ?_
 refine AWp.seqK fun K1 hK1 => ?_
 refine AWp.region ?_
 refine AOps.s0 (Cert.assign (by conv => lhs; whnf)) rfl ?_
 refine AOps.nil ?_
 refine hK1 _ ?_
 clear hK1 K1
 refine AWp.seqJH KeepsT.nil (fun (z : Unit) => []) (fun z => H) (fun z => slices_IndexFunc_nputapiInput_j2 a0 a1  = some r) ?_ ?_
 ·intro K2 hK2
  refine AWp.seqK fun K4 hK4 => ?_
  refine AWp.region ?_
  refine AOps.s0 (Cert.move (by conv => lhs; whnf)) rfl ?_
  refine AOps.sLen (f := TInput.c) (s := a0) (Try.tab_ok _ _ rfl) rfl rfl rfl rfl fun hL5 => ?_
  refine AOps.s0 (Cert.move (by conv => lhs; whnf)) rfl ?_
  refine AOps.nil ?_
  refine hK4 _ ?_
  clear hK4 K4
  refine AWp.block ?_
  refine AWp.loopH (KeepsT.cons (k := 0) (by conv => lhs; whnf) (KeepsT.cons (k := 1) (by conv => lhs; whnf) (KeepsT.cons (k := 7) (by conv => lhs; whnf) KeepsT.nil))) (fun (z : Nat × Nat) => [(8, .a (.d (.int .i64 ((z.2 : Nat) : Int))))]) (fun z => H) (fun z => z.1) (fun z => slices_IndexFunc_nputapiInput_l6 a0 a1 z.1 z.2 = some r) ((a0.l.length + 1), 0) hE Weak.toA ?_
  rintro ⟨n6, s8_7⟩ hE K6 hK6
  try dsimp only at hE
  cases n6 with
  | zero => cases hE
  | succ n6 =>
    rw [slices_IndexFunc_nputapiInput_l6] at hE
    refine AWp.seqK fun K8 hK8 => ?_
    refine AWp.region ?_
    refine AOps.s0 (Cert.binI rfl rfl rfl) rfl ?_
    refine AOps.nil ?_
    refine hK8 _ ?_
    clear hK8 K8
    refine AWp.seqK fun K9 hK9 => ?_
    refine AWp.cond rfl (fun hc10 => ?_) (fun hc10 => ?_)
    ·have hE := condT hc10 hE
     try dsimp only at hc10
     have hf10 := of_decide_eq_true hc10
     refine AWp.skip ?_
     refine hK9 _ ?_
     clear hK9 K9
     refine AWp.seqK fun K11 hK11 => ?_
     refine AWp.block ?_
     refine AWp.seqK fun K12 hK12 => ?_
     refine AWp.region ?_
     refine AOps.s0 (Cert.move (by conv => lhs; whnf)) rfl ?_
     refine AOps.s0 (Cert.assign (by conv => lhs; whnf)) rfl ?_
     refine AOps.nil ?_
     refine hK12 _ ?_
     clear hK12 K12
     refine AWp.seqK fun K13 hK13 => ?_
     refine AWp.region ?_
     refine AOps.s0 (Cert.move (by conv => lhs; whnf)) rfl ?_
     refine AOps.s0 (Cert.move (by conv => lhs; whnf)) rfl ?_
     refine AOps.s0 (Cert.move (by conv => lhs; whnf)) rfl ?_
     obtain ⟨x14, gx14, hE⟩ := bindO_some hE
     refine AOps.s0 (Cert.idxMn (f := TInput.c) (n := s8_7) (Try.tab_ok _ _ rfl) rfl (Try.tab_ok _ _ rfl) rfl rfl rfl gx14) rfl ?_
     refine AOps.s0 (Cert.loadV (Try.tab_ok _ _ rfl) rfl rfl rfl) rfl ?_
     obtain ⟨x15, gx15, hE⟩ := bindO_some hE
     refine AOps.s0 (Cert.callP rfl rfl (hf1 _ _ gx15)) rfl ?_
     refine AOps.nil ?_
     refine hK13 _ ?_
     clear hK13 K13
     refine AWp.cond rfl (fun hc16 => ?_) (fun hc16 => ?_)
     ·have hE := condT hc16 hE
      try dsimp only at hc16
      refine AWp.seqK fun K17 hK17 => ?_
      refine AWp.region ?_
      refine AOps.s0 (Cert.move (by conv => lhs; whnf)) rfl ?_
      refine AOps.s0 (Cert.assign (by conv => lhs; whnf)) rfl ?_
      refine AOps.nil ?_
      refine hK17 _ ?_
      clear hK17 K17
      refine AWp.ret ?_
      repeat (first | refine xBlock_ret ?_ | refine xThen_ret ?_)
      obtain rfl := Option.some.inj hE
      refine retQ.retF H rfl ⟨rfl, rfl⟩ ?_
      exact (fun _ _ h => h)
     ·have hE := condF hc16 hE
      try dsimp only at hc16
      refine AWp.skip ?_
      refine hK11 _ ?_
      clear hK11 K11
      refine AWp.region ?_
      refine AOps.s0 (Cert.addI rfl rfl (by first | omega | (dsimp only; omega)) (by first | omega | (dsimp only; omega))) rfl ?_
      refine AOps.s0 (Cert.move (by conv => lhs; whnf)) rfl ?_
      refine AOps.nil ?_
      exact hK6 _ (n6, (s8_7 + 1)) Weak.toA hE (Nat.lt_succ_self _)
    ·have hE := condF hc10 hE
     try dsimp only at hc10
     refine AWp.exit ?_
     exact hK2 _ () Weak.toA hE
 ·rintro _ hE
  try dsimp only at hE
  unfold slices_IndexFunc_nputapiInput_j2 at hE
  refine AWp.seqK fun K3 hK3 => ?_
  refine AWp.region ?_
  refine AOps.s0 (Cert.assign (by conv => lhs; whnf)) rfl ?_
  refine AOps.nil ?_
  refine hK3 _ ?_
  clear hK3 K3
  refine AWp.ret ?_
  repeat (first | refine xBlock_ret ?_ | refine xThen_ret ?_)
  obtain rfl := Option.some.inj hE
  refine retQ.retF H rfl ⟨rfl, rfl⟩ ?_
  exact (fun _ _ h => h)
def slices_ContainsFunc_nputapiInput (a0 : (Sl TInput)) (a1 : (TInput → Option Bool)) : Option Bool := (slices_IndexFunc_nputapiInput a0 a1).bind fun x3 => some (decide ((0 : Int) ≤ x3))
set_option maxRecDepth 100000 in
set_option maxHeartbeats 2000000 in
theorem slices_ContainsFunc_nputapiInput_walk {a0 : (Sl TInput)} {a1 : (TInput → Option Bool)} {w0 : Option Nat} {cl1 : List D} {k1 : Nat} {r : Bool} (hE : slices_ContainsFunc_nputapiInput a0 a1 = some r) (H : Heap) (hf1 : ∀ x0 r, a1 x0 = some r → ∀ H, ACalls Try.prog k1 ([.agg (TInput.c x0)] ++ cl1.map A.d) H fun v h' => v = .a (.d (.bool r)) ∧ h' = H) : ACalls Try.prog 90 [.d (Sl.d 10 TInput.c w0 a0), .d (.func k1 cl1)] H fun v h' => v = .a (.d (.bool r)) ∧ h' = H := by
 unfold slices_ContainsFunc_nputapiInput at hE
 refine ACalls.of_wp (fn := Try.f90) (c := _) Try.tab_ok (fun _ _ => Try.call90 _ _) Try.func90 rfl (n := 9) rfl (rs := [.tmp 4]) rfl rfl ?_
 refine AWp.seqK fun K1 hK1 => ?_
 refine AWp.region ?_
 refine AOps.s0 (Cert.assign (by conv => lhs; whnf)) rfl ?_
 refine AOps.nil ?_
 refine hK1 _ ?_
 clear hK1 K1
 refine AWp.seqK fun K2 hK2 => ?_
 refine AWp.region ?_
 refine AOps.s0 (Cert.move (by conv => lhs; whnf)) rfl ?_
 refine AOps.s0 (Cert.move (by conv => lhs; whnf)) rfl ?_
 obtain ⟨x3, gx3, hE⟩ := bindO_some hE
 refine AOps.s0 (Cert.callP rfl rfl (fun H => slices_IndexFunc_nputapiInput_walk gx3 H hf1)) rfl ?_
 refine AOps.s0 (Cert.binI rfl rfl rfl) rfl ?_
 refine AOps.s0 (Cert.assign (by conv => lhs; whnf)) rfl ?_
 refine AOps.nil ?_
 refine hK2 _ ?_
 clear hK2 K2
 refine AWp.ret ?_
 repeat (first | refine xBlock_ret ?_ | refine xThen_ret ?_)
 obtain rfl := Option.some.inj hE
 refine retQ.retF H rfl ⟨rfl, rfl⟩ ?_
 exact (fun _ _ h => h)
end Go.Proofs

namespace Go.Proofs
open Go Go.Ab
def slices_Index_stringstring_j2 (a0 : (Sl Bs)) (a1 : Bs)   : Option Int := some (-1 : Int)
def slices_Index_stringstring_l6 (a0 : (Sl Bs)) (a1 : Bs)  : Nat → Nat → Option Int
 | 0, _ => none
 | n6 + 1, s8_7 => bif (decide (((s8_7 : Nat) : Int) < ((a0.l.length : Nat) : Int))) then ((a0.l[s8_7]?).bind fun x14 => bif ((a1 == x14)) then (some ((s8_7 : Nat) : Int)) else ((slices_Index_stringstring_l6 a0 a1 n6) (s8_7 + 1))) else (slices_Index_stringstring_j2 a0 a1  )
def slices_Index_stringstring (a0 : (Sl Bs)) (a1 : Bs) : Option Int := slices_Index_stringstring_l6 a0 a1 (a0.l.length + 1) 0
set_option maxRecDepth 100000 in
set_option maxHeartbeats 2000000 in
theorem slices_Index_stringstring_walk {a0 : (Sl Bs)} {a1 : Bs} {w0 : Option Nat}  {r : Int} (hE : slices_Index_stringstring a0 a1 = some r) (H : Heap)  : ACalls Try.prog 94 [.d (Sl.d 1 strE w0 a0), .d (.str a1)] H fun v h' => v = .a (.d (.int .i64 r)) ∧ h' = H := by
 unfold slices_Index_stringstring at hE
 refine ACalls.of_wp (fn := Try.f94) (c := _) Try.tab_ok (fun _ _ => Try.call94 _ _) Try.func94 rfl (n := 19) rfl (rs := [.tmp 4]) rfl rfl ?_
 refine AWp.seqK fun K1 hK1 => ?_
 refine AWp.region ?_
 refine AOps.s0 (Cert.assign (by conv => lhs; whnf)) rfl ?_
 refine AOps.nil ?_
 refine hK1 _ ?_
 clear hK1 K1
 refine AWp.seqJH KeepsT.nil (fun (z : Unit) => []) (fun z => H) (fun z => slices_Index_stringstring_j2 a0 a1  = some r) ?_ ?_
 ·intro K2 hK2
  refine AWp.seqK fun K4 hK4 => ?_
  refine AWp.region ?_
  refine AOps.s0 (Cert.move (by conv => lhs; whnf)) rfl ?_
  refine AOps.sLen (f := strE) (s := a0) (Try.tab_ok _ _ rfl) rfl rfl rfl rfl fun hL5 => ?_
  refine AOps.s0 (Cert.move (by conv => lhs; whnf)) rfl ?_
  refine AOps.nil ?_
  refine hK4 _ ?_
  clear hK4 K4
  refine AWp.block ?_
  refine AWp.loopH (KeepsT.cons (k := 0) (by conv => lhs; whnf) (KeepsT.cons (k := 1) (by conv => lhs; whnf) (KeepsT.cons (k := 7) (by conv => lhs; whnf) KeepsT.nil))) (fun (z : Nat × Nat) => [(8, .a (.d (.int .i64 ((z.2 : Nat) : Int))))]) (fun z => H) (fun z => z.1) (fun z => slices_Index_stringstring_l6 a0 a1 z.1 z.2 = some r) ((a0.l.length + 1), 0) hE Weak.toA ?_
  rintro ⟨n6, s8_7⟩ hE K6 hK6
  try dsimp only at hE
  cases n6 with
  | zero => cases hE
  | succ n6 =>
    rw [slices_Index_stringstring_l6] at hE
    refine AWp.seqK fun K8 hK8 => ?_
    refine AWp.region ?_
    refine AOps.s0 (Cert.binI rfl rfl rfl) rfl ?_
    refine AOps.nil ?_
    refine hK8 _ ?_
    clear hK8 K8
    refine AWp.seqK fun K9 hK9 => ?_
    refine AWp.cond rfl (fun hc10 => ?_) (fun hc10 => ?_)
    ·have hE := condT hc10 hE
     try dsimp only at hc10
     have hf10 := of_decide_eq_true hc10
     refine AWp.skip ?_
     refine hK9 _ ?_
     clear hK9 K9
     refine AWp.seqK fun K11 hK11 => ?_
     refine AWp.block ?_
     refine AWp.seqK fun K12 hK12 => ?_
     refine AWp.region ?_
     refine AOps.s0 (Cert.move (by conv => lhs; whnf)) rfl ?_
     refine AOps.s0 (Cert.assign (by conv => lhs; whnf)) rfl ?_
     refine AOps.nil ?_
     refine hK12 _ ?_
     clear hK12 K12
     refine AWp.seqK fun K13 hK13 => ?_
     refine AWp.region ?_
     refine AOps.s0 (Cert.move (by conv => lhs; whnf)) rfl ?_
     refine AOps.s0 (Cert.move (by conv => lhs; whnf)) rfl ?_
     refine AOps.s0 (Cert.move (by conv => lhs; whnf)) rfl ?_
     obtain ⟨x14, gx14, hE⟩ := bindO_some hE
     refine AOps.s0 (Cert.idxMn (f := strE) (n := s8_7) (Try.tab_ok _ _ rfl) rfl (Try.tab_ok _ _ rfl) rfl rfl rfl gx14) rfl ?_
     refine AOps.s0 (Cert.loadV (Try.tab_ok _ _ rfl) rfl rfl rfl) rfl ?_
     refine AOps.s0 (Cert.binS rfl rfl rfl) rfl ?_
     refine AOps.nil ?_
     refine hK13 _ ?_
     clear hK13 K13
     refine AWp.cond rfl (fun hc15 => ?_) (fun hc15 => ?_)
     ·have hE := condT hc15 hE
      try dsimp only at hc15
      refine AWp.seqK fun K16 hK16 => ?_
      refine AWp.region ?_
      refine AOps.s0 (Cert.move (by conv => lhs; whnf)) rfl ?_
      refine AOps.s0 (Cert.assign (by conv => lhs; whnf)) rfl ?_
      refine AOps.nil ?_
      refine hK16 _ ?_
      clear hK16 K16
      refine AWp.ret ?_
      repeat (first | refine xBlock_ret ?_ | refine xThen_ret ?_)
      obtain rfl := Option.some.inj hE
      refine retQ.retF H rfl ⟨rfl, rfl⟩ ?_
      exact (fun _ _ h => h)
     ·have hE := condF hc15 hE
      try dsimp only at hc15
      refine AWp.skip ?_
      refine hK11 _ ?_
      clear hK11 K11
      refine AWp.region ?_
      refine AOps.s0 (Cert.addI rfl rfl (by first | omega | (dsimp only; omega)) (by first | omega | (dsimp only; omega))) rfl ?_
      refine AOps.s0 (Cert.move (by conv => lhs; whnf)) rfl ?_
      refine AOps.nil ?_
      exact hK6 _ (n6, (s8_7 + 1)) Weak.toA hE (Nat.lt_succ_self _)
    ·have hE := condF hc10 hE
     try dsimp only at hc10
     refine AWp.exit ?_
     exact hK2 _ () Weak.toA hE
 ·rintro _ hE
  try dsimp only at hE
  unfold slices_Index_stringstring_j2 at hE
  refine AWp.seqK fun K3 hK3 => ?_
  refine AWp.region ?_
  refine AOps.s0 (Cert.assign (by conv => lhs; whnf)) rfl ?_
  refine AOps.nil ?_
  refine hK3 _ ?_
  clear hK3 K3
  refine AWp.ret ?_
  repeat (first | refine xBlock_ret ?_ | refine xThen_ret ?_)
  obtain rfl := Option.some.inj hE
  refine retQ.retF H rfl ⟨rfl, rfl⟩ ?_
  exact (fun _ _ h => h)
def slices_Contains_stringstring (a0 : (Sl Bs)) (a1 : Bs) : Option Bool := (slices_Index_stringstring a0 a1).bind fun x3 => some (decide ((0 : Int) ≤ x3))
set_option maxRecDepth 100000 in
set_option maxHeartbeats 2000000 in
theorem slices_Contains_stringstring_walk {a0 : (Sl Bs)} {a1 : Bs} {w0 : Option Nat}  {r : Bool} (hE : slices_Contains_stringstring a0 a1 = some r) (H : Heap)  : ACalls Try.prog 92 [.d (Sl.d 1 strE w0 a0), .d (.str a1)] H fun v h' => v = .a (.d (.bool r)) ∧ h' = H := by
 unfold slices_Contains_stringstring at hE
 refine ACalls.of_wp (fn := Try.f92) (c := _) Try.tab_ok (fun _ _ => Try.call92 _ _) Try.func92 rfl (n := 9) rfl (rs := [.tmp 4]) rfl rfl ?_
 refine AWp.seqK fun K1 hK1 => ?_
 refine AWp.region ?_
 refine AOps.s0 (Cert.assign (by conv => lhs; whnf)) rfl ?_
 refine AOps.nil ?_
 refine hK1 _ ?_
 clear hK1 K1
 refine AWp.seqK fun K2 hK2 => ?_
 refine AWp.region ?_
 refine AOps.s0 (Cert.move (by conv => lhs; whnf)) rfl ?_
 refine AOps.s0 (Cert.move (by conv => lhs; whnf)) rfl ?_
 obtain ⟨x3, gx3, hE⟩ := bindO_some hE
 refine AOps.s0 (Cert.callP rfl rfl (fun H => slices_Index_stringstring_walk gx3 H)) rfl ?_
 refine AOps.s0 (Cert.binI rfl rfl rfl) rfl ?_
 refine AOps.s0 (Cert.assign (by conv => lhs; whnf)) rfl ?_
 refine AOps.nil ?_
 refine hK2 _ ?_
 clear hK2 K2
 refine AWp.ret ?_
 repeat (first | refine xBlock_ret ?_ | refine xThen_ret ?_)
 obtain rfl := Option.some.inj hE
 refine retQ.retF H rfl ⟨rfl, rfl⟩ ?_
 exact (fun _ _ h => h)
def fields_object_1 (a0 : TInput) (a1 : TValue) : Option Bool := (typeref_IsNonNull a0.FType).bind fun x3 => guardO ((x3 && (!a0.FHas))) (slices_Contains_stringstring a1.FKeys a0.FName) false fun x4 => some ((x3 && (!a0.FHas)) && (!x4))
set_option maxRecDepth 100000 in
set_option maxHeartbeats 2000000 in
theorem fields_object_1_walk {a0 : TInput} {a1 : TValue}   {r : Bool} (hE : fields_object_1 a0 a1 = some r) (H : Heap)  : ACalls Try.prog 91 [.agg (TInput.c a0), .d (.view (TValue.c a1))] H fun v h' => v = .a (.d (.bool r)) ∧ h' = H := by
 unfold fields_object_1 at hE
 refine ACalls.of_wp (fn := Try.f91) (c := _) Try.tab_ok (fun _ _ => Try.call91 _ _) Try.func91 rfl (n := 20) rfl (rs := [.tmp 3]) rfl rfl ?_
 refine AWp.seqK fun K1 hK1 => ?_
 refine AWp.region ?_
 refine AOps.s0 (Cert.boxV rfl) rfl ?_
 refine AOps.s0 (Cert.assign (by conv => lhs; whnf)) rfl ?_
 refine AOps.nil ?_
 refine hK1 _ ?_
 clear hK1 K1
 refine AWp.seqK fun K2 hK2 => ?_
 refine AWp.region ?_
 refine AOps.s0 (Cert.fieldV (Try.tab_ok _ _ rfl) rfl rfl (Try.tab_ok _ _ rfl) rfl rfl (by conv => lhs; whnf)) rfl ?_
 refine AOps.s0 (Cert.loadV (Try.tab_ok _ _ rfl) rfl rfl rfl) rfl ?_
 obtain ⟨x3, gx3, hE⟩ := bindO_some hE
 refine AOps.s0 (Cert.callP rfl rfl (fun H => typeref_IsNonNull_walk gx3 H)) rfl ?_
 refine AOps.s0 (Cert.move (by conv => lhs; whnf)) rfl ?_
 refine AOps.gC rfl rfl (fun hC => Cert.fieldV (Try.tab_ok _ _ rfl) rfl rfl (Try.tab_ok _ _ rfl) rfl rfl (by conv => lhs; whnf)) rfl ?_
 refine AOps.gC rfl rfl (fun hC => Cert.ungd (k := 8) rfl (by first | exact hC | exact andL hC | exact andL (andL hC) | exact andL (andL (andL hC)) | exact andR hC | simp_all) (Cert.loadV (Try.tab_ok _ _ rfl) rfl rfl rfl)) rfl ?_
 refine AOps.gC rfl rfl (fun hC => Cert.ungd (k := 9) rfl (by first | exact hC | exact andL hC | exact andL (andL hC) | exact andL (andL (andL hC)) | exact andR hC | simp_all) (Cert.notB rfl)) rfl ?_
 refine AOps.s0 (Cert.pickAnd rfl rfl (fun h => by first | exact h | exact notT h | exact andI hC h | exact andI hC (notT h) | simp_all) rfl) rfl ?_
 refine AOps.s0 (Cert.move (by conv => lhs; whnf)) rfl ?_
 refine AOps.gC rfl rfl (fun hC => Cert.fieldV (Try.tab_ok _ _ rfl) rfl rfl (Try.tab_ok _ _ rfl) rfl rfl (by conv => lhs; whnf)) rfl ?_
 refine AOps.gC rfl rfl (fun hC => Cert.ungd (k := 13) rfl (by first | exact hC | exact andL hC | exact andL (andL hC) | exact andL (andL (andL hC)) | exact andR hC | simp_all) (Cert.loadV (Try.tab_ok _ _ rfl) rfl rfl rfl)) rfl ?_
 refine AOps.gC rfl rfl (fun hC => Cert.fieldV (Try.tab_ok _ _ rfl) rfl rfl (Try.tab_ok _ _ rfl) rfl rfl (by conv => lhs; whnf)) rfl ?_
 refine AOps.gC rfl rfl (fun hC => Cert.ungd (k := 15) rfl (by first | exact hC | exact andL hC | exact andL (andL hC) | exact andL (andL (andL hC)) | exact andR hC | simp_all) (Cert.loadV (Try.tab_ok _ _ rfl) rfl rfl rfl)) rfl ?_
 obtain ⟨x4, gx4, hE⟩ := guardO_some hE
 refine AOps.gC rfl rfl (fun hC => Cert.ungd (k := 14) rfl (by first | exact hC | exact andL hC | exact andL (andL hC) | exact andL (andL (andL hC)) | exact andR hC | simp_all) (Cert.ungd (k := 16) rfl (by first | exact hC | exact andL hC | exact andL (andL hC) | exact andL (andL (andL hC)) | exact andR hC | simp_all) (Cert.callP rfl rfl (fun H => slices_Contains_stringstring_walk (gx4 hC) H)))) rfl ?_
 refine AOps.gC rfl rfl (fun hC => Cert.ungd (k := 17) rfl (by first | exact hC | exact andL hC | exact andL (andL hC) | exact andL (andL (andL hC)) | exact andR hC | simp_all) (Cert.notB rfl)) rfl ?_
 refine AOps.s0 (Cert.pickAnd rfl rfl (fun h => by first | exact h | exact notT h | exact andI hC h | exact andI hC (notT h) | simp_all) rfl) rfl ?_
 refine AOps.s0 (Cert.assign (by conv => lhs; whnf)) rfl ?_
 refine AOps.nil ?_
 refine hK2 _ ?_
 clear hK2 K2
 refine AWp.ret ?_
 repeat (first | refine xBlock_ret ?_ | refine xThen_ret ?_)
 obtain rfl := Option.some.inj hE
 refine retQ.retF H rfl ⟨rfl, rfl⟩ ?_
 exact (fun _ _ h => h)
def fields_object_j2 (a0 : TDoc) (a1 : TDef) (a2 : TValue)   : Option Bool := (slices_ContainsFunc_nputapiInput a1.FInputs (fun y0 => fields_object_1 y0 a2)).bind fun x4 => some (!x4)
def fields_object_l7 (a0 : TDoc) (a1 : TDef) (a2 : TValue) (k_rec_76 : TDoc → TRef → TValue → Option Bool) : Nat → Nat → Option Bool
 | 0, _ => none
 | n7 + 1, s14_8 => bif (decide (((s14_8 : Nat) : Int) < ((a2.FKeys.l.length : Nat) : Int))) then ((a2.FKeys.l[s14_8]?).bind fun x14 => (schema_InputOf a1.FInputs x14).bind fun x16 => guardO (!((!x16.2) || (decide (((a2.FItems.l.length : Nat) : Int) ≤ ((s14_8 : Nat) : Int))))) (a2.FItems.l[s14_8]?) TValue.zero fun x18 => guardO (!((!x16.2) || (decide (((a2.FItems.l.length : Nat) : Int) ≤ ((s14_8 : Nat) : Int))))) (k_rec_76 a0 x16.1.FType x18) false fun x19 => bif (((!x16.2) || (decide (((a2.FItems.l.length : Nat) : Int) ≤ ((s14_8 : Nat) : Int)))) || (!x19)) then (some false) else ((fields_object_l7 a0 a1 a2 k_rec_76 n7) (s14_8 + 1))) else (fields_object_j2 a0 a1 a2  )
mutual
def fields_fits_n : Nat → TDoc → TRef → TValue → Option Bool
 | 0, _, _, _ => none
 | n + 1, a0, a1, a2 => bif (decide (a2.FKind = (7 : Int))) then (some true) else ((schema_IsInput a0 a1.FName).bind fun x7 => bif (!x7) then (some false) else (bif (decide (a2.FKind = (0 : Int))) then ((typeref_IsNonNull a1).bind fun x13 => some (!x13)) else ((typeref_Inner a1).bind fun x16 => bif x16.2 then (bif (!decide (a2.FKind = (5 : Int))) then (((fields_fits_n n) a0 x16.1 a2).bind fun x23 => some x23) else ((slices_ContainsFunc_alueapiValue a2.FItems (fun y0 => (fields_fits_1_n n) y0 a0 x16.1)).bind fun x25 => some (!x25))) else (bif ((a1.FName == ([73, 110, 116] : Bs))) then (some (((decide (a2.FKind = (2 : Int))) && (decide ((-2147483648 : Int) ≤ a2.FInt))) && (decide (a2.FInt < (2147483648 : Int))))) else (bif ((a1.FName == ([83, 116, 114, 105, 110, 103] : Bs))) then (some (decide (a2.FKind = (3 : Int)))) else (bif ((a1.FName == ([66, 111, 111, 108, 101, 97, 110] : Bs))) then (some (decide (a2.FKind = (1 : Int)))) else (bif ((a1.FName == ([73, 68] : Bs))) then (some ((decide (a2.FKind = (3 : Int))) || (decide (a2.FKind = (2 : Int))))) else ((schema_Find a0 a1.FName).bind fun x41 => bif (decide (x41.1.FKind = (4 : Int))) then (guardO ((decide (a2.FKind = (4 : Int)))) (slices_ContainsFunc_berapiMember x41.1.FMembers (fun y0 => fields_fits_2 y0 a2)) false fun x46 => some ((decide (a2.FKind = (4 : Int))) && x46)) else (guardO ((decide (a2.FKind = (6 : Int)))) ((fields_object_n n) a0 x41.1 a2) false fun x48 => some ((decide (a2.FKind = (6 : Int))) && x48))))))))))
def fields_fits_1_n : Nat → TValue → TDoc → TRef → Option Bool
 | 0, _, _, _ => none
 | n + 1, a0, a1, a2 => ((fields_fits_n n) a1 a2 a0).bind fun x3 => some (!x3)
def fields_object_n : Nat → TDoc → TDef → TValue → Option Bool
 | 0, _, _, _ => none
 | n + 1, a0, a1, a2 => fields_object_l7 a0 a1 a2 (fields_fits_n n) (a2.FKeys.l.length + 1) 0
end
set_option maxRecDepth 100000 in
set_option maxHeartbeats 2000000 in
theorem fields_fits_step (n : Nat) (ih_76 : ∀ {a0 : TDoc} {a1 : TRef} {a2 : TValue}   {r : Bool}, fields_fits_n n a0 a1 a2 = some r → ∀ (H : Heap), ACalls Try.prog 76 [.agg (TDoc.c a0), .agg (TRef.c a1), .agg (TValue.c a2)] H fun v h' => v = .a (.d (.bool r)) ∧ h' = H) (ih_82 : ∀ {a0 : TValue} {a1 : TDoc} {a2 : TRef}   {r : Bool}, fields_fits_1_n n a0 a1 a2 = some r → ∀ (H : Heap), ACalls Try.prog 82 [.agg (TValue.c a0), .d (.view (TDoc.c a1)), .d (.view (TRef.c a2))] H fun v h' => v = .a (.d (.bool r)) ∧ h' = H) (ih_85 : ∀ {a0 : TDoc} {a1 : TDef} {a2 : TValue}   {r : Bool}, fields_object_n n a0 a1 a2 = some r → ∀ (H : Heap), ACalls Try.prog 85 [.agg (TDoc.c a0), .agg (TDef.c a1), .agg (TValue.c a2)] H fun v h' => v = .a (.d (.bool r)) ∧ h' = H) : ∀ {a0 : TDoc} {a1 : TRef} {a2 : TValue}   {r : Bool}, fields_fits_n (n + 1) a0 a1 a2 = some r → ∀ (H : Heap), ACalls Try.prog 76 [.agg (TDoc.c a0), .agg (TRef.c a1), .agg (TValue.c a2)] H fun v h' => v = .a (.d (.bool r)) ∧ h' = H := by
 intro a0 a1 a2   r hE H 
 rw [fields_fits_n] at hE
 refine ACalls.of_wp (fn := Try.f76) (c := _) Try.tab_ok (fun _ _ => Try.call76 _ _) Try.func76 rfl (n := 111) rfl (rs := [.tmp 6]) rfl rfl ?_
 refine AWp.seqK fun K1 hK1 => ?_
 refine AWp.region ?_
 refine AOps.s0 (Cert.boxV rfl) rfl ?_
 refine AOps.s0 (Cert.boxV rfl) rfl ?_
 refine AOps.s0 (Cert.boxV rfl) rfl ?_
 refine AOps.s0 (Cert.assign (by conv => lhs; whnf)) rfl ?_
 refine AOps.nil ?_
 refine hK1 _ ?_
 clear hK1 K1
 refine AWp.seqK fun K2 hK2 => ?_
 refine AWp.block ?_
 refine AWp.seqK fun K3 hK3 => ?_
 refine AWp.region ?_
 refine AOps.s0 (Cert.fieldV (Try.tab_ok _ _ rfl) rfl rfl (Try.tab_ok _ _ rfl) rfl rfl (by conv => lhs; whnf)) rfl ?_
 refine AOps.s0 (Cert.loadV (Try.tab_ok _ _ rfl) rfl rfl rfl) rfl ?_
 refine AOps.s0 (Cert.binI rfl rfl rfl) rfl ?_
 refine AOps.s0 (Cert.assign (by conv => lhs; whnf)) rfl ?_
 refine AOps.nil ?_
 refine hK3 _ ?_
 clear hK3 K3
 refine AWp.cond rfl (fun hc4 => ?_) (fun hc4 => ?_)
 ·have hE := condT hc4 hE
  try dsimp only at hc4
  refine AWp.seqK fun K5 hK5 => ?_
  refine AWp.region ?_
  refine AOps.s0 (Cert.assign (by conv => lhs; whnf)) rfl ?_
  refine AOps.nil ?_
  refine hK5 _ ?_
  clear hK5 K5
  refine AWp.ret ?_
  repeat (first | refine xBlock_ret ?_ | refine xThen_ret ?_)
  obtain rfl := Option.some.inj hE
  refine retQ.retF H rfl ⟨rfl, rfl⟩ ?_
  exact (fun _ _ h => h)
 ·have hE := condF hc4 hE
  try dsimp only at hc4
  refine AWp.seqK fun K6 hK6 => ?_
  refine AWp.region ?_
  refine AOps.s0 (Cert.loadV (Try.tab_ok _ _ rfl) rfl rfl rfl) rfl ?_
  refine AOps.s0 (Cert.fieldV (Try.tab_ok _ _ rfl) rfl rfl (Try.tab_ok _ _ rfl) rfl rfl (by conv => lhs; whnf)) rfl ?_
  refine AOps.s0 (Cert.loadV (Try.tab_ok _ _ rfl) rfl rfl rfl) rfl ?_
  obtain ⟨x7, gx7, hE⟩ := bindO_some hE
  refine AOps.s0 (Cert.callP rfl rfl (fun H => schema_IsInput_walk gx7 H)) rfl ?_
  refine AOps.s0 (Cert.notB rfl) rfl ?_
  refine AOps.s0 (Cert.assign (by conv => lhs; whnf)) rfl ?_
  refine AOps.nil ?_
  refine hK6 _ ?_
  clear hK6 K6
  refine AWp.cond rfl (fun hc8 => ?_) (fun hc8 => ?_)
  ·have hE := condT hc8 hE
   try dsimp only at hc8
   refine AWp.seqK fun K9 hK9 => ?_
   refine AWp.region ?_
   refine AOps.s0 (Cert.assign (by conv => lhs; whnf)) rfl ?_
   refine AOps.nil ?_
   refine hK9 _ ?_
   clear hK9 K9
   refine AWp.ret ?_
   repeat (first | refine xBlock_ret ?_ | refine xThen_ret ?_)
   obtain rfl := Option.some.inj hE
   refine retQ.retF H rfl ⟨rfl, rfl⟩ ?_
   exact (fun _ _ h => h)
  ·have hE := condF hc8 hE
   try dsimp only at hc8
   refine AWp.seqK fun K10 hK10 => ?_
   refine AWp.region ?_
   refine AOps.s0 (Cert.fieldV (Try.tab_ok _ _ rfl) rfl rfl (Try.tab_ok _ _ rfl) rfl rfl (by conv => lhs; whnf)) rfl ?_
   refine AOps.s0 (Cert.loadV (Try.tab_ok _ _ rfl) rfl rfl rfl) rfl ?_
   refine AOps.s0 (Cert.binI rfl rfl rfl) rfl ?_
   refine AOps.s0 (Cert.assign (by conv => lhs; whnf)) rfl ?_
   refine AOps.nil ?_
   refine hK10 _ ?_
   clear hK10 K10
   refine AWp.cond rfl (fun hc11 => ?_) (fun hc11 => ?_)
   ·have hE := condT hc11 hE
    try dsimp only at hc11
    refine AWp.seqK fun K12 hK12 => ?_
    refine AWp.region ?_
    refine AOps.s0 (Cert.loadV (Try.tab_ok _ _ rfl) rfl rfl rfl) rfl ?_
    obtain ⟨x13, gx13, hE⟩ := bindO_some hE
    refine AOps.s0 (Cert.callP rfl rfl (fun H => typeref_IsNonNull_walk gx13 H)) rfl ?_
    refine AOps.s0 (Cert.notB rfl) rfl ?_
    refine AOps.s0 (Cert.assign (by conv => lhs; whnf)) rfl ?_
    refine AOps.nil ?_
    refine hK12 _ ?_
    clear hK12 K12
    refine AWp.ret ?_
    repeat (first | refine xBlock_ret ?_ | refine xThen_ret ?_)
    obtain rfl := Option.some.inj hE
    refine retQ.retF H rfl ⟨rfl, rfl⟩ ?_
    exact (fun _ _ h => h)
   ·have hE := condF hc11 hE
    try dsimp only at hc11
    refine AWp.skip ?_
    refine hK2 _ ?_
    clear hK2 K2
    refine AWp.seqK fun K14 hK14 => ?_
    refine AWp.seqK fun K15 hK15 => ?_
    refine AWp.region ?_
    refine AOps.s0 (Cert.loadV (Try.tab_ok _ _ rfl) rfl rfl rfl) rfl ?_
    obtain ⟨x16, gx16, hE⟩ := bindO_some hE
    refine AOps.s0 (Cert.callP rfl rfl (fun H => typeref_Inner_walk gx16 H)) rfl ?_
    refine AOps.s0 (Cert.move (by conv => lhs; whnf)) rfl ?_
    refine AOps.s0 (Cert.extract rfl rfl) rfl ?_
    refine AOps.s0 (Cert.extract rfl rfl) rfl ?_
    refine AOps.sL (Cert.allocL (Try.tab_ok _ _ rfl) rfl (by repeat (first | exact Snoc.nil | apply Snoc.cons))) rfl ?_
    refine AOps.sLn (Cert.storeLF (Try.tab_ok _ _ rfl) rfl rfl rfl rfl rfl (by repeat (first | exact SetAt.zero | apply SetAt.succ))) ?_
    refine AOps.s0 (Cert.assign (by conv => lhs; whnf)) rfl ?_
    refine AOps.nil ?_
    refine hK15 _ ?_
    clear hK15 K15
    refine AWp.freeze 7 _ rfl (by repeat (first | exact Snoc.nil | apply Snoc.cons)) (Keeps.c (k := 3) (by conv => lhs; whnf) (by rfl) (Keeps.c (k := 4) (by conv => lhs; whnf) (by rfl) (Keeps.c (k := 5) (by conv => lhs; whnf) (by rfl) (Keeps.c (k := 8) (by conv => lhs; whnf) (by rfl) Keeps.nil)))) ?_
    refine AWp.seqK fun K17 hK17 => ?_
    refine AWp.region ?_
    refine AOps.s0 (Cert.move (by conv => lhs; whnf)) rfl ?_
    refine AOps.nil ?_
    refine hK17 _ ?_
    clear hK17 K17
    refine AWp.cond rfl (fun hc18 => ?_) (fun hc18 => ?_)
    ·have hE := condT hc18 hE
     try dsimp only at hc18
     refine AWp.seqK fun K19 hK19 => ?_
     refine AWp.seqK fun K20 hK20 => ?_
     refine AWp.region ?_
     refine AOps.s0 (Cert.fieldV (Try.tab_ok _ _ rfl) rfl rfl (Try.tab_ok _ _ rfl) rfl rfl (by conv => lhs; whnf)) rfl ?_
     refine AOps.s0 (Cert.loadV (Try.tab_ok _ _ rfl) rfl rfl rfl) rfl ?_
     refine AOps.s0 (Cert.binI rfl rfl rfl) rfl ?_
     refine AOps.nil ?_
     refine hK20 _ ?_
     clear hK20 K20
     refine AWp.cond rfl (fun hc21 => ?_) (fun hc21 => ?_)
     ·have hE := condT hc21 hE
      try dsimp only at hc21
      refine AWp.seqK fun K22 hK22 => ?_
      refine AWp.region ?_
      refine AOps.s0 (Cert.loadV (Try.tab_ok _ _ rfl) rfl rfl rfl) rfl ?_
      refine AOps.s0 (Cert.loadV (Try.tab_ok _ _ rfl) rfl rfl rfl) rfl ?_
      refine AOps.s0 (Cert.loadV (Try.tab_ok _ _ rfl) rfl rfl rfl) rfl ?_
      obtain ⟨x23, gx23, hE⟩ := bindO_some hE
      refine AOps.s0 (Cert.callP rfl rfl (fun H => ih_76 gx23 H)) rfl ?_
      refine AOps.s0 (Cert.assign (by conv => lhs; whnf)) rfl ?_
      refine AOps.nil ?_
      refine hK22 _ ?_
      clear hK22 K22
      refine AWp.ret ?_
      repeat (first | refine xBlock_ret ?_ | refine xThen_ret ?_)
      obtain rfl := Option.some.inj hE
      refine retQ.retF H rfl ⟨rfl, rfl⟩ ?_
      exact (fun _ _ h => h)
     ·have hE := condF hc21 hE
      try dsimp only at hc21
      refine AWp.skip ?_
      refine hK19 _ ?_
      clear hK19 K19
      refine AWp.seqK fun K24 hK24 => ?_
      refine AWp.region ?_
      refine AOps.s0 (Cert.fieldV (Try.tab_ok _ _ rfl) rfl rfl (Try.tab_ok _ _ rfl) rfl rfl (by conv => lhs; whnf)) rfl ?_
      refine AOps.s0 (Cert.loadV (Try.tab_ok _ _ rfl) rfl rfl (congrArg (fun x => some (A.d x)) (TValue.FItemsD_eq _))) rfl ?_
      refine AOps.s0 (Cert.makeFunc rfl) rfl ?_
      obtain ⟨x25, gx25, hE⟩ := bindO_some hE
      refine AOps.s0 (Cert.callP rfl rfl (fun H => slices_ContainsFunc_alueapiValue_walk gx25 H (fun _ _ hx => ih_82 hx))) rfl ?_
      refine AOps.s0 (Cert.notB rfl) rfl ?_
      refine AOps.s0 (Cert.assign (by conv => lhs; whnf)) rfl ?_
      refine AOps.nil ?_
      refine hK24 _ ?_
      clear hK24 K24
      refine AWp.ret ?_
      repeat (first | refine xBlock_ret ?_ | refine xThen_ret ?_)
      obtain rfl := Option.some.inj hE
      refine retQ.retF H rfl ⟨rfl, rfl⟩ ?_
      exact (fun _ _ h => h)
    ·have hE := condF hc18 hE
     try dsimp only at hc18
     refine AWp.skip ?_
     refine hK14 _ ?_
     clear hK14 K14
     refine AWp.seqK fun K26 hK26 => ?_
     refine AWp.seqK fun K27 hK27 => ?_
     refine AWp.region ?_
     refine AOps.s0 (Cert.fieldV (Try.tab_ok _ _ rfl) rfl rfl (Try.tab_ok _ _ rfl) rfl rfl (by conv => lhs; whnf)) rfl ?_
     refine AOps.s0 (Cert.loadV (Try.tab_ok _ _ rfl) rfl rfl rfl) rfl ?_
     refine AOps.nil ?_
     refine hK27 _ ?_
     clear hK27 K27
     refine AWp.block ?_
     refine AWp.seqK fun K28 hK28 => ?_
     refine AWp.region ?_
     refine AOps.s0 (Cert.binS rfl rfl rfl) rfl ?_
     refine AOps.s0 (Cert.assign (by conv => lhs; whnf)) rfl ?_
     refine AOps.nil ?_
     refine hK28 _ ?_
     clear hK28 K28
     refine AWp.cond rfl (fun hc29 => ?_) (fun hc29 => ?_)
     ·have hE := condT hc29 hE
      try dsimp only at hc29
      refine AWp.seqK fun K30 hK30 => ?_
      refine AWp.region ?_
      refine AOps.s0 (Cert.fieldV (Try.tab_ok _ _ rfl) rfl rfl (Try.tab_ok _ _ rfl) rfl rfl (by conv => lhs; whnf)) rfl ?_
      refine AOps.s0 (Cert.loadV (Try.tab_ok _ _ rfl) rfl rfl rfl) rfl ?_
      refine AOps.s0 (Cert.binI rfl rfl rfl) rfl ?_
      refine AOps.s0 (Cert.move (by conv => lhs; whnf)) rfl ?_
      refine AOps.gC rfl rfl (fun hC => Cert.fieldV (Try.tab_ok _ _ rfl) rfl rfl (Try.tab_ok _ _ rfl) rfl rfl (by conv => lhs; whnf)) rfl ?_
      refine AOps.gC rfl rfl (fun hC => Cert.ungd (k := 54) rfl (by first | exact hC | exact andL hC | exact andL (andL hC) | exact andL (andL (andL hC)) | exact andR hC | simp_all) (Cert.loadV (Try.tab_ok _ _ rfl) rfl rfl rfl)) rfl ?_
      refine AOps.gC rfl rfl (fun hC => Cert.ungd (k := 55) rfl (by first | exact hC | exact andL hC | exact andL (andL hC) | exact andL (andL (andL hC)) | exact andR hC | simp_all) (Cert.binI rfl rfl rfl)) rfl ?_
      refine AOps.s0 (Cert.pickAnd rfl rfl (fun h => by first | exact h | exact notT h | exact andI hC h | exact andI hC (notT h) | simp_all) rfl) rfl ?_
      refine AOps.s0 (Cert.move (by conv => lhs; whnf)) rfl ?_
      refine AOps.gC rfl rfl (fun hC => Cert.fieldV (Try.tab_ok _ _ rfl) rfl rfl (Try.tab_ok _ _ rfl) rfl rfl (by conv => lhs; whnf)) rfl ?_
      refine AOps.gC rfl rfl (fun hC => Cert.ungd (k := 59) rfl (by first | exact hC | exact andL hC | exact andL (andL hC) | exact andL (andL (andL hC)) | exact andR hC | simp_all) (Cert.loadV (Try.tab_ok _ _ rfl) rfl rfl rfl)) rfl ?_
      refine AOps.gC rfl rfl (fun hC => Cert.ungd (k := 60) rfl (by first | exact hC | exact andL hC | exact andL (andL hC) | exact andL (andL (andL hC)) | exact andR hC | simp_all) (Cert.binI rfl rfl rfl)) rfl ?_
      refine AOps.s0 (Cert.pickAnd rfl rfl (fun h => by first | exact h | exact notT h | exact andI hC h | exact andI hC (notT h) | simp_all) rfl) rfl ?_
      refine AOps.s0 (Cert.assign (by conv => lhs; whnf)) rfl ?_
      refine AOps.nil ?_
      refine hK30 _ ?_
      clear hK30 K30
      refine AWp.ret ?_
      repeat (first | refine xBlock_ret ?_ | refine xThen_ret ?_)
      obtain rfl := Option.some.inj hE
      refine retQ.retF H rfl ⟨rfl, rfl⟩ ?_
      exact (fun _ _ h => h)
     ·have hE := condF hc29 hE
      try dsimp only at hc29
      refine AWp.seqK fun K31 hK31 => ?_
      refine AWp.region ?_
      refine AOps.s0 (Cert.binS rfl rfl rfl) rfl ?_
      refine AOps.s0 (Cert.assign (by conv => lhs; whnf)) rfl ?_
      refine AOps.nil ?_
      refine hK31 _ ?_
      clear hK31 K31
      refine AWp.cond rfl (fun hc32 => ?_) (fun hc32 => ?_)
      ·have hE := condT hc32 hE
       try dsimp only at hc32
       refine AWp.seqK fun K33 hK33 => ?_
       refine AWp.region ?_
       refine AOps.s0 (Cert.fieldV (Try.tab_ok _ _ rfl) rfl rfl (Try.tab_ok _ _ rfl) rfl rfl (by conv => lhs; whnf)) rfl ?_
       refine AOps.s0 (Cert.loadV (Try.tab_ok _ _ rfl) rfl rfl rfl) rfl ?_
       refine AOps.s0 (Cert.binI rfl rfl rfl) rfl ?_
       refine AOps.s0 (Cert.assign (by conv => lhs; whnf)) rfl ?_
       refine AOps.nil ?_
       refine hK33 _ ?_
       clear hK33 K33
       refine AWp.ret ?_
       repeat (first | refine xBlock_ret ?_ | refine xThen_ret ?_)
       obtain rfl := Option.some.inj hE
       refine retQ.retF H rfl ⟨rfl, rfl⟩ ?_
       exact (fun _ _ h => h)
      ·have hE := condF hc32 hE
       try dsimp only at hc32
       refine AWp.seqK fun K34 hK34 => ?_
       refine AWp.region ?_
       refine AOps.s0 (Cert.binS rfl rfl rfl) rfl ?_
       refine AOps.s0 (Cert.assign (by conv => lhs; whnf)) rfl ?_
       refine AOps.nil ?_
       refine hK34 _ ?_
       clear hK34 K34
       refine AWp.cond rfl (fun hc35 => ?_) (fun hc35 => ?_)
       ·have hE := condT hc35 hE
        try dsimp only at hc35
        refine AWp.seqK fun K36 hK36 => ?_
        refine AWp.region ?_
        refine AOps.s0 (Cert.fieldV (Try.tab_ok _ _ rfl) rfl rfl (Try.tab_ok _ _ rfl) rfl rfl (by conv => lhs; whnf)) rfl ?_
        refine AOps.s0 (Cert.loadV (Try.tab_ok _ _ rfl) rfl rfl rfl) rfl ?_
        refine AOps.s0 (Cert.binI rfl rfl rfl) rfl ?_
        refine AOps.s0 (Cert.assign (by conv => lhs; whnf)) rfl ?_
        refine AOps.nil ?_
        refine hK36 _ ?_
        clear hK36 K36
        refine AWp.ret ?_
        repeat (first | refine xBlock_ret ?_ | refine xThen_ret ?_)
        obtain rfl := Option.some.inj hE
        refine retQ.retF H rfl ⟨rfl, rfl⟩ ?_
        exact (fun _ _ h => h)
       ·have hE := condF hc35 hE
        try dsimp only at hc35
        refine AWp.seqK fun K37 hK37 => ?_
        refine AWp.region ?_
        refine AOps.s0 (Cert.binS rfl rfl rfl) rfl ?_
        refine AOps.s0 (Cert.assign (by conv => lhs; whnf)) rfl ?_
        refine AOps.nil ?_
        refine hK37 _ ?_
        clear hK37 K37
        refine AWp.cond rfl (fun hc38 => ?_) (fun hc38 => ?_)
        ·have hE := condT hc38 hE
         try dsimp only at hc38
         refine AWp.seqK fun K39 hK39 => ?_
         refine AWp.region ?_
         refine AOps.s0 (Cert.fieldV (Try.tab_ok _ _ rfl) rfl rfl (Try.tab_ok _ _ rfl) rfl rfl (by conv => lhs; whnf)) rfl ?_
         refine AOps.s0 (Cert.loadV (Try.tab_ok _ _ rfl) rfl rfl rfl) rfl ?_
         refine AOps.s0 (Cert.binI rfl rfl rfl) rfl ?_
         refine AOps.s0 (Cert.move (by conv => lhs; whnf)) rfl ?_
         refine AOps.gC rfl rfl (fun hC => Cert.fieldV (Try.tab_ok _ _ rfl) rfl rfl (Try.tab_ok _ _ rfl) rfl rfl (by conv => lhs; whnf)) rfl ?_
         refine AOps.gC rfl rfl (fun hC => Cert.ungd (k := 79) rfl (by first | exact hC | exact andL hC | exact andL (andL hC) | exact andL (andL (andL hC)) | exact andR hC | simp_all) (Cert.loadV (Try.tab_ok _ _ rfl) rfl rfl rfl)) rfl ?_
         refine AOps.gC rfl rfl (fun hC => Cert.ungd (k := 80) rfl (by first | exact hC | exact andL hC | exact andL (andL hC) | exact andL (andL (andL hC)) | exact andR hC | simp_all) (Cert.binI rfl rfl rfl)) rfl ?_
         refine AOps.s0 (Cert.pickOr rfl rfl rfl (fun h => by first | exact h | exact notT h | exact andI hC h | exact andI hC (notT h) | simp_all)) rfl ?_
         refine AOps.s0 (Cert.assign (by conv => lhs; whnf)) rfl ?_
         refine AOps.nil ?_
         refine hK39 _ ?_
         clear hK39 K39
         refine AWp.ret ?_
         repeat (first | refine xBlock_ret ?_ | refine xThen_ret ?_)
         obtain rfl := Option.some.inj hE
         refine retQ.retF H rfl ⟨rfl, rfl⟩ ?_
         exact (fun _ _ h => h)
        ·have hE := condF hc38 hE
         try dsimp only at hc38
         refine AWp.skip ?_
         refine hK26 _ ?_
         clear hK26 K26
         refine AWp.seqK fun K40 hK40 => ?_
         refine AWp.region ?_
         refine AOps.s0 (Cert.loadV (Try.tab_ok _ _ rfl) rfl rfl rfl) rfl ?_
         refine AOps.s0 (Cert.fieldV (Try.tab_ok _ _ rfl) rfl rfl (Try.tab_ok _ _ rfl) rfl rfl (by conv => lhs; whnf)) rfl ?_
         refine AOps.s0 (Cert.loadV (Try.tab_ok _ _ rfl) rfl rfl rfl) rfl ?_
         obtain ⟨x41, gx41, hE⟩ := bindO_some hE
         refine AOps.s0 (Cert.callP rfl rfl (fun H => schema_Find_walk gx41 H)) rfl ?_
         refine AOps.s0 (Cert.move (by conv => lhs; whnf)) rfl ?_
         refine AOps.s0 (Cert.extract rfl rfl) rfl ?_
         refine AOps.s0 (Cert.extract rfl rfl) rfl ?_
         refine AOps.sL (Cert.allocL (Try.tab_ok _ _ rfl) rfl (by repeat (first | exact Snoc.nil | apply Snoc.cons))) rfl ?_
         refine AOps.sLn (Cert.storeLF (Try.tab_ok _ _ rfl) rfl rfl rfl rfl rfl (by repeat (first | exact SetAt.zero | apply SetAt.succ))) ?_
         refine AOps.s0 (Cert.assign (by conv => lhs; whnf)) rfl ?_
         refine AOps.nil ?_
         refine hK40 _ ?_
         clear hK40 K40
         refine AWp.freeze 9 _ rfl (by repeat (first | exact Snoc.nil | apply Snoc.cons)) (Keeps.c (k := 3) (by conv => lhs; whnf) (by rfl) (Keeps.c (k := 5) (by conv => lhs; whnf) (by rfl) Keeps.nil)) ?_
         refine AWp.seqK fun K42 hK42 => ?_
         refine AWp.seqK fun K43 hK43 => ?_
         refine AWp.region ?_
         refine AOps.s0 (Cert.fieldV (Try.tab_ok _ _ rfl) rfl rfl (Try.tab_ok _ _ rfl) rfl rfl (by conv => lhs; whnf)) rfl ?_
         refine AOps.s0 (Cert.loadV (Try.tab_ok _ _ rfl) rfl rfl rfl) rfl ?_
         refine AOps.s0 (Cert.binI rfl rfl rfl) rfl ?_
         refine AOps.nil ?_
         refine hK43 _ ?_
         clear hK43 K43
         refine AWp.cond rfl (fun hc44 => ?_) (fun hc44 => ?_)
         ·have hE := condT hc44 hE
          try dsimp only at hc44
          refine AWp.seqK fun K45 hK45 => ?_
          refine AWp.region ?_
          refine AOps.s0 (Cert.fieldV (Try.tab_ok _ _ rfl) rfl rfl (Try.tab_ok _ _ rfl) rfl rfl (by conv => lhs; whnf)) rfl ?_
          refine AOps.s0 (Cert.loadV (Try.tab_ok _ _ rfl) rfl rfl rfl) rfl ?_
          refine AOps.s0 (Cert.binI rfl rfl rfl) rfl ?_
          refine AOps.s0 (Cert.move (by conv => lhs; whnf)) rfl ?_
          refine AOps.gC rfl rfl (fun hC => Cert.fieldV (Try.tab_ok _ _ rfl) rfl rfl (Try.tab_ok _ _ rfl) rfl rfl (by conv => lhs; whnf)) rfl ?_
          refine AOps.gC rfl rfl (fun hC => Cert.ungd (k := 97) rfl (by first | exact hC | exact andL hC | exact andL (andL hC) | exact andL (andL (andL hC)) | exact andR hC | simp_all) (Cert.loadV (Try.tab_ok _ _ rfl) rfl rfl rfl)) rfl ?_
          refine AOps.gC rfl rfl (fun hC => Cert.makeFunc rfl) rfl ?_
          obtain ⟨x46, gx46, hE⟩ := guardO_some hE
          refine AOps.gC rfl rfl (fun hC => Cert.ungd (k := 98) rfl (by first | exact hC | exact andL hC | exact andL (andL hC) | exact andL (andL (andL hC)) | exact andR hC | simp_all) (Cert.ungd (k := 99) rfl (by first | exact hC | exact andL hC | exact andL (andL hC) | exact andL (andL (andL hC)) | exact andR hC | simp_all) (Cert.callP rfl rfl (fun H => slices_ContainsFunc_berapiMember_walk (gx46 hC) H (fun _ _ hx => fields_fits_2_walk hx))))) rfl ?_
          refine AOps.s0 (Cert.pickAnd rfl rfl (fun h => by first | exact h | exact notT h | exact andI hC h | exact andI hC (notT h) | simp_all) rfl) rfl ?_
          refine AOps.s0 (Cert.assign (by conv => lhs; whnf)) rfl ?_
          refine AOps.nil ?_
          refine hK45 _ ?_
          clear hK45 K45
          refine AWp.ret ?_
          repeat (first | refine xBlock_ret ?_ | refine xThen_ret ?_)
          obtain rfl := Option.some.inj hE
          refine retQ.retF H rfl ⟨rfl, rfl⟩ ?_
          exact (fun _ _ h => h)
         ·have hE := condF hc44 hE
          try dsimp only at hc44
          refine AWp.skip ?_
          refine hK42 _ ?_
          clear hK42 K42
          refine AWp.seqK fun K47 hK47 => ?_
          refine AWp.region ?_
          refine AOps.s0 (Cert.fieldV (Try.tab_ok _ _ rfl) rfl rfl (Try.tab_ok _ _ rfl) rfl rfl (by conv => lhs; whnf)) rfl ?_
          refine AOps.s0 (Cert.loadV (Try.tab_ok _ _ rfl) rfl rfl rfl) rfl ?_
          refine AOps.s0 (Cert.binI rfl rfl rfl) rfl ?_
          refine AOps.s0 (Cert.move (by conv => lhs; whnf)) rfl ?_
          refine AOps.gC rfl rfl (fun hC => Cert.loadV (Try.tab_ok _ _ rfl) rfl rfl rfl) rfl ?_
          refine AOps.gC rfl rfl (fun hC => Cert.loadV (Try.tab_ok _ _ rfl) rfl rfl rfl) rfl ?_
          refine AOps.gC rfl rfl (fun hC => Cert.loadV (Try.tab_ok _ _ rfl) rfl rfl rfl) rfl ?_
          obtain ⟨x48, gx48, hE⟩ := guardO_some hE
          refine AOps.gC rfl rfl (fun hC => Cert.ungd (k := 106) rfl (by first | exact hC | exact andL hC | exact andL (andL hC) | exact andL (andL (andL hC)) | exact andR hC | simp_all) (Cert.ungd (k := 107) rfl (by first | exact hC | exact andL hC | exact andL (andL hC) | exact andL (andL (andL hC)) | exact andR hC | simp_all) (Cert.ungd (k := 108) rfl (by first | exact hC | exact andL hC | exact andL (andL hC) | exact andL (andL (andL hC)) | exact andR hC | simp_all) (Cert.callP rfl rfl (fun H => ih_85 (gx48 hC) H))))) rfl ?_
          refine AOps.s0 (Cert.pickAnd rfl rfl (fun h => by first | exact h | exact notT h | exact andI hC h | exact andI hC (notT h) | simp_all) rfl) rfl ?_
          refine AOps.s0 (Cert.assign (by conv => lhs; whnf)) rfl ?_
          refine AOps.nil ?_
          refine hK47 _ ?_
          clear hK47 K47
          refine AWp.ret ?_
          repeat (first | refine xBlock_ret ?_ | refine xThen_ret ?_)
          obtain rfl := Option.some.inj hE
          refine retQ.retF H rfl ⟨rfl, rfl⟩ ?_
          exact (fun _ _ h => h)
set_option maxRecDepth 100000 in
set_option maxHeartbeats 2000000 in
theorem fields_fits_1_step (n : Nat) (ih_76 : ∀ {a0 : TDoc} {a1 : TRef} {a2 : TValue}   {r : Bool}, fields_fits_n n a0 a1 a2 = some r → ∀ (H : Heap), ACalls Try.prog 76 [.agg (TDoc.c a0), .agg (TRef.c a1), .agg (TValue.c a2)] H fun v h' => v = .a (.d (.bool r)) ∧ h' = H) (ih_82 : ∀ {a0 : TValue} {a1 : TDoc} {a2 : TRef}   {r : Bool}, fields_fits_1_n n a0 a1 a2 = some r → ∀ (H : Heap), ACalls Try.prog 82 [.agg (TValue.c a0), .d (.view (TDoc.c a1)), .d (.view (TRef.c a2))] H fun v h' => v = .a (.d (.bool r)) ∧ h' = H) (ih_85 : ∀ {a0 : TDoc} {a1 : TDef} {a2 : TValue}   {r : Bool}, fields_object_n n a0 a1 a2 = some r → ∀ (H : Heap), ACalls Try.prog 85 [.agg (TDoc.c a0), .agg (TDef.c a1), .agg (TValue.c a2)] H fun v h' => v = .a (.d (.bool r)) ∧ h' = H) : ∀ {a0 : TValue} {a1 : TDoc} {a2 : TRef}   {r : Bool}, fields_fits_1_n (n + 1) a0 a1 a2 = some r → ∀ (H : Heap), ACalls Try.prog 82 [.agg (TValue.c a0), .d (.view (TDoc.c a1)), .d (.view (TRef.c a2))] H fun v h' => v = .a (.d (.bool r)) ∧ h' = H := by
 intro a0 a1 a2   r hE H 
 rw [fields_fits_1_n] at hE
 refine ACalls.of_wp (fn := Try.f82) (c := _) Try.tab_ok (fun _ _ => Try.call82 _ _) Try.func82 rfl (n := 10) rfl (rs := [.tmp 4]) rfl rfl ?_
 refine AWp.seqK fun K1 hK1 => ?_
 refine AWp.region ?_
 refine AOps.s0 (Cert.boxV rfl) rfl ?_
 refine AOps.s0 (Cert.assign (by conv => lhs; whnf)) rfl ?_
 refine AOps.nil ?_
 refine hK1 _ ?_
 clear hK1 K1
 refine AWp.seqK fun K2 hK2 => ?_
 refine AWp.region ?_
 refine AOps.s0 (Cert.loadV (Try.tab_ok _ _ rfl) rfl rfl rfl) rfl ?_
 refine AOps.s0 (Cert.loadV (Try.tab_ok _ _ rfl) rfl rfl rfl) rfl ?_
 refine AOps.s0 (Cert.loadV (Try.tab_ok _ _ rfl) rfl rfl rfl) rfl ?_
 obtain ⟨x3, gx3, hE⟩ := bindO_some hE
 refine AOps.s0 (Cert.callP rfl rfl (fun H => ih_76 gx3 H)) rfl ?_
 refine AOps.s0 (Cert.notB rfl) rfl ?_
 refine AOps.s0 (Cert.assign (by conv => lhs; whnf)) rfl ?_
 refine AOps.nil ?_
 refine hK2 _ ?_
 clear hK2 K2
 refine AWp.ret ?_
 repeat (first | refine xBlock_ret ?_ | refine xThen_ret ?_)
 obtain rfl := Option.some.inj hE
 refine retQ.retF H rfl ⟨rfl, rfl⟩ ?_
 exact (fun _ _ h => h)
set_option maxRecDepth 100000 in
set_option maxHeartbeats 2000000 in
theorem fields_object_step (n : Nat) (ih_76 : ∀ {a0 : TDoc} {a1 : TRef} {a2 : TValue}   {r : Bool}, fields_fits_n n a0 a1 a2 = some r → ∀ (H : Heap), ACalls Try.prog 76 [.agg (TDoc.c a0), .agg (TRef.c a1), .agg (TValue.c a2)] H fun v h' => v = .a (.d (.bool r)) ∧ h' = H) (ih_82 : ∀ {a0 : TValue} {a1 : TDoc} {a2 : TRef}   {r : Bool}, fields_fits_1_n n a0 a1 a2 = some r → ∀ (H : Heap), ACalls Try.prog 82 [.agg (TValue.c a0), .d (.view (TDoc.c a1)), .d (.view (TRef.c a2))] H fun v h' => v = .a (.d (.bool r)) ∧ h' = H) (ih_85 : ∀ {a0 : TDoc} {a1 : TDef} {a2 : TValue}   {r : Bool}, fields_object_n n a0 a1 a2 = some r → ∀ (H : Heap), ACalls Try.prog 85 [.agg (TDoc.c a0), .agg (TDef.c a1), .agg (TValue.c a2)] H fun v h' => v = .a (.d (.bool r)) ∧ h' = H) : ∀ {a0 : TDoc} {a1 : TDef} {a2 : TValue}   {r : Bool}, fields_object_n (n + 1) a0 a1 a2 = some r → ∀ (H : Heap), ACalls Try.prog 85 [.agg (TDoc.c a0), .agg (TDef.c a1), .agg (TValue.c a2)] H fun v h' => v = .a (.d (.bool r)) ∧ h' = H := by
 intro a0 a1 a2   r hE H 
 rw [fields_object_n] at hE
 refine ACalls.of_wp (fn := Try.f85) (c := _) Try.tab_ok (fun _ _ => Try.call85 _ _) Try.func85 rfl (n := 53) rfl (rs := [.tmp 6]) rfl rfl ?_
 refine AWp.seqK fun K1 hK1 => ?_
 refine AWp.region ?_
 refine AOps.s0 (Cert.boxV rfl) rfl ?_
 refine AOps.s0 (Cert.boxV rfl) rfl ?_
 refine AOps.s0 (Cert.boxV rfl) rfl ?_
 refine AOps.s0 (Cert.assign (by conv => lhs; whnf)) rfl ?_
 refine AOps.nil ?_
 refine hK1 _ ?_
 clear hK1 K1
 refine AWp.seqJH (KeepsT.cons (k := 4) (by conv => lhs; whnf) (KeepsT.cons (k := 5) (by conv => lhs; whnf) KeepsT.nil)) (fun (z : Unit) => []) (fun z => H) (fun z => fields_object_j2 a0 a1 a2  = some r) ?_ ?_
 ·intro K2 hK2
  refine AWp.seqK fun K5 hK5 => ?_
  refine AWp.region ?_
  refine AOps.s0 (Cert.fieldV (Try.tab_ok _ _ rfl) rfl rfl (Try.tab_ok _ _ rfl) rfl rfl (by conv => lhs; whnf)) rfl ?_
  refine AOps.s0 (Cert.loadV (Try.tab_ok _ _ rfl) rfl rfl rfl) rfl ?_
  refine AOps.sLen (f := strE) (s := a2.FKeys) (Try.tab_ok _ _ rfl) rfl rfl rfl rfl fun hL6 => ?_
  refine AOps.s0 (Cert.move (by conv => lhs; whnf)) rfl ?_
  refine AOps.nil ?_
  refine hK5 _ ?_
  clear hK5 K5
  refine AWp.block ?_
  refine AWp.loopH (KeepsT.cons (k := 3) (by conv => lhs; whnf) (KeepsT.cons (k := 4) (by conv => lhs; whnf) (KeepsT.cons (k := 5) (by conv => lhs; whnf) (KeepsT.cons (k := 12) (by conv => lhs; whnf) (KeepsT.cons (k := 13) (by conv => lhs; whnf) KeepsT.nil))))) (fun (z : Nat × Nat) => [(14, .a (.d (.int .i64 ((z.2 : Nat) : Int))))]) (fun z => H) (fun z => z.1) (fun z => fields_object_l7 a0 a1 a2 (fields_fits_n n) z.1 z.2 = some r) ((a2.FKeys.l.length + 1), 0) hE Weak.toA ?_
  rintro ⟨n7, s14_8⟩ hE K7 hK7
  try dsimp only at hE
  cases n7 with
  | zero => cases hE
  | succ n7 =>
    rw [fields_object_l7] at hE
    refine AWp.seqK fun K9 hK9 => ?_
    refine AWp.region ?_
    refine AOps.s0 (Cert.binI rfl rfl rfl) rfl ?_
    refine AOps.nil ?_
    refine hK9 _ ?_
    clear hK9 K9
    refine AWp.seqK fun K10 hK10 => ?_
    refine AWp.cond rfl (fun hc11 => ?_) (fun hc11 => ?_)
    ·have hE := condT hc11 hE
     try dsimp only at hc11
     have hf11 := of_decide_eq_true hc11
     refine AWp.skip ?_
     refine hK10 _ ?_
     clear hK10 K10
     refine AWp.seqK fun K12 hK12 => ?_
     refine AWp.block ?_
     refine AWp.seqK fun K13 hK13 => ?_
     refine AWp.region ?_
     refine AOps.s0 (Cert.move (by conv => lhs; whnf)) rfl ?_
     obtain ⟨x14, gx14, hE⟩ := bindO_some hE
     refine AOps.s0 (Cert.idxMn (f := strE) (n := s14_8) (Try.tab_ok _ _ rfl) rfl (Try.tab_ok _ _ rfl) rfl rfl rfl gx14) rfl ?_
     refine AOps.s0 (Cert.loadV (Try.tab_ok _ _ rfl) rfl rfl rfl) rfl ?_
     refine AOps.s0 (Cert.assign (by conv => lhs; whnf)) rfl ?_
     refine AOps.s0 (Cert.assign (by conv => lhs; whnf)) rfl ?_
     refine AOps.nil ?_
     refine hK13 _ ?_
     clear hK13 K13
     refine AWp.seqK fun K15 hK15 => ?_
     refine AWp.region ?_
     refine AOps.s0 (Cert.fieldV (Try.tab_ok _ _ rfl) rfl rfl (Try.tab_ok _ _ rfl) rfl rfl (by conv => lhs; whnf)) rfl ?_
     refine AOps.s0 (Cert.loadV (Try.tab_ok _ _ rfl) rfl rfl rfl) rfl ?_
     refine AOps.s0 (Cert.move (by conv => lhs; whnf)) rfl ?_
     obtain ⟨x16, gx16, hE⟩ := bindO_some hE
     refine AOps.s0 (Cert.callP rfl rfl (fun H => schema_InputOf_walk gx16 H)) rfl ?_
     refine AOps.s0 (Cert.move (by conv => lhs; whnf)) rfl ?_
     refine AOps.s0 (Cert.extract rfl rfl) rfl ?_
     refine AOps.s0 (Cert.extract rfl rfl) rfl ?_
     refine AOps.sL (Cert.allocL (Try.tab_ok _ _ rfl) rfl (by repeat (first | exact Snoc.nil | apply Snoc.cons))) rfl ?_
     refine AOps.sLn (Cert.storeLF (Try.tab_ok _ _ rfl) rfl rfl rfl rfl rfl (by repeat (first | exact SetAt.zero | apply SetAt.succ))) ?_
     refine AOps.s0 (Cert.assign (by conv => lhs; whnf)) rfl ?_
     refine AOps.nil ?_
     refine hK15 _ ?_
     clear hK15 K15
     refine AWp.freeze 9 _ rfl (by repeat (first | exact Snoc.nil | apply Snoc.cons)) (Keeps.c (k := 3) (by conv => lhs; whnf) (by rfl) (Keeps.c (k := 4) (by conv => lhs; whnf) (by rfl) (Keeps.c (k := 5) (by conv => lhs; whnf) (by rfl) (Keeps.c (k := 7) (by conv => lhs; whnf) (by rfl) (Keeps.c (k := 10) (by conv => lhs; whnf) (by rfl) (Keeps.c (k := 12) (by conv => lhs; whnf) (by rfl) (Keeps.c (k := 13) (by conv => lhs; whnf) (by rfl) (Keeps.c (k := 14) (by conv => lhs; whnf) (by rfl) Keeps.nil)))))))) ?_
     refine AWp.seqK fun K17 hK17 => ?_
     refine AWp.draw rfl ?_
     refine DOps.s0 (Cert.move (by conv => lhs; whnf)) rfl ?_
     refine DOps.s0 (Cert.notB rfl) rfl ?_
     refine DOps.s0 (Cert.move (by conv => lhs; whnf)) rfl ?_
     refine DOps.gC rfl rfl (fun hC => Cert.move (by conv => lhs; whnf)) rfl ?_
     refine DOps.gC rfl rfl (fun hC => Cert.fieldV (Try.tab_ok _ _ rfl) rfl rfl (Try.tab_ok _ _ rfl) rfl rfl (by conv => lhs; whnf)) rfl ?_
     refine DOps.gC rfl rfl (fun hC => Cert.ungd (k := 30) rfl (by first | exact hC | exact andL hC | exact andL (andL hC) | exact andL (andL (andL hC)) | exact andR hC | simp_all) (Cert.loadV (Try.tab_ok _ _ rfl) rfl rfl (congrArg (fun x => some (A.d x)) (TValue.FItemsD_eq _)))) rfl ?_
     refine DOps.gC rfl rfl (fun hC => Cert.ungd (k := 31) rfl (by first | exact hC | exact andL hC | exact andL (andL hC) | exact andL (andL (andL hC)) | exact andR hC | simp_all) (Cert.lenM' (f := TValue.c) (s := a2.FItems) (Try.tab_ok _ _ rfl) rfl rfl rfl)) rfl ?_
     refine DOps.gC rfl rfl (fun hC => Cert.ungd (k := 29) rfl (by first | exact hC | exact andL hC | exact andL (andL hC) | exact andL (andL (andL hC)) | exact andR hC | simp_all) (Cert.ungd (k := 32) rfl (by first | exact hC | exact andL hC | exact andL (andL hC) | exact andL (andL (andL hC)) | exact andR hC | simp_all) (Cert.binI rfl rfl rfl))) rfl ?_
     refine DOps.s0 (Cert.pickOr rfl rfl rfl (fun h => by first | exact h | exact notT h | exact andI hC h | exact andI hC (notT h) | simp_all)) rfl ?_
     refine DOps.s0 (Cert.move (by conv => lhs; whnf)) rfl ?_
     refine DOps.gC rfl rfl (fun hC => Cert.loadV (Try.tab_ok _ _ rfl) rfl rfl rfl) rfl ?_
     refine DOps.gC rfl rfl (fun hC => Cert.fieldV (Try.tab_ok _ _ rfl) rfl rfl (Try.tab_ok _ _ rfl) rfl rfl (by conv => lhs; whnf)) rfl ?_
     refine DOps.gC rfl rfl (fun hC => Cert.ungd (k := 37) rfl (by first | exact hC | exact andL hC | exact andL (andL hC) | exact andL (andL (andL hC)) | exact andR hC | simp_all) (Cert.loadV (Try.tab_ok _ _ rfl) rfl rfl rfl)) rfl ?_
     refine DOps.gC rfl rfl (fun hC => Cert.fieldV (Try.tab_ok _ _ rfl) rfl rfl (Try.tab_ok _ _ rfl) rfl rfl (by conv => lhs; whnf)) rfl ?_
     refine DOps.gC rfl rfl (fun hC => Cert.ungd (k := 39) rfl (by first | exact hC | exact andL hC | exact andL (andL hC) | exact andL (andL (andL hC)) | exact andR hC | simp_all) (Cert.loadV (Try.tab_ok _ _ rfl) rfl rfl (congrArg (fun x => some (A.d x)) (TValue.FItemsD_eq _)))) rfl ?_
     refine DOps.gC rfl rfl (fun hC => Cert.move (by conv => lhs; whnf)) rfl ?_
     obtain ⟨x18, gx18, hE⟩ := guardO_some hE
     refine DOps.gC rfl rfl (fun hC => Cert.ungd (k := 40) rfl (by first | exact hC | exact andL hC | exact andL (andL hC) | exact andL (andL (andL hC)) | exact andR hC | simp_all) (Cert.ungd (k := 41) rfl (by first | exact hC | exact andL hC | exact andL (andL hC) | exact andL (andL (andL hC)) | exact andR hC | simp_all) (Cert.idxMn (f := TValue.c) (n := s14_8) (Try.tab_ok _ _ rfl) rfl (Try.tab_ok _ _ rfl) rfl rfl rfl (gx18 hC)))) rfl ?_
     refine DOps.gC rfl rfl (fun hC => Cert.ungd (k := 42) rfl (by first | exact hC | exact andL hC | exact andL (andL hC) | exact andL (andL (andL hC)) | exact andR hC | simp_all) (Cert.loadV (Try.tab_ok _ _ rfl) rfl rfl rfl)) rfl ?_
     obtain ⟨x19, gx19, hE⟩ := guardO_some hE
     refine DOps.gC rfl rfl (fun hC => Cert.ungd (k := 36) rfl (by first | exact hC | exact andL hC | exact andL (andL hC) | exact andL (andL (andL hC)) | exact andR hC | simp_all) (Cert.ungd (k := 38) rfl (by first | exact hC | exact andL hC | exact andL (andL hC) | exact andL (andL (andL hC)) | exact andR hC | simp_all) (Cert.ungd (k := 43) rfl (by first | exact hC | exact andL hC | exact andL (andL hC) | exact andL (andL (andL hC)) | exact andR hC | simp_all) (Cert.callP rfl rfl (fun H => ih_76 (gx19 hC) H))))) rfl ?_
     refine DOps.gC rfl rfl (fun hC => Cert.ungd (k := 44) rfl (by first | exact hC | exact andL hC | exact andL (andL hC) | exact andL (andL (andL hC)) | exact andR hC | simp_all) (Cert.notB rfl)) rfl ?_
     refine DOps.s0 (Cert.pickOr rfl rfl rfl (fun h => by first | exact h | exact notT h | exact andI hC h | exact andI hC (notT h) | simp_all)) rfl ?_
     refine DOps.nil (by decide +kernel) ?_
     refine hK17 _ ?_
     clear hK17 K17
     refine AWp.cond rfl (fun hc20 => ?_) (fun hc20 => ?_)
     ·have hE := condT hc20 hE
      try dsimp only at hc20
      refine AWp.seqK fun K21 hK21 => ?_
      refine AWp.region ?_
      refine AOps.s0 (Cert.assign (by conv => lhs; whnf)) rfl ?_
      refine AOps.nil ?_
      refine hK21 _ ?_
      clear hK21 K21
      refine AWp.ret ?_
      repeat (first | refine xBlock_ret ?_ | refine xThen_ret ?_)
      obtain rfl := Option.some.inj hE
      refine retQ.retF H rfl ⟨rfl, rfl⟩ ?_
      exact (fun _ _ h => h)
     ·have hE := condF hc20 hE
      try dsimp only at hc20
      refine AWp.skip ?_
      refine hK12 _ ?_
      clear hK12 K12
      refine AWp.region ?_
      refine AOps.s0 (Cert.addI rfl rfl (by first | omega | (dsimp only; omega)) (by first | omega | (dsimp only; omega))) rfl ?_
      refine AOps.s0 (Cert.move (by conv => lhs; whnf)) rfl ?_
      refine AOps.nil ?_
      exact hK7 _ (n7, (s14_8 + 1)) Weak.toA hE (Nat.lt_succ_self _)
    ·have hE := condF hc11 hE
     try dsimp only at hc11
     refine AWp.exit ?_
     exact hK2 _ () Weak.toA hE
 ·rintro _ hE
  try dsimp only at hE
  unfold fields_object_j2 at hE
  refine AWp.seqK fun K3 hK3 => ?_
  refine AWp.region ?_
  refine AOps.s0 (Cert.fieldV (Try.tab_ok _ _ rfl) rfl rfl (Try.tab_ok _ _ rfl) rfl rfl (by conv => lhs; whnf)) rfl ?_
  refine AOps.s0 (Cert.loadV (Try.tab_ok _ _ rfl) rfl rfl rfl) rfl ?_
  refine AOps.s0 (Cert.makeFunc rfl) rfl ?_
  obtain ⟨x4, gx4, hE⟩ := bindO_some hE
  refine AOps.s0 (Cert.callP rfl rfl (fun H => slices_ContainsFunc_nputapiInput_walk gx4 H (fun _ _ hx => fields_object_1_walk hx))) rfl ?_
  refine AOps.s0 (Cert.notB rfl) rfl ?_
  refine AOps.s0 (Cert.assign (by conv => lhs; whnf)) rfl ?_
  refine AOps.nil ?_
  refine hK3 _ ?_
  clear hK3 K3
  refine AWp.ret ?_
  repeat (first | refine xBlock_ret ?_ | refine xThen_ret ?_)
  obtain rfl := Option.some.inj hE
  refine retQ.retF H rfl ⟨rfl, rfl⟩ ?_
  exact (fun _ _ h => h)
theorem fields_fits_all : ∀ (n : Nat), (∀ {a0 : TDoc} {a1 : TRef} {a2 : TValue}   {r : Bool}, fields_fits_n n a0 a1 a2 = some r → ∀ (H : Heap), ACalls Try.prog 76 [.agg (TDoc.c a0), .agg (TRef.c a1), .agg (TValue.c a2)] H fun v h' => v = .a (.d (.bool r)) ∧ h' = H) ∧ (∀ {a0 : TValue} {a1 : TDoc} {a2 : TRef}   {r : Bool}, fields_fits_1_n n a0 a1 a2 = some r → ∀ (H : Heap), ACalls Try.prog 82 [.agg (TValue.c a0), .d (.view (TDoc.c a1)), .d (.view (TRef.c a2))] H fun v h' => v = .a (.d (.bool r)) ∧ h' = H) ∧ (∀ {a0 : TDoc} {a1 : TDef} {a2 : TValue}   {r : Bool}, fields_object_n n a0 a1 a2 = some r → ∀ (H : Heap), ACalls Try.prog 85 [.agg (TDoc.c a0), .agg (TDef.c a1), .agg (TValue.c a2)] H fun v h' => v = .a (.d (.bool r)) ∧ h' = H)
 | 0 => ⟨fun hE => by first | cases hE | (rw [fields_fits_n] at hE; cases hE), fun hE => by first | cases hE | (rw [fields_fits_1_n] at hE; cases hE), fun hE => by first | cases hE | (rw [fields_object_n] at hE; cases hE)⟩
 | n + 1 => ⟨fields_fits_step n (fields_fits_all n).1 (fields_fits_all n).2.1 (fields_fits_all n).2.2, fields_fits_1_step n (fields_fits_all n).1 (fields_fits_all n).2.1 (fields_fits_all n).2.2, fields_object_step n (fields_fits_all n).1 (fields_fits_all n).2.1 (fields_fits_all n).2.2⟩
def fields_fits (a0 : TDoc) (a1 : TRef) (a2 : TValue) : Option Bool := fields_fits_n F0 a0 a1 a2
theorem fields_fits_walk {a0 : TDoc} {a1 : TRef} {a2 : TValue}   {r : Bool} (hE : fields_fits a0 a1 a2 = some r) (H : Heap)  : ACalls Try.prog 76 [.agg (TDoc.c a0), .agg (TRef.c a1), .agg (TValue.c a2)] H fun v h' => v = .a (.d (.bool r)) ∧ h' = H := (fields_fits_all F0).1 hE H 
def fields_fits_1 (a0 : TValue) (a1 : TDoc) (a2 : TRef) : Option Bool := fields_fits_1_n F0 a0 a1 a2
theorem fields_fits_1_walk {a0 : TValue} {a1 : TDoc} {a2 : TRef}   {r : Bool} (hE : fields_fits_1 a0 a1 a2 = some r) (H : Heap)  : ACalls Try.prog 82 [.agg (TValue.c a0), .d (.view (TDoc.c a1)), .d (.view (TRef.c a2))] H fun v h' => v = .a (.d (.bool r)) ∧ h' = H := (fields_fits_all F0).2.1 hE H 
def fields_object (a0 : TDoc) (a1 : TDef) (a2 : TValue) : Option Bool := fields_object_n F0 a0 a1 a2
theorem fields_object_walk {a0 : TDoc} {a1 : TDef} {a2 : TValue}   {r : Bool} (hE : fields_object a0 a1 a2 = some r) (H : Heap)  : ACalls Try.prog 85 [.agg (TDoc.c a0), .agg (TDef.c a1), .agg (TValue.c a2)] H fun v h' => v = .a (.d (.bool r)) ∧ h' = H := (fields_fits_all F0).2.2 hE H 
end Go.Proofs
