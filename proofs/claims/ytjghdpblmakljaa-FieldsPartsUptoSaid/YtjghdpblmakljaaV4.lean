import Derived.Test.YtjghdpblmakljaaV3
set_option linter.unusedVariables false
set_option linter.unusedSimpArgs false
namespace Go.Proofs
open Go Go.Ab
theorem eqt_60 : eqTab Try.prog 60 = some [.int .i64, .str] := by kernel_rfl
def r10_Faults_j8 (a0 : (Sl TFault)) (a1 : (Sl TFault))   : Option Bool := some true
def r10_Faults_l11 (a0 : (Sl TFault)) (a1 : (Sl TFault))  : Nat → Nat → Option Bool
 | 0, _ => none
 | n11 + 1, s5_12 => bif (decide (((s5_12 : Nat) : Int) < ((a0.l.length : Nat) : Int))) then ((a0.l[s5_12]?).bind fun x19 => (a1.l[s5_12]?).bind fun x20 => bif (!(decide (x19.FErr = x20.FErr) && ((x19.FAt == x20.FAt) && true))) then (some false) else ((r10_Faults_l11 a0 a1 n11) (s5_12 + 1))) else (r10_Faults_j8 a0 a1  )
def r10_Faults (a0 : (Sl TFault)) (a1 : (Sl TFault)) : Option Bool := bif (!decide (((a0.l.length : Nat) : Int) = ((a1.l.length : Nat) : Int))) then (some false) else (r10_Faults_l11 a0 a1 (a0.l.length + 1) 0)
set_option maxRecDepth 100000 in
set_option maxHeartbeats 2000000 in
theorem r10_Faults_walk {a0 : (Sl TFault)} {a1 : (Sl TFault)} {w0 : Option Nat} {w1 : Option Nat}  {r : Bool} (hE : r10_Faults a0 a1 = some r) (H : Heap)  : ACalls Try.prog 12 [.d (Sl.d 2 TFault.c w0 a0), .d (Sl.d 2 TFault.c w1 a1)] H fun v h' => v = .a (.d (.bool r)) ∧ h' = H := by
 unfold r10_Faults at hE
 refine ACalls.of_wp (fn := Try.f12) (c := _) Try.tab_ok (fun _ _ => Try.call12 _ _) Try.func12 rfl (n := 26) rfl (rs := [.tmp 4]) rfl rfl ?_
 refine AWp.seqK fun K1 hK1 => ?_
 refine AWp.region ?_
 refine AOps.s0 (Cert.assign (by conv => lhs; whnf)) rfl ?_
 refine AOps.nil ?_
 refine hK1 _ ?_
 clear hK1 K1
 refine AWp.seqK fun K2 hK2 => ?_
 refine AWp.seqK fun K3 hK3 => ?_
 refine AWp.region ?_
 refine AOps.s0 (Cert.move (by conv => lhs; whnf)) rfl ?_
 refine AOps.sLen (f := TFault.c) (s := a0) (Try.tab_ok _ _ rfl) rfl rfl rfl rfl fun hL4 => ?_
 refine AOps.s0 (Cert.move (by conv => lhs; whnf)) rfl ?_
 refine AOps.sLen (f := TFault.c) (s := a1) (Try.tab_ok _ _ rfl) rfl rfl rfl rfl fun hL5 => ?_
 refine AOps.s0 (Cert.binI rfl rfl rfl) rfl ?_
 refine AOps.nil ?_
 refine hK3 _ ?_
 clear hK3 K3
 refine AWp.cond rfl (fun hc6 => ?_) (fun hc6 => ?_)
 ·have hE := condT hc6 hE
  try dsimp only at hc6
  refine AWp.seqK fun K7 hK7 => ?_
  refine AWp.region ?_
  refine AOps.s0 (Cert.assign (by conv => lhs; whnf)) rfl ?_
  refine AOps.nil ?_
  refine hK7 _ ?_
  clear hK7 K7
  refine AWp.ret ?_
  repeat (first | refine xBlock_ret ?_ | refine xThen_ret ?_)
  obtain rfl := Option.some.inj hE
  refine retQ.retF H rfl ⟨rfl, rfl⟩ ?_
  exact (fun _ _ h => h)
 ·have hE := condF hc6 hE
  try dsimp only at hc6
  refine AWp.skip ?_
  refine hK2 _ ?_
  clear hK2 K2
  refine AWp.seqJH KeepsT.nil (fun (z : Unit) => []) (fun z => H) (fun z => r10_Faults_j8 a0 a1  = some r) ?_ ?_
  ·intro K8 hK8
   refine AWp.seqK fun K10 hK10 => ?_
   refine AWp.region ?_
   refine AOps.s0 (Cert.assign (by conv => lhs; whnf)) rfl ?_
   refine AOps.nil ?_
   refine hK10 _ ?_
   clear hK10 K10
   refine AWp.block ?_
   refine AWp.loopH (KeepsT.cons (k := 0) (by conv => lhs; whnf) (KeepsT.cons (k := 1) (by conv => lhs; whnf) KeepsT.nil)) (fun (z : Nat × Nat) => [(5, .a (.d (.int .i64 ((z.2 : Nat) : Int))))]) (fun z => H) (fun z => z.1) (fun z => r10_Faults_l11 a0 a1 z.1 z.2 = some r) ((a0.l.length + 1), 0) hE Weak.toA ?_
   rintro ⟨n11, s5_12⟩ hE K11 hK11
   try dsimp only at hE
   cases n11 with
   | zero => cases hE
   | succ n11 =>
     rw [r10_Faults_l11] at hE
     refine AWp.seqK fun K13 hK13 => ?_
     refine AWp.seqK fun K14 hK14 => ?_
     refine AWp.region ?_
     refine AOps.s0 (Cert.move (by conv => lhs; whnf)) rfl ?_
     refine AOps.s0 (Cert.move (by conv => lhs; whnf)) rfl ?_
     refine AOps.sLen (f := TFault.c) (s := a0) (Try.tab_ok _ _ rfl) rfl rfl rfl rfl fun hL15 => ?_
     refine AOps.s0 (Cert.binI rfl rfl rfl) rfl ?_
     refine AOps.nil ?_
     refine hK14 _ ?_
     clear hK14 K14
     refine AWp.cond rfl (fun hc16 => ?_) (fun hc16 => ?_)
     ·have hE := condT hc16 hE
      try dsimp only at hc16
      have hf16 := of_decide_eq_true hc16
      refine AWp.skip ?_
      refine hK13 _ ?_
      clear hK13 K13
      refine AWp.seqK fun K17 hK17 => ?_
      refine AWp.block ?_
      refine AWp.seqK fun K18 hK18 => ?_
      refine AWp.draw rfl ?_
      refine DOps.s0 (Cert.move (by conv => lhs; whnf)) rfl ?_
      refine DOps.s0 (Cert.move (by conv => lhs; whnf)) rfl ?_
      obtain ⟨x19, gx19, hE⟩ := bindO_some hE
      refine DOps.s0 (Cert.idxMn (f := TFault.c) (n := s5_12) (Try.tab_ok _ _ rfl) rfl (Try.tab_ok _ _ rfl) rfl rfl rfl gx19) rfl ?_
      refine DOps.s0 (Cert.loadV (Try.tab_ok _ _ rfl) rfl rfl rfl) rfl ?_
      refine DOps.s0 (Cert.move (by conv => lhs; whnf)) rfl ?_
      refine DOps.s0 (Cert.move (by conv => lhs; whnf)) rfl ?_
      obtain ⟨x20, gx20, hE⟩ := bindO_some hE
      refine DOps.s0 (Cert.idxMn (f := TFault.c) (n := s5_12) (Try.tab_ok _ _ rfl) rfl (Try.tab_ok _ _ rfl) rfl rfl rfl gx20) rfl ?_
      refine DOps.s0 (Cert.loadV (Try.tab_ok _ _ rfl) rfl rfl rfl) rfl ?_
      refine DOps.s0 (Cert.neStruct eqt_60 rfl rfl rfl rfl) rfl ?_
      refine DOps.nil (by decide +kernel) ?_
      refine hK18 _ ?_
      clear hK18 K18
      refine AWp.cond rfl (fun hc21 => ?_) (fun hc21 => ?_)
      ·have hE := condT hc21 hE
       try dsimp only at hc21
       refine AWp.seqK fun K22 hK22 => ?_
       refine AWp.region ?_
       refine AOps.s0 (Cert.assign (by conv => lhs; whnf)) rfl ?_
       refine AOps.nil ?_
       refine hK22 _ ?_
       clear hK22 K22
       refine AWp.ret ?_
       repeat (first | refine xBlock_ret ?_ | refine xThen_ret ?_)
       obtain rfl := Option.some.inj hE
       refine retQ.retF H rfl ⟨rfl, rfl⟩ ?_
       exact (fun _ _ h => h)
      ·have hE := condF hc21 hE
       try dsimp only at hc21
       refine AWp.skip ?_
       refine hK17 _ ?_
       clear hK17 K17
       refine AWp.region ?_
       refine AOps.s0 (Cert.move (by conv => lhs; whnf)) rfl ?_
       refine AOps.s0 (Cert.addI rfl rfl (by first | omega | (dsimp only; omega)) (by first | omega | (dsimp only; omega))) rfl ?_
       refine AOps.s0 (Cert.assign (by conv => lhs; whnf)) rfl ?_
       refine AOps.nil ?_
       exact hK11 _ (n11, (s5_12 + 1)) Weak.toA hE (Nat.lt_succ_self _)
     ·have hE := condF hc16 hE
      try dsimp only at hc16
      refine AWp.exit ?_
      exact hK8 _ () Weak.toA hE
  ·rintro _ hE
   try dsimp only at hE
   unfold r10_Faults_j8 at hE
   refine AWp.seqK fun K9 hK9 => ?_
   refine AWp.region ?_
   refine AOps.s0 (Cert.assign (by conv => lhs; whnf)) rfl ?_
   refine AOps.nil ?_
   refine hK9 _ ?_
   clear hK9 K9
   refine AWp.ret ?_
   repeat (first | refine xBlock_ret ?_ | refine xThen_ret ?_)
   obtain rfl := Option.some.inj hE
   refine retQ.retF H rfl ⟨rfl, rfl⟩ ?_
   exact (fun _ _ h => h)
def r05_IsNonNull (a0 : TRef) : Option Bool := guardO ((decide ((0 : Int) < ((a0.FWraps.l.length : Nat) : Int)))) (a0.FWraps.l[0]?) (0 : Int) fun x4 => some ((decide ((0 : Int) < ((a0.FWraps.l.length : Nat) : Int))) && (decide (x4 = (1 : Int))))
set_option maxRecDepth 100000 in
set_option maxHeartbeats 2000000 in
theorem r05_IsNonNull_walk {a0 : TRef}   {r : Bool} (hE : r05_IsNonNull a0 = some r) (H : Heap)  : ACalls Try.prog 33 [.agg (TRef.c a0)] H fun v h' => v = .a (.d (.bool r)) ∧ h' = H := by
 unfold r05_IsNonNull at hE
 refine ACalls.of_wp (fn := Try.f33) (c := _) Try.tab_ok (fun _ _ => Try.call33 _ _) Try.func33 rfl (n := 14) rfl (rs := [.tmp 2]) rfl rfl ?_
 refine AWp.seqK fun K1 hK1 => ?_
 refine AWp.region ?_
 refine AOps.s0 (Cert.boxV rfl) rfl ?_
 refine AOps.s0 (Cert.assign (by conv => lhs; whnf)) rfl ?_
 refine AOps.nil ?_
 refine hK1 _ ?_
 clear hK1 K1
 refine AWp.seqK fun K2 hK2 => ?_
 refine AWp.region ?_
 refine AOps.s0 (Cert.fieldV (Try.tab_ok _ _ rfl) rfl rfl (Try.tab_ok _ _ rfl) rfl rfl (by conv => lhs; whnf)) rfl ?_
 refine AOps.s0 (Cert.loadV (Try.tab_ok _ _ rfl) rfl rfl rfl) rfl ?_
 refine AOps.sLen (f := (intE .i64)) (s := a0.FWraps) (Try.tab_ok _ _ rfl) rfl rfl rfl rfl fun hL3 => ?_
 refine AOps.s0 (Cert.binI rfl rfl rfl) rfl ?_
 refine AOps.s0 (Cert.move (by conv => lhs; whnf)) rfl ?_
 refine AOps.gC rfl rfl (fun hC => Cert.fieldV (Try.tab_ok _ _ rfl) rfl rfl (Try.tab_ok _ _ rfl) rfl rfl (by conv => lhs; whnf)) rfl ?_
 refine AOps.gC rfl rfl (fun hC => Cert.ungd (k := 8) rfl (by first | exact hC | exact andL hC | exact andL (andL hC) | exact andL (andL (andL hC)) | exact andR hC | simp_all) (Cert.loadV (Try.tab_ok _ _ rfl) rfl rfl rfl)) rfl ?_
 obtain ⟨x4, gx4, hE⟩ := guardO_some hE
 refine AOps.gC rfl rfl (fun hC => Cert.ungd (k := 9) rfl (by first | exact hC | exact andL hC | exact andL (andL hC) | exact andL (andL (andL hC)) | exact andR hC | simp_all) (Cert.idxMn (f := (intE .i64)) (n := 0) (Try.tab_ok _ _ rfl) rfl (Try.tab_ok _ _ rfl) rfl rfl rfl (gx4 hC))) rfl ?_
 refine AOps.gC rfl rfl (fun hC => Cert.ungd (k := 10) rfl (by first | exact hC | exact andL hC | exact andL (andL hC) | exact andL (andL (andL hC)) | exact andR hC | simp_all) (Cert.loadV (Try.tab_ok _ _ rfl) rfl rfl rfl)) rfl ?_
 refine AOps.gC rfl rfl (fun hC => Cert.ungd (k := 11) rfl (by first | exact hC | exact andL hC | exact andL (andL hC) | exact andL (andL (andL hC)) | exact andR hC | simp_all) (Cert.binI rfl rfl rfl)) rfl ?_
 refine AOps.s0 (Cert.pickAnd rfl rfl (fun h => by first | exact h | exact notT h | exact andI hC h | exact andI hC (notT h) | simp_all) rfl) rfl ?_
 refine AOps.s0 (Cert.assign (by conv => lhs; whnf)) rfl ?_
 refine AOps.nil ?_
 refine hK2 _ ?_
 clear hK2 K2
 refine AWp.ret ?_
 repeat (first | refine xBlock_ret ?_ | refine xThen_ret ?_)
 obtain rfl := Option.some.inj hE
 refine retQ.retF H rfl ⟨rfl, rfl⟩ ?_
 exact (fun _ _ h => h)
def r05_wrap (a0 : Int) (a1 : TRef) : Option TRef := (appC 8 (⟨false, [a0]⟩ : Sl Int) a1.FWraps).bind fun x3 => some (TRef.mk a1.FName x3)
set_option maxRecDepth 100000 in
set_option maxHeartbeats 2000000 in
theorem r05_wrap_walk {a0 : Int} {a1 : TRef}   {r : TRef} (hE : r05_wrap a0 a1 = some r) (H : Heap)  : ACalls Try.prog 34 [.d (.int .i64 a0), .agg (TRef.c a1)] H fun v h' => v = .a (.agg (TRef.c r)) ∧ h' = H := by
 unfold r05_wrap at hE
 refine ACalls.of_wp (fn := Try.f34) (c := _) Try.tab_ok (fun _ _ => Try.call34 _ _) Try.func34 rfl (n := 13) rfl (rs := [.cell 4 29]) rfl rfl ?_
 refine AWp.seqK fun K1 hK1 => ?_
 refine AWp.region ?_
 refine AOps.s0 (Cert.boxV rfl) rfl ?_
 refine AOps.sL (Cert.allocL (Try.tab_ok _ _ rfl) rfl (by repeat (first | exact Snoc.nil | apply Snoc.cons))) rfl ?_
 refine AOps.nil ?_
 refine hK1 _ ?_
 clear hK1 K1
 refine AWp.seqK fun K2 hK2 => ?_
 refine AWp.draw rfl ?_
 refine DOps.s0 (Cert.fieldV (Try.tab_ok _ _ rfl) rfl rfl (Try.tab_ok _ _ rfl) rfl rfl (by conv => lhs; whnf)) rfl ?_
 refine DOps.s0 (Cert.loadV (Try.tab_ok _ _ rfl) rfl rfl rfl) rfl ?_
 refine DOps.s0 (Cert.move (by conv => lhs; whnf)) rfl ?_
 refine DOps.s0 (Cert.buildSliceF (Try.tab_ok _ _ rfl) rfl (Try.tab_ok _ _ rfl) rfl rfl rfl rfl rfl rfl) rfl ?_
 refine DOps.s0 (Cert.fieldV (Try.tab_ok _ _ rfl) rfl rfl (Try.tab_ok _ _ rfl) rfl rfl (by conv => lhs; whnf)) rfl ?_
 refine DOps.s0 (Cert.loadV (Try.tab_ok _ _ rfl) rfl rfl rfl) rfl ?_
 obtain ⟨x3, gx3, hE⟩ := bindO_some hE
 refine DOps.s0 (Cert.appFM (f := (intE .i64)) (Try.tab_ok _ _ rfl) rfl (Try.tab_ok _ _ rfl) (Try.tab_ok _ _ rfl) ⟨_, rfl⟩ rfl rfl (by decide) rfl rfl rfl (by intro q h; cases h <;> decide) rfl rfl gx3) rfl ?_
 refine DOps.s0 (Cert.build Try.tab_ok rfl rfl rfl rfl rfl rfl) rfl ?_
 refine DOps.sLn (Cert.storeLF (Try.tab_ok _ _ rfl) rfl rfl rfl rfl rfl (by repeat (first | exact SetAt.zero | apply SetAt.succ))) ?_
 refine DOps.nil (by decide +kernel) ?_
 refine hK2 _ ?_
 clear hK2 K2
 refine AWp.ret ?_
 repeat (first | refine xBlock_ret ?_ | refine xThen_ret ?_)
 obtain rfl := Option.some.inj hE
 refine retQ.retF H rfl ⟨rfl, rfl⟩ ?_
 exact (fun _ _ h => h)
def r05_NonNull (a0 : TRef) : Option TRef := (r05_IsNonNull a0).bind fun x4 => bif x4 then ((appC 8 (⟨false, []⟩ : Sl Int) a0.FWraps).bind fun x7 => some (TRef.mk a0.FName x7)) else ((r05_wrap (1 : Int) a0).bind fun x9 => some x9)
set_option maxRecDepth 100000 in
set_option maxHeartbeats 2000000 in
theorem r05_NonNull_walk {a0 : TRef}   {r : TRef} (hE : r05_NonNull a0 = some r) (H : Heap)  : ACalls Try.prog 14 [.agg (TRef.c a0)] H fun v h' => v = .a (.agg (TRef.c r)) ∧ h' = H := by
 unfold r05_NonNull at hE
 refine ACalls.of_wp (fn := Try.f14) (c := _) Try.tab_ok (fun _ _ => Try.call14 _ _) Try.func14 rfl (n := 14) rfl (rs := [.cell 2 29]) rfl rfl ?_
 refine AWp.seqK fun K1 hK1 => ?_
 refine AWp.region ?_
 refine AOps.s0 (Cert.boxV rfl) rfl ?_
 refine AOps.sL (Cert.allocL (Try.tab_ok _ _ rfl) rfl (by repeat (first | exact Snoc.nil | apply Snoc.cons))) rfl ?_
 refine AOps.nil ?_
 refine hK1 _ ?_
 clear hK1 K1
 refine AWp.seqK fun K2 hK2 => ?_
 refine AWp.seqK fun K3 hK3 => ?_
 refine AWp.region ?_
 refine AOps.s0 (Cert.loadV (Try.tab_ok _ _ rfl) rfl rfl rfl) rfl ?_
 obtain ⟨x4, gx4, hE⟩ := bindO_some hE
 refine AOps.s0 (Cert.callP rfl rfl (fun H => r05_IsNonNull_walk gx4 H)) rfl ?_
 refine AOps.nil ?_
 refine hK3 _ ?_
 clear hK3 K3
 refine AWp.cond rfl (fun hc5 => ?_) (fun hc5 => ?_)
 ·have hE := condT hc5 hE
  try dsimp only at hc5
  refine AWp.seqK fun K6 hK6 => ?_
  refine AWp.draw rfl ?_
  refine DOps.s0 (Cert.fieldV (Try.tab_ok _ _ rfl) rfl rfl (Try.tab_ok _ _ rfl) rfl rfl (by conv => lhs; whnf)) rfl ?_
  refine DOps.s0 (Cert.loadV (Try.tab_ok _ _ rfl) rfl rfl rfl) rfl ?_
  refine DOps.s0 (Cert.buildSliceF (Try.tab_ok _ _ rfl) rfl (Try.tab_ok _ _ rfl) rfl rfl rfl rfl rfl rfl) rfl ?_
  refine DOps.s0 (Cert.fieldV (Try.tab_ok _ _ rfl) rfl rfl (Try.tab_ok _ _ rfl) rfl rfl (by conv => lhs; whnf)) rfl ?_
  refine DOps.s0 (Cert.loadV (Try.tab_ok _ _ rfl) rfl rfl rfl) rfl ?_
  obtain ⟨x7, gx7, hE⟩ := bindO_some hE
  refine DOps.s0 (Cert.appFM (f := (intE .i64)) (Try.tab_ok _ _ rfl) rfl (Try.tab_ok _ _ rfl) (Try.tab_ok _ _ rfl) ⟨_, rfl⟩ rfl rfl (by decide) rfl rfl rfl (by intro q h; cases h <;> decide) rfl rfl gx7) rfl ?_
  refine DOps.s0 (Cert.build Try.tab_ok rfl rfl rfl rfl rfl rfl) rfl ?_
  refine DOps.sLn (Cert.storeLF (Try.tab_ok _ _ rfl) rfl rfl rfl rfl rfl (by repeat (first | exact SetAt.zero | apply SetAt.succ))) ?_
  refine DOps.nil (by decide +kernel) ?_
  refine hK6 _ ?_
  clear hK6 K6
  refine AWp.ret ?_
  repeat (first | refine xBlock_ret ?_ | refine xThen_ret ?_)
  obtain rfl := Option.some.inj hE
  refine retQ.retF H rfl ⟨rfl, rfl⟩ ?_
  exact (fun _ _ h => h)
 ·have hE := condF hc5 hE
  try dsimp only at hc5
  refine AWp.skip ?_
  refine hK2 _ ?_
  clear hK2 K2
  refine AWp.seqK fun K8 hK8 => ?_
  refine AWp.region ?_
  refine AOps.s0 (Cert.loadV (Try.tab_ok _ _ rfl) rfl rfl rfl) rfl ?_
  obtain ⟨x9, gx9, hE⟩ := bindO_some hE
  refine AOps.s0 (Cert.callP rfl rfl (fun H => r05_wrap_walk gx9 H)) rfl ?_
  refine AOps.sLn (Cert.storeLF (Try.tab_ok _ _ rfl) rfl rfl rfl rfl rfl (by repeat (first | exact SetAt.zero | apply SetAt.succ))) ?_
  refine AOps.nil ?_
  refine hK8 _ ?_
  clear hK8 K8
  refine AWp.ret ?_
  repeat (first | refine xBlock_ret ?_ | refine xThen_ret ?_)
  obtain rfl := Option.some.inj hE
  refine retQ.retF H rfl ⟨rfl, rfl⟩ ?_
  exact (fun _ _ h => h)
def r05_Named (a0 : Bs) : Option TRef := some (TRef.mk a0 (Sl.nil : Sl Int))
set_option maxRecDepth 100000 in
set_option maxHeartbeats 2000000 in
theorem r05_Named_walk {a0 : Bs}   {r : TRef} (hE : r05_Named a0 = some r) (H : Heap)  : ACalls Try.prog 15 [.d (.str a0)] H fun v h' => v = .a (.agg (TRef.c r)) ∧ h' = H := by
 unfold r05_Named at hE
 refine ACalls.of_wp (fn := Try.f15) (c := _) Try.tab_ok (fun _ _ => Try.call15 _ _) Try.func15 rfl (n := 5) rfl (rs := [.cell 2 29]) rfl rfl ?_
 refine AWp.seqK fun K1 hK1 => ?_
 refine AWp.region ?_
 refine AOps.sL (Cert.allocL (Try.tab_ok _ _ rfl) rfl (by repeat (first | exact Snoc.nil | apply Snoc.cons))) rfl ?_
 refine AOps.nil ?_
 refine hK1 _ ?_
 clear hK1 K1
 refine AWp.seqK fun K2 hK2 => ?_
 refine AWp.region ?_
 refine AOps.s0 (Cert.move (by conv => lhs; whnf)) rfl ?_
 refine AOps.s0 (Cert.build Try.tab_ok rfl rfl rfl rfl rfl rfl) rfl ?_
 refine AOps.sLn (Cert.storeLF (Try.tab_ok _ _ rfl) rfl rfl rfl rfl rfl (by repeat (first | exact SetAt.zero | apply SetAt.succ))) ?_
 refine AOps.nil ?_
 refine hK2 _ ?_
 clear hK2 K2
 refine AWp.ret ?_
 repeat (first | refine xBlock_ret ?_ | refine xThen_ret ?_)
 obtain rfl := Option.some.inj hE
 refine retQ.retF H rfl ⟨rfl, rfl⟩ ?_
 exact (fun _ _ h => h)
def law14_small  : Option TDoc := (r05_Named ([73, 110, 116] : Bs)).bind fun x3 => (r05_NonNull x3).bind fun x4 => (r05_Named ([73, 110, 116] : Bs)).bind fun x6 => some (TDoc.mk (⟨false, [(TDef.mk (1 : Int) ([81, 117, 101, 114, 121] : Bs) (Sl.nil : Sl Bs) (Sl.nil : Sl TDir) (⟨false, [(TField.mk ([97] : Bs) (⟨false, [(TInput.mk ([110] : Bs) x4 false TValue.zero (Sl.nil : Sl TDir))]⟩ : Sl TInput) x6 (Sl.nil : Sl TDir))]⟩ : Sl TField) (Sl.nil : Sl TMember) (Sl.nil : Sl TInput)), (TDef.mk (3 : Int) ([85] : Bs) (Sl.nil : Sl Bs) (Sl.nil : Sl TDir) (Sl.nil : Sl TField) (⟨false, [(TMember.mk ([81, 117, 101, 114, 121] : Bs) (Sl.nil : Sl TDir))]⟩ : Sl TMember) (Sl.nil : Sl TInput))]⟩ : Sl TDef))
set_option maxRecDepth 100000 in
set_option maxHeartbeats 2000000 in
theorem law14_small_walk    {r : TDoc} (hE : law14_small  = some r) (H : Heap)  : ACalls Try.prog 13 [] H fun v h' => v = .a (.agg (TDoc.c r)) ∧ h' = H := by
 unfold law14_small at hE
 refine ACalls.of_wp (fn := Try.f13) (c := _) Try.tab_ok (fun _ _ => Try.call13 _ _) Try.func13 rfl (n := 16) rfl (rs := [.cell 0 24]) rfl rfl ?_
 refine AWp.seqK fun K1 hK1 => ?_
 refine AWp.region ?_
 refine AOps.sL (Cert.allocL (Try.tab_ok _ _ rfl) rfl (by repeat (first | exact Snoc.nil | apply Snoc.cons))) rfl ?_
 refine AOps.nil ?_
 refine hK1 _ ?_
 clear hK1 K1
 refine AWp.seqK fun K2 hK2 => ?_
 refine AWp.region ?_
 obtain ⟨x3, gx3, hE⟩ := bindO_some hE
 refine AOps.s0 (Cert.callP rfl rfl (fun H => r05_Named_walk gx3 H)) rfl ?_
 obtain ⟨x4, gx4, hE⟩ := bindO_some hE
 refine AOps.s0 (Cert.callP rfl rfl (fun H => r05_NonNull_walk gx4 H)) rfl ?_
 refine AOps.s0 (Cert.build Try.tab_ok rfl rfl rfl rfl rfl rfl) rfl ?_
 refine AOps.sL (Cert.allocL (Try.tab_ok _ _ rfl) rfl (by repeat (first | exact Snoc.nil | apply Snoc.cons))) rfl ?_
 refine AOps.sLn (Cert.storeLF (Try.tab_ok _ _ rfl) rfl rfl rfl rfl rfl (by repeat (first | exact SetAt.zero | apply SetAt.succ))) ?_
 refine AOps.nil ?_
 refine hK2 _ ?_
 clear hK2 K2
 refine AWp.freeze 1 _ rfl (by repeat (first | exact Snoc.nil | apply Snoc.cons)) (Keeps.c (k := 0) (by conv => lhs; whnf) (by rfl) Keeps.nil) ?_
 refine AWp.seqK fun K5 hK5 => ?_
 refine AWp.draw rfl ?_
 obtain ⟨x6, gx6, hE⟩ := bindO_some hE
 refine DOps.s0 (Cert.callP rfl rfl (fun H => r05_Named_walk gx6 H)) rfl ?_
 refine DOps.s0 (Cert.loadV (Try.tab_ok _ _ rfl) rfl rfl rfl) rfl ?_
 refine DOps.s0 (Cert.buildSlice (Try.tab_ok _ _ rfl) rfl (Try.tab_ok _ _ rfl) rfl rfl rfl rfl rfl rfl) rfl ?_
 refine DOps.s0 (Cert.build Try.tab_ok rfl rfl rfl rfl rfl rfl) rfl ?_
 refine DOps.s0 (Cert.buildSlice (Try.tab_ok _ _ rfl) rfl (Try.tab_ok _ _ rfl) rfl rfl rfl rfl rfl rfl) rfl ?_
 refine DOps.s0 (Cert.build Try.tab_ok rfl rfl rfl rfl rfl rfl) rfl ?_
 refine DOps.s0 (Cert.build Try.tab_ok rfl rfl rfl rfl rfl rfl) rfl ?_
 refine DOps.s0 (Cert.buildSlice (Try.tab_ok _ _ rfl) rfl (Try.tab_ok _ _ rfl) rfl rfl rfl rfl rfl rfl) rfl ?_
 refine DOps.s0 (Cert.build Try.tab_ok rfl rfl rfl rfl rfl rfl) rfl ?_
 refine DOps.s0 (Cert.buildSlice (Try.tab_ok _ _ rfl) rfl (Try.tab_ok _ _ rfl) rfl rfl rfl rfl rfl rfl) rfl ?_
 refine DOps.s0 (Cert.build Try.tab_ok rfl rfl rfl rfl rfl rfl) rfl ?_
 refine DOps.sLn (Cert.storeLF (Try.tab_ok _ _ rfl) rfl rfl rfl rfl rfl (by repeat (first | exact SetAt.zero | apply SetAt.succ))) ?_
 refine DOps.nil (by decide +kernel) ?_
 refine hK5 _ ?_
 clear hK5 K5
 refine AWp.ret ?_
 repeat (first | refine xBlock_ret ?_ | refine xThen_ret ?_)
 obtain rfl := Option.some.inj hE
 refine retQ.retF H rfl ⟨rfl, rfl⟩ ?_
 exact (fun _ _ h => h)
def law14_knows  : Option Bool := (law14_small ).bind fun x5 => (fields_Type x5 ([85] : Bs) ([95, 95, 116, 121, 112, 101, 110, 97, 109, 101] : Bs)).bind fun x6 => (law14_small ).bind fun x8 => (fields_Type x8 ([85] : Bs) ([97] : Bs)).bind fun x9 => (law14_small ).bind fun x11 => (fields_Check x11 (TQuery.mk (⟨false, [(TOp.mk (1 : Int) ([] : Bs) (Sl.nil : Sl TVar) (⟨false, [(TSel.mk (1 : Int) ([] : Bs) ([98] : Bs) ([] : Bs) (Sl.nil : Sl TArg) (Sl.nil : Sl TDir) true ([])), (TSel.mk (1 : Int) ([] : Bs) ([97] : Bs) ([] : Bs) (Sl.nil : Sl TArg) (Sl.nil : Sl TDir) ((⟨false, [(TSel.mk (1 : Int) ([] : Bs) ([99] : Bs) ([] : Bs) (Sl.nil : Sl TArg) (Sl.nil : Sl TDir) true ([]))]⟩ : Sl TSel).nl) ((⟨false, [(TSel.mk (1 : Int) ([] : Bs) ([99] : Bs) ([] : Bs) (Sl.nil : Sl TArg) (Sl.nil : Sl TDir) true ([]))]⟩ : Sl TSel).l))]⟩ : Sl TSel))]⟩ : Sl TOp) (Sl.nil : Sl TFrag))).bind fun x12 => (r10_Faults x12 (⟨false, [(TFault.mk (20 : Int) ([47, 98] : Bs)), (TFault.mk (21 : Int) ([47, 97] : Bs)), (TFault.mk (22 : Int) ([47, 97] : Bs))]⟩ : Sl TFault)).bind fun x13 => guardO ((x13 && x6.2)) (r05_Named ([83, 116, 114, 105, 110, 103] : Bs)) TRef.zero fun x14 => guardO ((x13 && x6.2)) (r05_NonNull x14) TRef.zero fun x15 => guardO ((x13 && x6.2)) (r05_Same x6.1 x15) false fun x16 => some (((x13 && x6.2) && x16) && (!x9.2))
set_option maxRecDepth 100000 in
set_option maxHeartbeats 2000000 in
theorem law14_knows_walk    {r : Bool} (hE : law14_knows  = some r) (H : Heap)  : ACalls Try.prog 6 [] H fun v h' => v = .a (.d (.bool r)) ∧ h' = H := by
 unfold law14_knows at hE
 refine ACalls.of_wp (fn := Try.f6) (c := _) Try.tab_ok (fun _ _ => Try.call6 _ _) Try.func6 rfl (n := 47) rfl (rs := [.tmp 0]) rfl rfl ?_
 refine AWp.seqK fun K1 hK1 => ?_
 refine AWp.region ?_
 refine AOps.s0 (Cert.assign (by conv => lhs; whnf)) rfl ?_
 refine AOps.nil ?_
 refine hK1 _ ?_
 clear hK1 K1
 refine AWp.seqK fun K2 hK2 => ?_
 refine AWp.region ?_
 refine AOps.s0 (Cert.build Try.tab_ok rfl rfl rfl rfl rfl rfl) rfl ?_
 refine AOps.s0 (Cert.build Try.tab_ok rfl rfl rfl rfl rfl rfl) rfl ?_
 refine AOps.s0 (Cert.buildSlice (Try.tab_ok _ _ rfl) rfl (Try.tab_ok _ _ rfl) rfl rfl rfl rfl rfl rfl) rfl ?_
 refine AOps.s0 (Cert.build Try.tab_ok rfl rfl rfl rfl rfl rfl) rfl ?_
 refine AOps.s0 (Cert.buildSlice (Try.tab_ok _ _ rfl) rfl (Try.tab_ok _ _ rfl) rfl rfl rfl rfl rfl rfl) rfl ?_
 refine AOps.s0 (Cert.build Try.tab_ok rfl rfl rfl rfl rfl rfl) rfl ?_
 refine AOps.s0 (Cert.buildSlice (Try.tab_ok _ _ rfl) rfl (Try.tab_ok _ _ rfl) rfl rfl rfl rfl rfl rfl) rfl ?_
 refine AOps.s0 (Cert.build Try.tab_ok rfl rfl rfl rfl rfl rfl) rfl ?_
 refine AOps.sL (Cert.allocL (Try.tab_ok _ _ rfl) rfl (by repeat (first | exact Snoc.nil | apply Snoc.cons))) rfl ?_
 refine AOps.sLn (Cert.storeLF (Try.tab_ok _ _ rfl) rfl rfl rfl rfl rfl (by repeat (first | exact SetAt.zero | apply SetAt.succ))) ?_
 refine AOps.nil ?_
 refine hK2 _ ?_
 clear hK2 K2
 refine AWp.freeze 1 _ rfl (by repeat (first | exact Snoc.nil | apply Snoc.cons)) Keeps.nil ?_
 refine AWp.seqK fun K3 hK3 => ?_
 refine AWp.region ?_
 refine AOps.s0 (Cert.build Try.tab_ok rfl rfl rfl rfl rfl rfl) rfl ?_
 refine AOps.s0 (Cert.build Try.tab_ok rfl rfl rfl rfl rfl rfl) rfl ?_
 refine AOps.s0 (Cert.build Try.tab_ok rfl rfl rfl rfl rfl rfl) rfl ?_
 refine AOps.s0 (Cert.buildSlice (Try.tab_ok _ _ rfl) rfl (Try.tab_ok _ _ rfl) rfl rfl rfl rfl rfl rfl) rfl ?_
 refine AOps.s0 (Cert.assign (by conv => lhs; whnf)) rfl ?_
 refine AOps.nil ?_
 refine hK3 _ ?_
 clear hK3 K3
 refine AWp.seqK fun K4 hK4 => ?_
 refine AWp.region ?_
 obtain ⟨x5, gx5, hE⟩ := bindO_some hE
 refine AOps.s0 (Cert.callP rfl rfl (fun H => law14_small_walk gx5 H)) rfl ?_
 obtain ⟨x6, gx6, hE⟩ := bindO_some hE
 refine AOps.s0 (Cert.callP rfl rfl (fun H => fields_Type_walk gx6 H)) rfl ?_
 refine AOps.s0 (Cert.move (by conv => lhs; whnf)) rfl ?_
 refine AOps.s0 (Cert.extract rfl rfl) rfl ?_
 refine AOps.s0 (Cert.extract rfl rfl) rfl ?_
 refine AOps.sL (Cert.allocL (Try.tab_ok _ _ rfl) rfl (by repeat (first | exact Snoc.nil | apply Snoc.cons))) rfl ?_
 refine AOps.sLn (Cert.storeLF (Try.tab_ok _ _ rfl) rfl rfl rfl rfl rfl (by repeat (first | exact SetAt.zero | apply SetAt.succ))) ?_
 refine AOps.s0 (Cert.assign (by conv => lhs; whnf)) rfl ?_
 refine AOps.nil ?_
 refine hK4 _ ?_
 clear hK4 K4
 refine AWp.freeze 3 _ rfl (by repeat (first | exact Snoc.nil | apply Snoc.cons)) (Keeps.c (k := 1) (by conv => lhs; whnf) (by rfl) (Keeps.c (k := 2) (by conv => lhs; whnf) (by rfl) (Keeps.c (k := 4) (by conv => lhs; whnf) (by rfl) Keeps.nil))) ?_
 refine AWp.seqK fun K7 hK7 => ?_
 refine AWp.region ?_
 obtain ⟨x8, gx8, hE⟩ := bindO_some hE
 refine AOps.s0 (Cert.callP rfl rfl (fun H => law14_small_walk gx8 H)) rfl ?_
 obtain ⟨x9, gx9, hE⟩ := bindO_some hE
 refine AOps.s0 (Cert.callP rfl rfl (fun H => fields_Type_walk gx9 H)) rfl ?_
 refine AOps.s0 (Cert.move (by conv => lhs; whnf)) rfl ?_
 refine AOps.s0 (Cert.extract rfl rfl) rfl ?_
 refine AOps.s0 (Cert.extract rfl rfl) rfl ?_
 refine AOps.sL (Cert.allocL (Try.tab_ok _ _ rfl) rfl (by repeat (first | exact Snoc.nil | apply Snoc.cons))) rfl ?_
 refine AOps.sLn (Cert.storeLF (Try.tab_ok _ _ rfl) rfl rfl rfl rfl rfl (by repeat (first | exact SetAt.zero | apply SetAt.succ))) ?_
 refine AOps.s0 (Cert.assign (by conv => lhs; whnf)) rfl ?_
 refine AOps.nil ?_
 refine hK7 _ ?_
 clear hK7 K7
 refine AWp.freeze 5 _ rfl (by repeat (first | exact Snoc.nil | apply Snoc.cons)) (Keeps.c (k := 1) (by conv => lhs; whnf) (by rfl) (Keeps.c (k := 2) (by conv => lhs; whnf) (by rfl) (Keeps.c (k := 3) (by conv => lhs; whnf) (by rfl) (Keeps.c (k := 4) (by conv => lhs; whnf) (by rfl) (Keeps.c (k := 6) (by conv => lhs; whnf) (by rfl) Keeps.nil))))) ?_
 refine AWp.seqK fun K10 hK10 => ?_
 refine AWp.draw rfl ?_
 obtain ⟨x11, gx11, hE⟩ := bindO_some hE
 refine DOps.s0 (Cert.callP rfl rfl (fun H => law14_small_walk gx11 H)) rfl ?_
 refine DOps.s0 (Cert.loadV (Try.tab_ok _ _ rfl) rfl rfl rfl) rfl ?_
 obtain ⟨x12, gx12, hE⟩ := bindO_some hE
 refine DOps.s0 (Cert.callP rfl rfl (fun H => fields_Check_walk gx12 H)) rfl ?_
 refine DOps.s0 (Cert.move (by conv => lhs; whnf)) rfl ?_
 obtain ⟨x13, gx13, hE⟩ := bindO_some hE
 refine DOps.s0 (Cert.callP rfl rfl (fun H => r10_Faults_walk gx13 H)) rfl ?_
 refine DOps.s0 (Cert.move (by conv => lhs; whnf)) rfl ?_
 refine DOps.gC rfl rfl (fun hC => Cert.move (by conv => lhs; whnf)) rfl ?_
 refine DOps.s0 (Cert.pickAnd rfl rfl (fun h => by first | exact h | exact notT h | exact andI hC h | exact andI hC (notT h) | simp_all) rfl) rfl ?_
 refine DOps.s0 (Cert.move (by conv => lhs; whnf)) rfl ?_
 refine DOps.gC rfl rfl (fun hC => Cert.loadV (Try.tab_ok _ _ rfl) rfl rfl rfl) rfl ?_
 obtain ⟨x14, gx14, hE⟩ := guardO_some hE
 refine DOps.gC rfl rfl (fun hC => Cert.callP rfl rfl (fun H => r05_Named_walk (gx14 hC) H)) rfl ?_
 obtain ⟨x15, gx15, hE⟩ := guardO_some hE
 refine DOps.gC rfl rfl (fun hC => Cert.ungd (k := 39) rfl (by first | exact hC | exact andL hC | exact andL (andL hC) | exact andL (andL (andL hC)) | exact andR hC | simp_all) (Cert.callP rfl rfl (fun H => r05_NonNull_walk (gx15 hC) H))) rfl ?_
 obtain ⟨x16, gx16, hE⟩ := guardO_some hE
 refine DOps.gC rfl rfl (fun hC => Cert.ungd (k := 38) rfl (by first | exact hC | exact andL hC | exact andL (andL hC) | exact andL (andL (andL hC)) | exact andR hC | simp_all) (Cert.ungd (k := 40) rfl (by first | exact hC | exact andL hC | exact andL (andL hC) | exact andL (andL (andL hC)) | exact andR hC | simp_all) (Cert.callP rfl rfl (fun H => r05_Same_walk (gx16 hC) H)))) rfl ?_
 refine DOps.s0 (Cert.pickAnd rfl rfl (fun h => by first | exact h | exact notT h | exact andI hC h | exact andI hC (notT h) | simp_all) rfl) rfl ?_
 refine DOps.s0 (Cert.move (by conv => lhs; whnf)) rfl ?_
 refine DOps.gC rfl rfl (fun hC => Cert.move (by conv => lhs; whnf)) rfl ?_
 refine DOps.gC rfl rfl (fun hC => Cert.ungd (k := 44) rfl (by first | exact hC | exact andL hC | exact andL (andL hC) | exact andL (andL (andL hC)) | exact andR hC | simp_all) (Cert.notB rfl)) rfl ?_
 refine DOps.s0 (Cert.pickAnd rfl rfl (fun h => by first | exact h | exact notT h | exact andI hC h | exact andI hC (notT h) | simp_all) rfl) rfl ?_
 refine DOps.s0 (Cert.assign (by conv => lhs; whnf)) rfl ?_
 refine DOps.nil (by decide +kernel) ?_
 refine hK10 _ ?_
 clear hK10 K10
 refine AWp.ret ?_
 repeat (first | refine xBlock_ret ?_ | refine xThen_ret ?_)
 obtain rfl := Option.some.inj hE
 refine retQ.retF H rfl ⟨rfl, rfl⟩ ?_
 exact (fun _ _ h => h)
def r10_Large_j8 (a0 : TDoc)  (s3_9 : Int) : Option Bool := some (decide ((1000 : Int) < s3_9))
def r10_Large_j19 (a0 : TDoc) (n12 : Nat) (s3_13 : Int) (s4_14 : Nat) (k_next_12 : Int → Nat → Option Bool) (s3_20 : Int) : Option Bool := k_next_12 s3_20 (s4_14 + 1)
def r10_Large_l36 (a0 : TDoc) (n12 : Nat) (s3_13 : Int) (s4_14 : Nat) (x22 : TDef) (x25 : Int) (x27 : Int) (x29 : Int) (x31 : Int) (x33 : Int) (x34 : Int) (k_next_12 : Int → Nat → Option Bool) : Nat → Int → Nat → Option Bool
 | 0, _, _ => none
 | n36 + 1, s3_37, s6_38 => bif (decide (((s6_38 : Nat) : Int) < ((x22.FFields.l.length : Nat) : Int))) then ((x22.FFields.l[s6_38]?).bind fun x44 => (x22.FFields.l[s6_38]?).bind fun x45 => (addC ((x44.FArgs.l.length : Nat) : Int) ((x45.FDirs.l.length : Nat) : Int)).bind fun x46 => (addC s3_37 x46).bind fun x47 => (r10_Large_l36 a0 n12 s3_13 s4_14 x22 x25 x27 x29 x31 x33 x34 k_next_12 n36) x47 (s6_38 + 1)) else (r10_Large_j19 a0 n12 s3_13 s4_14 k_next_12 s3_37)
def r10_Large_l12 (a0 : TDoc)  : Nat → Int → Nat → Option Bool
 | 0, _, _ => none
 | n12 + 1, s3_13, s4_14 => bif (decide (((s4_14 : Nat) : Int) < ((a0.FDefs.l.length : Nat) : Int))) then ((a0.FDefs.l[s4_14]?).bind fun x22 => (addC (1 : Int) ((x22.FFields.l.length : Nat) : Int)).bind fun x25 => (addC x25 ((x22.FMembers.l.length : Nat) : Int)).bind fun x27 => (addC x27 ((x22.FInputs.l.length : Nat) : Int)).bind fun x29 => (addC x29 ((x22.FDirs.l.length : Nat) : Int)).bind fun x31 => (addC x31 ((x22.FImplements.l.length : Nat) : Int)).bind fun x33 => (addC s3_13 x33).bind fun x34 => r10_Large_l36 a0 n12 s3_13 s4_14 x22 x25 x27 x29 x31 x33 x34 ((r10_Large_l12 a0 n12)) (x22.FFields.l.length + 1) x34 0) else (r10_Large_j8 a0  s3_13)
def r10_Large (a0 : TDoc) : Option Bool := bif (decide ((70 : Int) < ((a0.FDefs.l.length : Nat) : Int))) then (some true) else (r10_Large_l12 a0 (a0.FDefs.l.length + 1) (0 : Int) 0)
set_option maxRecDepth 100000 in
set_option maxHeartbeats 2000000 in
theorem r10_Large_walk {a0 : TDoc}   {r : Bool} (hE : r10_Large a0 = some r) (H : Heap)  : ACalls Try.prog 5 [.agg (TDoc.c a0)] H fun v h' => v = .a (.d (.bool r)) ∧ h' = H := by
 unfold r10_Large at hE
 refine ACalls.of_wp (fn := Try.f5) (c := _) Try.tab_ok (fun _ _ => Try.call5 _ _) Try.func5 rfl (n := 71) rfl (rs := [.tmp 2]) rfl rfl ?_
 refine AWp.seqK fun K1 hK1 => ?_
 refine AWp.region ?_
 refine AOps.s0 (Cert.boxV rfl) rfl ?_
 refine AOps.s0 (Cert.assign (by conv => lhs; whnf)) rfl ?_
 refine AOps.nil ?_
 refine hK1 _ ?_
 clear hK1 K1
 refine AWp.seqK fun K2 hK2 => ?_
 refine AWp.seqK fun K3 hK3 => ?_
 refine AWp.region ?_
 refine AOps.s0 (Cert.fieldV (Try.tab_ok _ _ rfl) rfl rfl (Try.tab_ok _ _ rfl) rfl rfl (by conv => lhs; whnf)) rfl ?_
 refine AOps.s0 (Cert.loadV (Try.tab_ok _ _ rfl) rfl rfl rfl) rfl ?_
 refine AOps.sLen (f := TDef.c) (s := a0.FDefs) (Try.tab_ok _ _ rfl) rfl rfl rfl rfl fun hL4 => ?_
 refine AOps.s0 (Cert.binI rfl rfl rfl) rfl ?_
 refine AOps.nil ?_
 refine hK3 _ ?_
 clear hK3 K3
 refine AWp.cond rfl (fun hc5 => ?_) (fun hc5 => ?_)
 ·have hE := condT hc5 hE
  try dsimp only at hc5
  refine AWp.seqK fun K6 hK6 => ?_
  refine AWp.region ?_
  refine AOps.s0 (Cert.assign (by conv => lhs; whnf)) rfl ?_
  refine AOps.nil ?_
  refine hK6 _ ?_
  clear hK6 K6
  refine AWp.ret ?_
  repeat (first | refine xBlock_ret ?_ | refine xThen_ret ?_)
  obtain rfl := Option.some.inj hE
  refine retQ.retF H rfl ⟨rfl, rfl⟩ ?_
  exact (fun _ _ h => h)
 ·have hE := condF hc5 hE
  try dsimp only at hc5
  refine AWp.skip ?_
  refine hK2 _ ?_
  clear hK2 K2
  refine AWp.seqK fun K7 hK7 => ?_
  refine AWp.region ?_
  refine AOps.s0 (Cert.assign (by conv => lhs; whnf)) rfl ?_
  refine AOps.nil ?_
  refine hK7 _ ?_
  clear hK7 K7
  refine AWp.seqJH KeepsT.nil (fun (z : Int) => [(3, .a (.d (.int .i64 z)))]) (fun z => H) (fun z => r10_Large_j8 a0 z = some r) ?_ ?_
  ·intro K8 hK8
   refine AWp.seqK fun K11 hK11 => ?_
   refine AWp.region ?_
   refine AOps.s0 (Cert.assign (by conv => lhs; whnf)) rfl ?_
   refine AOps.nil ?_
   refine hK11 _ ?_
   clear hK11 K11
   refine AWp.block ?_
   refine AWp.loopH (KeepsT.cons (k := 1) (by conv => lhs; whnf) KeepsT.nil) (fun (z : Nat × Int × Nat) => [(3, .a (.d (.int .i64 z.2.1))), (4, .a (.d (.int .i64 ((z.2.2 : Nat) : Int))))]) (fun z => H) (fun z => z.1) (fun z => r10_Large_l12 a0 z.1 z.2.1 z.2.2 = some r) ((a0.FDefs.l.length + 1), (0 : Int), 0) hE Weak.toA ?_
   rintro ⟨n12, s3_13, s4_14⟩ hE K12 hK12
   try dsimp only at hE
   cases n12 with
   | zero => cases hE
   | succ n12 =>
     rw [r10_Large_l12] at hE
     refine AWp.seqK fun K15 hK15 => ?_
     refine AWp.seqK fun K16 hK16 => ?_
     refine AWp.region ?_
     refine AOps.s0 (Cert.move (by conv => lhs; whnf)) rfl ?_
     refine AOps.s0 (Cert.fieldV (Try.tab_ok _ _ rfl) rfl rfl (Try.tab_ok _ _ rfl) rfl rfl (by conv => lhs; whnf)) rfl ?_
     refine AOps.s0 (Cert.loadV (Try.tab_ok _ _ rfl) rfl rfl rfl) rfl ?_
     refine AOps.sLen (f := TDef.c) (s := a0.FDefs) (Try.tab_ok _ _ rfl) rfl rfl rfl rfl fun hL17 => ?_
     refine AOps.s0 (Cert.binI rfl rfl rfl) rfl ?_
     refine AOps.nil ?_
     refine hK16 _ ?_
     clear hK16 K16
     refine AWp.cond rfl (fun hc18 => ?_) (fun hc18 => ?_)
     ·have hE := condT hc18 hE
      try dsimp only at hc18
      have hf18 := of_decide_eq_true hc18
      refine AWp.skip ?_
      refine hK15 _ ?_
      clear hK15 K15
      refine AWp.seqJH (KeepsT.cons (k := 1) (by conv => lhs; whnf) (KeepsT.cons (k := 4) (by conv => lhs; whnf) KeepsT.nil)) (fun (z : Int) => [(3, .a (.d (.int .i64 z)))]) (fun z => H) (fun z => r10_Large_j19 a0 n12 s3_13 s4_14 ((r10_Large_l12 a0 n12)) z = some r) ?_ ?_
      ·intro K19 hK19
       refine AWp.block ?_
       refine AWp.seqK fun K21 hK21 => ?_
       refine AWp.region ?_
       refine AOps.s0 (Cert.fieldV (Try.tab_ok _ _ rfl) rfl rfl (Try.tab_ok _ _ rfl) rfl rfl (by conv => lhs; whnf)) rfl ?_
       refine AOps.s0 (Cert.loadV (Try.tab_ok _ _ rfl) rfl rfl rfl) rfl ?_
       refine AOps.s0 (Cert.move (by conv => lhs; whnf)) rfl ?_
       obtain ⟨x22, gx22, hE⟩ := bindO_some hE
       refine AOps.s0 (Cert.idxMn (f := TDef.c) (n := s4_14) (Try.tab_ok _ _ rfl) rfl (Try.tab_ok _ _ rfl) rfl rfl rfl gx22) rfl ?_
       refine AOps.s0 (Cert.loadV (Try.tab_ok _ _ rfl) rfl rfl rfl) rfl ?_
       refine AOps.sL (Cert.allocL (Try.tab_ok _ _ rfl) rfl (by repeat (first | exact Snoc.nil | apply Snoc.cons))) rfl ?_
       refine AOps.sLn (Cert.storeLF (Try.tab_ok _ _ rfl) rfl rfl rfl rfl rfl (by repeat (first | exact SetAt.zero | apply SetAt.succ))) ?_
       refine AOps.nil ?_
       refine hK21 _ ?_
       clear hK21 K21
       refine AWp.freeze 5 _ rfl (by repeat (first | exact Snoc.nil | apply Snoc.cons)) (Keeps.c (k := 1) (by conv => lhs; whnf) (by rfl) (Keeps.c (k := 3) (by conv => lhs; whnf) (by rfl) (Keeps.c (k := 4) (by conv => lhs; whnf) (by rfl) Keeps.nil))) ?_
       refine AWp.seqK fun K23 hK23 => ?_
       refine AWp.region ?_
       refine AOps.s0 (Cert.move (by conv => lhs; whnf)) rfl ?_
       refine AOps.s0 (Cert.fieldV (Try.tab_ok _ _ rfl) rfl rfl (Try.tab_ok _ _ rfl) rfl rfl (by conv => lhs; whnf)) rfl ?_
       refine AOps.s0 (Cert.loadV (Try.tab_ok _ _ rfl) rfl rfl rfl) rfl ?_
       refine AOps.sLen (f := TField.c) (s := x22.FFields) (Try.tab_ok _ _ rfl) rfl rfl rfl rfl fun hL24 => ?_
       obtain ⟨x25, gx25, hE⟩ := bindO_some hE
       refine AOps.s0 (Cert.addM rfl rfl gx25) rfl ?_
       refine AOps.s0 (Cert.fieldV (Try.tab_ok _ _ rfl) rfl rfl (Try.tab_ok _ _ rfl) rfl rfl (by conv => lhs; whnf)) rfl ?_
       refine AOps.s0 (Cert.loadV (Try.tab_ok _ _ rfl) rfl rfl rfl) rfl ?_
       refine AOps.sLen (f := TMember.c) (s := x22.FMembers) (Try.tab_ok _ _ rfl) rfl rfl rfl rfl fun hL26 => ?_
       obtain ⟨x27, gx27, hE⟩ := bindO_some hE
       refine AOps.s0 (Cert.addM rfl rfl gx27) rfl ?_
       refine AOps.s0 (Cert.fieldV (Try.tab_ok _ _ rfl) rfl rfl (Try.tab_ok _ _ rfl) rfl rfl (by conv => lhs; whnf)) rfl ?_
       refine AOps.s0 (Cert.loadV (Try.tab_ok _ _ rfl) rfl rfl rfl) rfl ?_
       refine AOps.sLen (f := TInput.c) (s := x22.FInputs) (Try.tab_ok _ _ rfl) rfl rfl rfl rfl fun hL28 => ?_
       obtain ⟨x29, gx29, hE⟩ := bindO_some hE
       refine AOps.s0 (Cert.addM rfl rfl gx29) rfl ?_
       refine AOps.s0 (Cert.fieldV (Try.tab_ok _ _ rfl) rfl rfl (Try.tab_ok _ _ rfl) rfl rfl (by conv => lhs; whnf)) rfl ?_
       refine AOps.s0 (Cert.loadV (Try.tab_ok _ _ rfl) rfl rfl rfl) rfl ?_
       refine AOps.sLen (f := TDir.c) (s := x22.FDirs) (Try.tab_ok _ _ rfl) rfl rfl rfl rfl fun hL30 => ?_
       obtain ⟨x31, gx31, hE⟩ := bindO_some hE
       refine AOps.s0 (Cert.addM rfl rfl gx31) rfl ?_
       refine AOps.s0 (Cert.fieldV (Try.tab_ok _ _ rfl) rfl rfl (Try.tab_ok _ _ rfl) rfl rfl (by conv => lhs; whnf)) rfl ?_
       refine AOps.s0 (Cert.loadV (Try.tab_ok _ _ rfl) rfl rfl rfl) rfl ?_
       refine AOps.sLen (f := strE) (s := x22.FImplements) (Try.tab_ok _ _ rfl) rfl rfl rfl rfl fun hL32 => ?_
       obtain ⟨x33, gx33, hE⟩ := bindO_some hE
       refine AOps.s0 (Cert.addM rfl rfl gx33) rfl ?_
       obtain ⟨x34, gx34, hE⟩ := bindO_some hE
       refine AOps.s0 (Cert.addM rfl rfl gx34) rfl ?_
       refine AOps.s0 (Cert.assign (by conv => lhs; whnf)) rfl ?_
       refine AOps.nil ?_
       refine hK23 _ ?_
       clear hK23 K23
       refine AWp.seqK fun K35 hK35 => ?_
       refine AWp.region ?_
       refine AOps.s0 (Cert.assign (by conv => lhs; whnf)) rfl ?_
       refine AOps.nil ?_
       refine hK35 _ ?_
       clear hK35 K35
       refine AWp.block ?_
       refine AWp.loopH (KeepsT.cons (k := 1) (by conv => lhs; whnf) (KeepsT.cons (k := 4) (by conv => lhs; whnf) (KeepsT.cons (k := 5) (by conv => lhs; whnf) KeepsT.nil))) (fun (z : Nat × Int × Nat) => [(3, .a (.d (.int .i64 z.2.1))), (6, .a (.d (.int .i64 ((z.2.2 : Nat) : Int))))]) (fun z => H) (fun z => z.1) (fun z => r10_Large_l36 a0 n12 s3_13 s4_14 x22 x25 x27 x29 x31 x33 x34 ((r10_Large_l12 a0 n12)) z.1 z.2.1 z.2.2 = some r) ((x22.FFields.l.length + 1), x34, 0) hE Weak.toA ?_
       rintro ⟨n36, s3_37, s6_38⟩ hE K36 hK36
       try dsimp only at hE
       cases n36 with
       | zero => cases hE
       | succ n36 =>
         rw [r10_Large_l36] at hE
         refine AWp.seqK fun K39 hK39 => ?_
         refine AWp.seqK fun K40 hK40 => ?_
         refine AWp.region ?_
         refine AOps.s0 (Cert.move (by conv => lhs; whnf)) rfl ?_
         refine AOps.s0 (Cert.fieldV (Try.tab_ok _ _ rfl) rfl rfl (Try.tab_ok _ _ rfl) rfl rfl (by conv => lhs; whnf)) rfl ?_
         refine AOps.s0 (Cert.loadV (Try.tab_ok _ _ rfl) rfl rfl rfl) rfl ?_
         refine AOps.sLen (f := TField.c) (s := x22.FFields) (Try.tab_ok _ _ rfl) rfl rfl rfl rfl fun hL41 => ?_
         refine AOps.s0 (Cert.binI rfl rfl rfl) rfl ?_
         refine AOps.nil ?_
         refine hK40 _ ?_
         clear hK40 K40
         refine AWp.cond rfl (fun hc42 => ?_) (fun hc42 => ?_)
         ·have hE := condT hc42 hE
          try dsimp only at hc42
          have hf42 := of_decide_eq_true hc42
          refine AWp.skip ?_
          refine hK39 _ ?_
          clear hK39 K39
          refine AWp.seqK fun K43 hK43 => ?_
          refine AWp.block ?_
          refine AWp.draw rfl ?_
          refine DOps.s0 (Cert.move (by conv => lhs; whnf)) rfl ?_
          refine DOps.s0 (Cert.fieldV (Try.tab_ok _ _ rfl) rfl rfl (Try.tab_ok _ _ rfl) rfl rfl (by conv => lhs; whnf)) rfl ?_
          refine DOps.s0 (Cert.loadV (Try.tab_ok _ _ rfl) rfl rfl rfl) rfl ?_
          refine DOps.s0 (Cert.move (by conv => lhs; whnf)) rfl ?_
          obtain ⟨x44, gx44, hE⟩ := bindO_some hE
          refine DOps.s0 (Cert.idxMn (f := TField.c) (n := s6_38) (Try.tab_ok _ _ rfl) rfl (Try.tab_ok _ _ rfl) rfl rfl rfl gx44) rfl ?_
          refine DOps.s0 (Cert.fieldV (Try.tab_ok _ _ rfl) rfl rfl (Try.tab_ok _ _ rfl) rfl rfl (by conv => lhs; whnf)) rfl ?_
          refine DOps.s0 (Cert.loadV (Try.tab_ok _ _ rfl) rfl rfl rfl) rfl ?_
          refine DOps.s0 (Cert.lenM' (f := TInput.c) (s := x44.FArgs) (Try.tab_ok _ _ rfl) rfl rfl rfl) rfl ?_
          refine DOps.s0 (Cert.fieldV (Try.tab_ok _ _ rfl) rfl rfl (Try.tab_ok _ _ rfl) rfl rfl (by conv => lhs; whnf)) rfl ?_
          refine DOps.s0 (Cert.loadV (Try.tab_ok _ _ rfl) rfl rfl rfl) rfl ?_
          refine DOps.s0 (Cert.move (by conv => lhs; whnf)) rfl ?_
          obtain ⟨x45, gx45, hE⟩ := bindO_some hE
          refine DOps.s0 (Cert.idxMn (f := TField.c) (n := s6_38) (Try.tab_ok _ _ rfl) rfl (Try.tab_ok _ _ rfl) rfl rfl rfl gx45) rfl ?_
          refine DOps.s0 (Cert.fieldV (Try.tab_ok _ _ rfl) rfl rfl (Try.tab_ok _ _ rfl) rfl rfl (by conv => lhs; whnf)) rfl ?_
          refine DOps.s0 (Cert.loadV (Try.tab_ok _ _ rfl) rfl rfl rfl) rfl ?_
          refine DOps.s0 (Cert.lenM' (f := TDir.c) (s := x45.FDirs) (Try.tab_ok _ _ rfl) rfl rfl rfl) rfl ?_
          obtain ⟨x46, gx46, hE⟩ := bindO_some hE
          refine DOps.s0 (Cert.addM rfl rfl gx46) rfl ?_
          obtain ⟨x47, gx47, hE⟩ := bindO_some hE
          refine DOps.s0 (Cert.addM rfl rfl gx47) rfl ?_
          refine DOps.s0 (Cert.assign (by conv => lhs; whnf)) rfl ?_
          refine DOps.nil (by decide +kernel) ?_
          refine hK43 _ ?_
          clear hK43 K43
          refine AWp.region ?_
          refine AOps.s0 (Cert.move (by conv => lhs; whnf)) rfl ?_
          refine AOps.s0 (Cert.addI rfl rfl (by first | omega | (dsimp only; omega)) (by first | omega | (dsimp only; omega))) rfl ?_
          refine AOps.s0 (Cert.assign (by conv => lhs; whnf)) rfl ?_
          refine AOps.nil ?_
          exact hK36 _ (n36, x47, (s6_38 + 1)) Weak.toA hE (Nat.lt_succ_self _)
         ·have hE := condF hc42 hE
          try dsimp only at hc42
          refine AWp.exit ?_
          exact hK19 _ s3_37 Weak.toA hE
      ·rintro s3_20 hE
       try dsimp only at hE
       unfold r10_Large_j19 at hE
       refine AWp.region ?_
       refine AOps.s0 (Cert.move (by conv => lhs; whnf)) rfl ?_
       refine AOps.s0 (Cert.addI rfl rfl (by first | omega | (dsimp only; omega)) (by first | omega | (dsimp only; omega))) rfl ?_
       refine AOps.s0 (Cert.assign (by conv => lhs; whnf)) rfl ?_
       refine AOps.nil ?_
       exact hK12 _ (n12, s3_20, (s4_14 + 1)) Weak.toA hE (Nat.lt_succ_self _)
     ·have hE := condF hc18 hE
      try dsimp only at hc18
      refine AWp.exit ?_
      exact hK8 _ s3_13 Weak.toA hE
  ·rintro s3_9 hE
   try dsimp only at hE
   unfold r10_Large_j8 at hE
   refine AWp.seqK fun K10 hK10 => ?_
   refine AWp.region ?_
   refine AOps.s0 (Cert.move (by conv => lhs; whnf)) rfl ?_
   refine AOps.s0 (Cert.binI rfl rfl rfl) rfl ?_
   refine AOps.s0 (Cert.assign (by conv => lhs; whnf)) rfl ?_
   refine AOps.nil ?_
   refine hK10 _ ?_
   clear hK10 K10
   refine AWp.ret ?_
   repeat (first | refine xBlock_ret ?_ | refine xThen_ret ?_)
   obtain rfl := Option.some.inj hE
   refine retQ.retF H rfl ⟨rfl, rfl⟩ ?_
   exact (fun _ _ h => h)
def r02_Size_j3 (a0 : TValue)  (s3_4 : Int) : Option Int := some s3_4
def r02_Size_l7 (a0 : TValue) (k_rec_47 : TValue → Option Int) : Nat → Int → Nat → Option Int
 | 0, _, _ => none
 | n7 + 1, s3_8, s4_9 => bif (decide (((s4_9 : Nat) : Int) < ((a0.FItems.l.length : Nat) : Int))) then ((a0.FItems.l[s4_9]?).bind fun x15 => (k_rec_47 x15).bind fun x16 => (addC s3_8 x16).bind fun x17 => (r02_Size_l7 a0 k_rec_47 n7) x17 (s4_9 + 1)) else (r02_Size_j3 a0  s3_8)
def r02_Size_n : Nat → TValue → Option Int
 | 0, _ => none
 | n + 1, a0 => r02_Size_l7 a0 (r02_Size_n n) (a0.FItems.l.length + 1) (1 : Int) 0
set_option maxRecDepth 100000 in
set_option maxHeartbeats 2000000 in
theorem r02_Size_step (n : Nat) (ih_47 : ∀ {a0 : TValue}   {r : Int}, r02_Size_n n a0 = some r → ∀ (H : Heap), ACalls Try.prog 47 [.agg (TValue.c a0)] H fun v h' => v = .a (.d (.int .i64 r)) ∧ h' = H) : ∀ {a0 : TValue}   {r : Int}, r02_Size_n (n + 1) a0 = some r → ∀ (H : Heap), ACalls Try.prog 47 [.agg (TValue.c a0)] H fun v h' => v = .a (.d (.int .i64 r)) ∧ h' = H := by
 intro a0   r hE H 
 rw [r02_Size_n] at hE
 refine ACalls.of_wp (fn := Try.f47) (c := _) Try.tab_ok (fun _ _ => Try.call47 _ _) Try.func47 rfl (n := 21) rfl (rs := [.tmp 2]) rfl rfl ?_
 refine AWp.seqK fun K1 hK1 => ?_
 refine AWp.region ?_
 refine AOps.s0 (Cert.boxV rfl) rfl ?_
 refine AOps.s0 (Cert.assign (by conv => lhs; whnf)) rfl ?_
 refine AOps.nil ?_
 refine hK1 _ ?_
 clear hK1 K1
 refine AWp.seqK fun K2 hK2 => ?_
 refine AWp.region ?_
 refine AOps.s0 (Cert.assign (by conv => lhs; whnf)) rfl ?_
 refine AOps.nil ?_
 refine hK2 _ ?_
 clear hK2 K2
 refine AWp.seqJH KeepsT.nil (fun (z : Int) => [(3, .a (.d (.int .i64 z)))]) (fun z => H) (fun z => r02_Size_j3 a0 z = some r) ?_ ?_
 ·intro K3 hK3
  refine AWp.seqK fun K6 hK6 => ?_
  refine AWp.region ?_
  refine AOps.s0 (Cert.assign (by conv => lhs; whnf)) rfl ?_
  refine AOps.nil ?_
  refine hK6 _ ?_
  clear hK6 K6
  refine AWp.block ?_
  refine AWp.loopH (KeepsT.cons (k := 1) (by conv => lhs; whnf) KeepsT.nil) (fun (z : Nat × Int × Nat) => [(3, .a (.d (.int .i64 z.2.1))), (4, .a (.d (.int .i64 ((z.2.2 : Nat) : Int))))]) (fun z => H) (fun z => z.1) (fun z => r02_Size_l7 a0 (r02_Size_n n) z.1 z.2.1 z.2.2 = some r) ((a0.FItems.l.length + 1), (1 : Int), 0) hE Weak.toA ?_
  rintro ⟨n7, s3_8, s4_9⟩ hE K7 hK7
  try dsimp only at hE
  cases n7 with
  | zero => cases hE
  | succ n7 =>
    rw [r02_Size_l7] at hE
    refine AWp.seqK fun K10 hK10 => ?_
    refine AWp.seqK fun K11 hK11 => ?_
    refine AWp.region ?_
    refine AOps.s0 (Cert.move (by conv => lhs; whnf)) rfl ?_
    refine AOps.s0 (Cert.fieldV (Try.tab_ok _ _ rfl) rfl rfl (Try.tab_ok _ _ rfl) rfl rfl (by conv => lhs; whnf)) rfl ?_
    refine AOps.s0 (Cert.loadV (Try.tab_ok _ _ rfl) rfl rfl (congrArg (fun x => some (A.d x)) (TValue.FItemsD_eq _))) rfl ?_
    refine AOps.sLen (f := TValue.c) (s := a0.FItems) (Try.tab_ok _ _ rfl) rfl rfl rfl rfl fun hL12 => ?_
    refine AOps.s0 (Cert.binI rfl rfl rfl) rfl ?_
    refine AOps.nil ?_
    refine hK11 _ ?_
    clear hK11 K11
    refine AWp.cond rfl (fun hc13 => ?_) (fun hc13 => ?_)
    ·have hE := condT hc13 hE
     try dsimp only at hc13
     have hf13 := of_decide_eq_true hc13
     refine AWp.skip ?_
     refine hK10 _ ?_
     clear hK10 K10
     refine AWp.seqK fun K14 hK14 => ?_
     refine AWp.block ?_
     refine AWp.region ?_
     refine AOps.s0 (Cert.move (by conv => lhs; whnf)) rfl ?_
     refine AOps.s0 (Cert.fieldV (Try.tab_ok _ _ rfl) rfl rfl (Try.tab_ok _ _ rfl) rfl rfl (by conv => lhs; whnf)) rfl ?_
     refine AOps.s0 (Cert.loadV (Try.tab_ok _ _ rfl) rfl rfl (congrArg (fun x => some (A.d x)) (TValue.FItemsD_eq _))) rfl ?_
     refine AOps.s0 (Cert.move (by conv => lhs; whnf)) rfl ?_
     obtain ⟨x15, gx15, hE⟩ := bindO_some hE
     refine AOps.s0 (Cert.idxMn (f := TValue.c) (n := s4_9) (Try.tab_ok _ _ rfl) rfl (Try.tab_ok _ _ rfl) rfl rfl rfl gx15) rfl ?_
     refine AOps.s0 (Cert.loadV (Try.tab_ok _ _ rfl) rfl rfl rfl) rfl ?_
     obtain ⟨x16, gx16, hE⟩ := bindO_some hE
     refine AOps.s0 (Cert.callP rfl rfl (fun H => ih_47 gx16 H)) rfl ?_
     obtain ⟨x17, gx17, hE⟩ := bindO_some hE
     refine AOps.s0 (Cert.addM rfl rfl gx17) rfl ?_
     refine AOps.s0 (Cert.assign (by conv => lhs; whnf)) rfl ?_
     refine AOps.nil ?_
     refine hK14 _ ?_
     clear hK14 K14
     refine AWp.region ?_
     refine AOps.s0 (Cert.move (by conv => lhs; whnf)) rfl ?_
     refine AOps.s0 (Cert.addI rfl rfl (by first | omega | (dsimp only; omega)) (by first | omega | (dsimp only; omega))) rfl ?_
     refine AOps.s0 (Cert.assign (by conv => lhs; whnf)) rfl ?_
     refine AOps.nil ?_
     exact hK7 _ (n7, x17, (s4_9 + 1)) Weak.toA hE (Nat.lt_succ_self _)
    ·have hE := condF hc13 hE
     try dsimp only at hc13
     refine AWp.exit ?_
     exact hK3 _ s3_8 Weak.toA hE
 ·rintro s3_4 hE
  try dsimp only at hE
  unfold r02_Size_j3 at hE
  refine AWp.seqK fun K5 hK5 => ?_
  refine AWp.region ?_
  refine AOps.s0 (Cert.move (by conv => lhs; whnf)) rfl ?_
  refine AOps.s0 (Cert.assign (by conv => lhs; whnf)) rfl ?_
  refine AOps.nil ?_
  refine hK5 _ ?_
  clear hK5 K5
  refine AWp.ret ?_
  repeat (first | refine xBlock_ret ?_ | refine xThen_ret ?_)
  obtain rfl := Option.some.inj hE
  refine retQ.retF H rfl ⟨rfl, rfl⟩ ?_
  exact (fun _ _ h => h)
theorem r02_Size_all : ∀ (n : Nat), (∀ {a0 : TValue}   {r : Int}, r02_Size_n n a0 = some r → ∀ (H : Heap), ACalls Try.prog 47 [.agg (TValue.c a0)] H fun v h' => v = .a (.d (.int .i64 r)) ∧ h' = H)
 | 0 => fun hE => by first | cases hE | (rw [r02_Size_n] at hE; cases hE)
 | n + 1 => r02_Size_step n (r02_Size_all n)
def r02_Size (a0 : TValue) : Option Int := r02_Size_n F0 a0
theorem r02_Size_walk {a0 : TValue}   {r : Int} (hE : r02_Size a0 = some r) (H : Heap)  : ACalls Try.prog 47 [.agg (TValue.c a0)] H fun v h' => v = .a (.d (.int .i64 r)) ∧ h' = H := (r02_Size_all F0) hE H 
end Go.Proofs

namespace Go.Proofs
open Go Go.Ab
def r08_weigh_j3 (a0 : (Sl TSel)) (a1 : Int)  (s5_4 : Int) : Option Int := some s5_4
def r08_weigh_j14 (a0 : (Sl TSel)) (a1 : Int) (n7 : Nat) (s5_8 : Int) (s6_9 : Nat) (k_next_7 : Int → Nat → Option Int) (s5_15 : Int) : Option Int := k_next_7 s5_15 (s6_9 + 1)
def r08_weigh_j22 (a0 : (Sl TSel)) (a1 : Int) (n7 : Nat) (s5_8 : Int) (s6_9 : Nat) (x17 : Int) (x18 : TSel) (x19 : Int) (x20 : TSel) (x21 : Int) (k_next_7 : Int → Nat → Option Int) (k_rec_39 : (Sl TSel) → Int → Option Int) (s5_23 : Int) : Option Int := (a0.l[s6_9]?).bind fun x24 => (subC a1 s5_23).bind fun x25 => (k_rec_39 x24.FSels x25).bind fun x26 => (addC s5_23 x26).bind fun x27 => r08_weigh_j14 a0 a1 n7 s5_8 s6_9 k_next_7 x27
def r08_weigh_l29 (a0 : (Sl TSel)) (a1 : Int) (n7 : Nat) (s5_8 : Int) (s6_9 : Nat) (x17 : Int) (x18 : TSel) (x19 : Int) (x20 : TSel) (x21 : Int) (k_next_7 : Int → Nat → Option Int) (k_rec_39 : (Sl TSel) → Int → Option Int) : Nat → Int → Nat → Option Int
 | 0, _, _ => none
 | n29 + 1, s5_30, s7_31 => (a0.l[s6_9]?).bind fun x34 => bif ((decide (((s7_31 : Nat) : Int) < ((x34.FArgs.l.length : Nat) : Int))) && (decide (s5_30 ≤ a1))) then ((a0.l[s6_9]?).bind fun x38 => (x38.FArgs.l[s7_31]?).bind fun x39 => (r02_Size x39.FValue).bind fun x40 => (addC s5_30 x40).bind fun x41 => (r08_weigh_l29 a0 a1 n7 s5_8 s6_9 x17 x18 x19 x20 x21 k_next_7 k_rec_39 n29) x41 (s7_31 + 1)) else (r08_weigh_j22 a0 a1 n7 s5_8 s6_9 x17 x18 x19 x20 x21 k_next_7 k_rec_39 s5_30)
def r08_weigh_l7 (a0 : (Sl TSel)) (a1 : Int) (k_rec_39 : (Sl TSel) → Int → Option Int) : Nat → Int → Nat → Option Int
 | 0, _, _ => none
 | n7 + 1, s5_8, s6_9 => bif ((decide (((s6_9 : Nat) : Int) < ((a0.l.length : Nat) : Int))) && (decide (s5_8 ≤ a1))) then ((addC s5_8 (1 : Int)).bind fun x17 => (a0.l[s6_9]?).bind fun x18 => (addC x17 ((x18.FArgs.l.length : Nat) : Int)).bind fun x19 => (a0.l[s6_9]?).bind fun x20 => (addC x19 ((x20.FDirs.l.length : Nat) : Int)).bind fun x21 => r08_weigh_l29 a0 a1 n7 s5_8 s6_9 x17 x18 x19 x20 x21 ((r08_weigh_l7 a0 a1 k_rec_39 n7)) k_rec_39 (Option.elim (a0.l[s6_9]?) 1 (fun x34 => x34.FArgs.l.length + 1)) x21 0) else (r08_weigh_j3 a0 a1  s5_8)
def r08_weigh_n : Nat → (Sl TSel) → Int → Option Int
 | 0, _, _ => none
 | n + 1, a0, a1 => r08_weigh_l7 a0 a1 (r08_weigh_n n) (a0.l.length + 1) (0 : Int) 0
set_option maxRecDepth 100000 in
set_option maxHeartbeats 2000000 in
theorem r08_weigh_step (n : Nat) (ih_39 : ∀ {a0 : (Sl TSel)} {a1 : Int} {w0 : Option Nat}  {r : Int}, r08_weigh_n n a0 a1 = some r → ∀ (H : Heap), ACalls Try.prog 39 [.d (Sl.d 7 TSel.c w0 a0), .d (.int .i64 a1)] H fun v h' => v = .a (.d (.int .i64 r)) ∧ h' = H) : ∀ {a0 : (Sl TSel)} {a1 : Int} {w0 : Option Nat}  {r : Int}, r08_weigh_n (n + 1) a0 a1 = some r → ∀ (H : Heap), ACalls Try.prog 39 [.d (Sl.d 7 TSel.c w0 a0), .d (.int .i64 a1)] H fun v h' => v = .a (.d (.int .i64 r)) ∧ h' = H := by
 intro a0 a1 w0  r hE H 
 rw [r08_weigh_n] at hE
 refine ACalls.of_wp (fn := Try.f39) (c := _) Try.tab_ok (fun _ _ => Try.call39 _ _) Try.func39 rfl (n := 74) rfl (rs := [.tmp 4]) rfl rfl ?_
 refine AWp.seqK fun K1 hK1 => ?_
 refine AWp.region ?_
 refine AOps.s0 (Cert.assign (by conv => lhs; whnf)) rfl ?_
 refine AOps.nil ?_
 refine hK1 _ ?_
 clear hK1 K1
 refine AWp.seqK fun K2 hK2 => ?_
 refine AWp.region ?_
 refine AOps.s0 (Cert.assign (by conv => lhs; whnf)) rfl ?_
 refine AOps.nil ?_
 refine hK2 _ ?_
 clear hK2 K2
 refine AWp.seqJH KeepsT.nil (fun (z : Int) => [(5, .a (.d (.int .i64 z)))]) (fun z => H) (fun z => r08_weigh_j3 a0 a1 z = some r) ?_ ?_
 ·intro K3 hK3
  refine AWp.seqK fun K6 hK6 => ?_
  refine AWp.region ?_
  refine AOps.s0 (Cert.assign (by conv => lhs; whnf)) rfl ?_
  refine AOps.nil ?_
  refine hK6 _ ?_
  clear hK6 K6
  refine AWp.block ?_
  refine AWp.loopH (KeepsT.cons (k := 0) (by conv => lhs; whnf) (KeepsT.cons (k := 1) (by conv => lhs; whnf) KeepsT.nil)) (fun (z : Nat × Int × Nat) => [(5, .a (.d (.int .i64 z.2.1))), (6, .a (.d (.int .i64 ((z.2.2 : Nat) : Int))))]) (fun z => H) (fun z => z.1) (fun z => r08_weigh_l7 a0 a1 (r08_weigh_n n) z.1 z.2.1 z.2.2 = some r) ((a0.l.length + 1), (0 : Int), 0) hE Weak.toA ?_
  rintro ⟨n7, s5_8, s6_9⟩ hE K7 hK7
  try dsimp only at hE
  cases n7 with
  | zero => cases hE
  | succ n7 =>
    rw [r08_weigh_l7] at hE
    refine AWp.seqK fun K10 hK10 => ?_
    refine AWp.seqK fun K11 hK11 => ?_
    refine AWp.region ?_
    refine AOps.s0 (Cert.move (by conv => lhs; whnf)) rfl ?_
    refine AOps.s0 (Cert.move (by conv => lhs; whnf)) rfl ?_
    refine AOps.sLen (f := TSel.c) (s := a0) (Try.tab_ok _ _ rfl) rfl rfl rfl rfl fun hL12 => ?_
    refine AOps.s0 (Cert.binI rfl rfl rfl) rfl ?_
    refine AOps.s0 (Cert.move (by conv => lhs; whnf)) rfl ?_
    refine AOps.gC rfl rfl (fun hC => Cert.move (by conv => lhs; whnf)) rfl ?_
    refine AOps.gC rfl rfl (fun hC => Cert.move (by conv => lhs; whnf)) rfl ?_
    refine AOps.gC rfl rfl (fun hC => Cert.ungd (k := 13) rfl (by first | exact hC | exact andL hC | exact andL (andL hC) | exact andL (andL (andL hC)) | exact andR hC | simp_all) (Cert.ungd (k := 14) rfl (by first | exact hC | exact andL hC | exact andL (andL hC) | exact andL (andL (andL hC)) | exact andR hC | simp_all) (Cert.binI rfl rfl rfl))) rfl ?_
    refine AOps.s0 (Cert.pickAnd rfl rfl (fun h => by first | exact h | exact notT h | exact andI hC h | exact andI hC (notT h) | simp_all) rfl) rfl ?_
    refine AOps.nil ?_
    refine hK11 _ ?_
    clear hK11 K11
    refine AWp.cond rfl (fun hc13 => ?_) (fun hc13 => ?_)
    ·have hE := condT hc13 hE
     try dsimp only at hc13
     have hf13 := of_decide_eq_true (and_left hc13)
     refine AWp.skip ?_
     refine hK10 _ ?_
     clear hK10 K10
     refine AWp.seqJH (KeepsT.cons (k := 0) (by conv => lhs; whnf) (KeepsT.cons (k := 1) (by conv => lhs; whnf) (KeepsT.cons (k := 6) (by conv => lhs; whnf) KeepsT.nil))) (fun (z : Int) => [(5, .a (.d (.int .i64 z)))]) (fun z => H) (fun z => r08_weigh_j14 a0 a1 n7 s5_8 s6_9 ((r08_weigh_l7 a0 a1 (r08_weigh_n n) n7)) z = some r) ?_ ?_
     ·intro K14 hK14
      refine AWp.block ?_
      refine AWp.seqK fun K16 hK16 => ?_
      refine AWp.draw rfl ?_
      refine DOps.s0 (Cert.move (by conv => lhs; whnf)) rfl ?_
      obtain ⟨x17, gx17, hE⟩ := bindO_some hE
      refine DOps.s0 (Cert.addM rfl rfl gx17) rfl ?_
      refine DOps.s0 (Cert.move (by conv => lhs; whnf)) rfl ?_
      refine DOps.s0 (Cert.move (by conv => lhs; whnf)) rfl ?_
      obtain ⟨x18, gx18, hE⟩ := bindO_some hE
      refine DOps.s0 (Cert.idxMn (f := TSel.c) (n := s6_9) (Try.tab_ok _ _ rfl) rfl (Try.tab_ok _ _ rfl) rfl rfl rfl gx18) rfl ?_
      refine DOps.s0 (Cert.fieldV (Try.tab_ok _ _ rfl) rfl rfl (Try.tab_ok _ _ rfl) rfl rfl (by conv => lhs; whnf)) rfl ?_
      refine DOps.s0 (Cert.loadV (Try.tab_ok _ _ rfl) rfl rfl rfl) rfl ?_
      refine DOps.s0 (Cert.lenM' (f := TArg.c) (s := x18.FArgs) (Try.tab_ok _ _ rfl) rfl rfl rfl) rfl ?_
      obtain ⟨x19, gx19, hE⟩ := bindO_some hE
      refine DOps.s0 (Cert.addM rfl rfl gx19) rfl ?_
      refine DOps.s0 (Cert.move (by conv => lhs; whnf)) rfl ?_
      refine DOps.s0 (Cert.move (by conv => lhs; whnf)) rfl ?_
      obtain ⟨x20, gx20, hE⟩ := bindO_some hE
      refine DOps.s0 (Cert.idxMn (f := TSel.c) (n := s6_9) (Try.tab_ok _ _ rfl) rfl (Try.tab_ok _ _ rfl) rfl rfl rfl gx20) rfl ?_
      refine DOps.s0 (Cert.fieldV (Try.tab_ok _ _ rfl) rfl rfl (Try.tab_ok _ _ rfl) rfl rfl (by conv => lhs; whnf)) rfl ?_
      refine DOps.s0 (Cert.loadV (Try.tab_ok _ _ rfl) rfl rfl rfl) rfl ?_
      refine DOps.s0 (Cert.lenM' (f := TDir.c) (s := x20.FDirs) (Try.tab_ok _ _ rfl) rfl rfl rfl) rfl ?_
      obtain ⟨x21, gx21, hE⟩ := bindO_some hE
      refine DOps.s0 (Cert.addM rfl rfl gx21) rfl ?_
      refine DOps.s0 (Cert.assign (by conv => lhs; whnf)) rfl ?_
      refine DOps.nil (by decide +kernel) ?_
      refine hK16 _ ?_
      clear hK16 K16
      refine AWp.seqJH (KeepsT.cons (k := 0) (by conv => lhs; whnf) (KeepsT.cons (k := 1) (by conv => lhs; whnf) (KeepsT.cons (k := 6) (by conv => lhs; whnf) KeepsT.nil))) (fun (z : Int) => [(5, .a (.d (.int .i64 z)))]) (fun z => H) (fun z => r08_weigh_j22 a0 a1 n7 s5_8 s6_9 x17 x18 x19 x20 x21 ((r08_weigh_l7 a0 a1 (r08_weigh_n n) n7)) (r08_weigh_n n) z = some r) ?_ ?_
      ·intro K22 hK22
       refine AWp.seqK fun K28 hK28 => ?_
       refine AWp.region ?_
       refine AOps.s0 (Cert.assign (by conv => lhs; whnf)) rfl ?_
       refine AOps.nil ?_
       refine hK28 _ ?_
       clear hK28 K28
       refine AWp.block ?_
       refine AWp.loopH (KeepsT.cons (k := 0) (by conv => lhs; whnf) (KeepsT.cons (k := 1) (by conv => lhs; whnf) (KeepsT.cons (k := 6) (by conv => lhs; whnf) KeepsT.nil))) (fun (z : Nat × Int × Nat) => [(5, .a (.d (.int .i64 z.2.1))), (7, .a (.d (.int .i64 ((z.2.2 : Nat) : Int))))]) (fun z => H) (fun z => z.1) (fun z => r08_weigh_l29 a0 a1 n7 s5_8 s6_9 x17 x18 x19 x20 x21 ((r08_weigh_l7 a0 a1 (r08_weigh_n n) n7)) (r08_weigh_n n) z.1 z.2.1 z.2.2 = some r) ((Option.elim (a0.l[s6_9]?) 1 (fun x34 => x34.FArgs.l.length + 1)), x21, 0) hE Weak.toA ?_
       rintro ⟨n29, s5_30, s7_31⟩ hE K29 hK29
       try dsimp only at hE
       cases n29 with
       | zero => cases hE
       | succ n29 =>
         rw [r08_weigh_l29] at hE
         refine AWp.seqK fun K32 hK32 => ?_
         refine AWp.seqK fun K33 hK33 => ?_
         refine AWp.region ?_
         refine AOps.s0 (Cert.move (by conv => lhs; whnf)) rfl ?_
         refine AOps.s0 (Cert.move (by conv => lhs; whnf)) rfl ?_
         refine AOps.s0 (Cert.move (by conv => lhs; whnf)) rfl ?_
         obtain ⟨x34, gx34, hE⟩ := bindO_some hE
         refine AOps.s0 (Cert.idxMn (f := TSel.c) (n := s6_9) (Try.tab_ok _ _ rfl) rfl (Try.tab_ok _ _ rfl) rfl rfl rfl gx34) rfl ?_
         refine AOps.s0 (Cert.fieldV (Try.tab_ok _ _ rfl) rfl rfl (Try.tab_ok _ _ rfl) rfl rfl (by conv => lhs; whnf)) rfl ?_
         refine AOps.s0 (Cert.loadV (Try.tab_ok _ _ rfl) rfl rfl rfl) rfl ?_
         refine AOps.sLen (f := TArg.c) (s := x34.FArgs) (Try.tab_ok _ _ rfl) rfl rfl rfl rfl fun hL35 => ?_
         refine AOps.s0 (Cert.binI rfl rfl rfl) rfl ?_
         refine AOps.s0 (Cert.move (by conv => lhs; whnf)) rfl ?_
         refine AOps.gC rfl rfl (fun hC => Cert.move (by conv => lhs; whnf)) rfl ?_
         refine AOps.gC rfl rfl (fun hC => Cert.move (by conv => lhs; whnf)) rfl ?_
         refine AOps.gC rfl rfl (fun hC => Cert.ungd (k := 44) rfl (by first | exact hC | exact andL hC | exact andL (andL hC) | exact andL (andL (andL hC)) | exact andR hC | simp_all) (Cert.ungd (k := 45) rfl (by first | exact hC | exact andL hC | exact andL (andL hC) | exact andL (andL (andL hC)) | exact andR hC | simp_all) (Cert.binI rfl rfl rfl))) rfl ?_
         refine AOps.s0 (Cert.pickAnd rfl rfl (fun h => by first | exact h | exact notT h | exact andI hC h | exact andI hC (notT h) | simp_all) rfl) rfl ?_
         refine AOps.nil ?_
         refine hK33 _ ?_
         clear hK33 K33
         refine AWp.cond rfl (fun hc36 => ?_) (fun hc36 => ?_)
         ·have hE := condT hc36 hE
          try dsimp only at hc36
          have hf36 := of_decide_eq_true (and_left hc36)
          refine AWp.skip ?_
          refine hK32 _ ?_
          clear hK32 K32
          refine AWp.seqK fun K37 hK37 => ?_
          refine AWp.block ?_
          refine AWp.region ?_
          refine AOps.s0 (Cert.move (by conv => lhs; whnf)) rfl ?_
          refine AOps.s0 (Cert.move (by conv => lhs; whnf)) rfl ?_
          refine AOps.s0 (Cert.move (by conv => lhs; whnf)) rfl ?_
          obtain ⟨x38, gx38, hE⟩ := bindO_some hE
          refine AOps.s0 (Cert.idxMn (f := TSel.c) (n := s6_9) (Try.tab_ok _ _ rfl) rfl (Try.tab_ok _ _ rfl) rfl rfl rfl gx38) rfl ?_
          refine AOps.s0 (Cert.fieldV (Try.tab_ok _ _ rfl) rfl rfl (Try.tab_ok _ _ rfl) rfl rfl (by conv => lhs; whnf)) rfl ?_
          refine AOps.s0 (Cert.loadV (Try.tab_ok _ _ rfl) rfl rfl rfl) rfl ?_
          refine AOps.s0 (Cert.move (by conv => lhs; whnf)) rfl ?_
          obtain ⟨x39, gx39, hE⟩ := bindO_some hE
          refine AOps.s0 (Cert.idxMn (f := TArg.c) (n := s7_31) (Try.tab_ok _ _ rfl) rfl (Try.tab_ok _ _ rfl) rfl rfl rfl gx39) rfl ?_
          refine AOps.s0 (Cert.fieldV (Try.tab_ok _ _ rfl) rfl rfl (Try.tab_ok _ _ rfl) rfl rfl (by conv => lhs; whnf)) rfl ?_
          refine AOps.s0 (Cert.loadV (Try.tab_ok _ _ rfl) rfl rfl rfl) rfl ?_
          obtain ⟨x40, gx40, hE⟩ := bindO_some hE
          refine AOps.s0 (Cert.callP rfl rfl (fun H => r02_Size_walk gx40 H)) rfl ?_
          obtain ⟨x41, gx41, hE⟩ := bindO_some hE
          refine AOps.s0 (Cert.addM rfl rfl gx41) rfl ?_
          refine AOps.s0 (Cert.assign (by conv => lhs; whnf)) rfl ?_
          refine AOps.nil ?_
          refine hK37 _ ?_
          clear hK37 K37
          refine AWp.region ?_
          refine AOps.s0 (Cert.move (by conv => lhs; whnf)) rfl ?_
          refine AOps.s0 (Cert.addI rfl rfl (by first | omega | (dsimp only; omega)) (by first | omega | (dsimp only; omega))) rfl ?_
          refine AOps.s0 (Cert.assign (by conv => lhs; whnf)) rfl ?_
          refine AOps.nil ?_
          exact hK29 _ (n29, x41, (s7_31 + 1)) Weak.toA hE (Nat.lt_succ_self _)
         ·have hE := condF hc36 hE
          try dsimp only at hc36
          refine AWp.exit ?_
          exact hK22 _ s5_30 Weak.toA hE
      ·rintro s5_23 hE
       try dsimp only at hE
       unfold r08_weigh_j22 at hE
       refine AWp.region ?_
       refine AOps.s0 (Cert.move (by conv => lhs; whnf)) rfl ?_
       refine AOps.s0 (Cert.move (by conv => lhs; whnf)) rfl ?_
       refine AOps.s0 (Cert.move (by conv => lhs; whnf)) rfl ?_
       obtain ⟨x24, gx24, hE⟩ := bindO_some hE
       refine AOps.s0 (Cert.idxMn (f := TSel.c) (n := s6_9) (Try.tab_ok _ _ rfl) rfl (Try.tab_ok _ _ rfl) rfl rfl rfl gx24) rfl ?_
       refine AOps.s0 (Cert.fieldV (Try.tab_ok _ _ rfl) rfl rfl (Try.tab_ok _ _ rfl) rfl rfl (by conv => lhs; whnf)) rfl ?_
       refine AOps.s0 (Cert.loadV (Try.tab_ok _ _ rfl) rfl rfl (congrArg (fun x => some (A.d x)) (TSel.FSelsD_eq _))) rfl ?_
       refine AOps.s0 (Cert.move (by conv => lhs; whnf)) rfl ?_
       refine AOps.s0 (Cert.move (by conv => lhs; whnf)) rfl ?_
       obtain ⟨x25, gx25, hE⟩ := bindO_some hE
       refine AOps.s0 (Cert.subM rfl rfl gx25) rfl ?_
       obtain ⟨x26, gx26, hE⟩ := bindO_some hE
       refine AOps.s0 (Cert.callP rfl rfl (fun H => ih_39 gx26 H)) rfl ?_
       obtain ⟨x27, gx27, hE⟩ := bindO_some hE
       refine AOps.s0 (Cert.addM rfl rfl gx27) rfl ?_
       refine AOps.s0 (Cert.assign (by conv => lhs; whnf)) rfl ?_
       refine AOps.nil ?_
       exact hK14 _ x27 Weak.toA hE
     ·rintro s5_15 hE
      try dsimp only at hE
      unfold r08_weigh_j14 at hE
      refine AWp.region ?_
      refine AOps.s0 (Cert.move (by conv => lhs; whnf)) rfl ?_
      refine AOps.s0 (Cert.addI rfl rfl (by first | omega | (dsimp only; omega)) (by first | omega | (dsimp only; omega))) rfl ?_
      refine AOps.s0 (Cert.assign (by conv => lhs; whnf)) rfl ?_
      refine AOps.nil ?_
      exact hK7 _ (n7, s5_15, (s6_9 + 1)) Weak.toA hE (Nat.lt_succ_self _)
    ·have hE := condF hc13 hE
     try dsimp only at hc13
     refine AWp.exit ?_
     exact hK3 _ s5_8 Weak.toA hE
 ·rintro s5_4 hE
  try dsimp only at hE
  unfold r08_weigh_j3 at hE
  refine AWp.seqK fun K5 hK5 => ?_
  refine AWp.region ?_
  refine AOps.s0 (Cert.move (by conv => lhs; whnf)) rfl ?_
  refine AOps.s0 (Cert.assign (by conv => lhs; whnf)) rfl ?_
  refine AOps.nil ?_
  refine hK5 _ ?_
  clear hK5 K5
  refine AWp.ret ?_
  repeat (first | refine xBlock_ret ?_ | refine xThen_ret ?_)
  obtain rfl := Option.some.inj hE
  refine retQ.retF H rfl ⟨rfl, rfl⟩ ?_
  exact (fun _ _ h => h)
theorem r08_weigh_all : ∀ (n : Nat), (∀ {a0 : (Sl TSel)} {a1 : Int} {w0 : Option Nat}  {r : Int}, r08_weigh_n n a0 a1 = some r → ∀ (H : Heap), ACalls Try.prog 39 [.d (Sl.d 7 TSel.c w0 a0), .d (.int .i64 a1)] H fun v h' => v = .a (.d (.int .i64 r)) ∧ h' = H)
 | 0 => fun hE => by first | cases hE | (rw [r08_weigh_n] at hE; cases hE)
 | n + 1 => r08_weigh_step n (r08_weigh_all n)
def r08_weigh (a0 : (Sl TSel)) (a1 : Int) : Option Int := r08_weigh_n F0 a0 a1
theorem r08_weigh_walk {a0 : (Sl TSel)} {a1 : Int} {w0 : Option Nat}  {r : Int} (hE : r08_weigh a0 a1 = some r) (H : Heap)  : ACalls Try.prog 39 [.d (Sl.d 7 TSel.c w0 a0), .d (.int .i64 a1)] H fun v h' => v = .a (.d (.int .i64 r)) ∧ h' = H := (r08_weigh_all F0) hE H 
def r08_Large_j8 (a0 : TQuery) (x5 : Int) (s3_7 : Int)  (s3_9 : Int) : Option Bool := some (decide ((600 : Int) < s3_9))
def r08_Large_l12 (a0 : TQuery) (x5 : Int) (s3_7 : Int)  : Nat → Int → Nat → Option Bool
 | 0, _, _ => none
 | n12 + 1, s3_13, s5_14 => bif ((decide (((s5_14 : Nat) : Int) < ((a0.FFrags.l.length : Nat) : Int))) && (decide (s3_13 ≤ (600 : Int)))) then ((a0.FFrags.l[s5_14]?).bind fun x20 => (r08_weigh x20.FSels (600 : Int)).bind fun x21 => (addC s3_13 x21).bind fun x22 => (r08_Large_l12 a0 x5 s3_7 n12) x22 (s5_14 + 1)) else (r08_Large_j8 a0 x5 s3_7  s3_13)
def r08_Large_j6 (a0 : TQuery) (x5 : Int)  (s3_7 : Int) : Option Bool := r08_Large_l12 a0 x5 s3_7 (a0.FFrags.l.length + 1) s3_7 0
def r08_Large_l24 (a0 : TQuery) (x5 : Int)  : Nat → Int → Nat → Option Bool
 | 0, _, _ => none
 | n24 + 1, s3_25, s4_26 => bif ((decide (((s4_26 : Nat) : Int) < ((a0.FOps.l.length : Nat) : Int))) && (decide (s3_25 ≤ (600 : Int)))) then ((a0.FOps.l[s4_26]?).bind fun x32 => (addC s3_25 ((x32.FVars.l.length : Nat) : Int)).bind fun x33 => (a0.FOps.l[s4_26]?).bind fun x34 => (r08_weigh x34.FSels (600 : Int)).bind fun x35 => (addC x33 x35).bind fun x36 => (r08_Large_l24 a0 x5 n24) x36 (s4_26 + 1)) else (r08_Large_j6 a0 x5  s3_25)
def r08_Large (a0 : TQuery) : Option Bool := (addC ((a0.FOps.l.length : Nat) : Int) ((a0.FFrags.l.length : Nat) : Int)).bind fun x5 => r08_Large_l24 a0 x5 (a0.FOps.l.length + 1) x5 0
set_option maxRecDepth 100000 in
set_option maxHeartbeats 2000000 in
theorem r08_Large_walk {a0 : TQuery}   {r : Bool} (hE : r08_Large a0 = some r) (H : Heap)  : ACalls Try.prog 26 [.agg (TQuery.c a0)] H fun v h' => v = .a (.d (.bool r)) ∧ h' = H := by
 unfold r08_Large at hE
 refine ACalls.of_wp (fn := Try.f26) (c := _) Try.tab_ok (fun _ _ => Try.call26 _ _) Try.func26 rfl (n := 63) rfl (rs := [.tmp 2]) rfl rfl ?_
 refine AWp.seqK fun K1 hK1 => ?_
 refine AWp.region ?_
 refine AOps.s0 (Cert.boxV rfl) rfl ?_
 refine AOps.s0 (Cert.assign (by conv => lhs; whnf)) rfl ?_
 refine AOps.nil ?_
 refine hK1 _ ?_
 clear hK1 K1
 refine AWp.seqK fun K2 hK2 => ?_
 refine AWp.region ?_
 refine AOps.s0 (Cert.fieldV (Try.tab_ok _ _ rfl) rfl rfl (Try.tab_ok _ _ rfl) rfl rfl (by conv => lhs; whnf)) rfl ?_
 refine AOps.s0 (Cert.loadV (Try.tab_ok _ _ rfl) rfl rfl rfl) rfl ?_
 refine AOps.sLen (f := TOp.c) (s := a0.FOps) (Try.tab_ok _ _ rfl) rfl rfl rfl rfl fun hL3 => ?_
 refine AOps.s0 (Cert.fieldV (Try.tab_ok _ _ rfl) rfl rfl (Try.tab_ok _ _ rfl) rfl rfl (by conv => lhs; whnf)) rfl ?_
 refine AOps.s0 (Cert.loadV (Try.tab_ok _ _ rfl) rfl rfl rfl) rfl ?_
 refine AOps.sLen (f := TFrag.c) (s := a0.FFrags) (Try.tab_ok _ _ rfl) rfl rfl rfl rfl fun hL4 => ?_
 obtain ⟨x5, gx5, hE⟩ := bindO_some hE
 refine AOps.s0 (Cert.addM rfl rfl gx5) rfl ?_
 refine AOps.s0 (Cert.assign (by conv => lhs; whnf)) rfl ?_
 refine AOps.nil ?_
 refine hK2 _ ?_
 clear hK2 K2
 refine AWp.seqJH (KeepsT.cons (k := 1) (by conv => lhs; whnf) KeepsT.nil) (fun (z : Int) => [(3, .a (.d (.int .i64 z)))]) (fun z => H) (fun z => r08_Large_j6 a0 x5 z = some r) ?_ ?_
 ·intro K6 hK6
  refine AWp.seqK fun K23 hK23 => ?_
  refine AWp.region ?_
  refine AOps.s0 (Cert.assign (by conv => lhs; whnf)) rfl ?_
  refine AOps.nil ?_
  refine hK23 _ ?_
  clear hK23 K23
  refine AWp.block ?_
  refine AWp.loopH (KeepsT.cons (k := 1) (by conv => lhs; whnf) KeepsT.nil) (fun (z : Nat × Int × Nat) => [(3, .a (.d (.int .i64 z.2.1))), (4, .a (.d (.int .i64 ((z.2.2 : Nat) : Int))))]) (fun z => H) (fun z => z.1) (fun z => r08_Large_l24 a0 x5 z.1 z.2.1 z.2.2 = some r) ((a0.FOps.l.length + 1), x5, 0) hE Weak.toA ?_
  rintro ⟨n24, s3_25, s4_26⟩ hE K24 hK24
  try dsimp only at hE
  cases n24 with
  | zero => cases hE
  | succ n24 =>
    rw [r08_Large_l24] at hE
    refine AWp.seqK fun K27 hK27 => ?_
    refine AWp.seqK fun K28 hK28 => ?_
    refine AWp.region ?_
    refine AOps.s0 (Cert.move (by conv => lhs; whnf)) rfl ?_
    refine AOps.s0 (Cert.fieldV (Try.tab_ok _ _ rfl) rfl rfl (Try.tab_ok _ _ rfl) rfl rfl (by conv => lhs; whnf)) rfl ?_
    refine AOps.s0 (Cert.loadV (Try.tab_ok _ _ rfl) rfl rfl rfl) rfl ?_
    refine AOps.sLen (f := TOp.c) (s := a0.FOps) (Try.tab_ok _ _ rfl) rfl rfl rfl rfl fun hL29 => ?_
    refine AOps.s0 (Cert.binI rfl rfl rfl) rfl ?_
    refine AOps.s0 (Cert.move (by conv => lhs; whnf)) rfl ?_
    refine AOps.gC rfl rfl (fun hC => Cert.move (by conv => lhs; whnf)) rfl ?_
    refine AOps.gC rfl rfl (fun hC => Cert.ungd (k := 19) rfl (by first | exact hC | exact andL hC | exact andL (andL hC) | exact andL (andL (andL hC)) | exact andR hC | simp_all) (Cert.binI rfl rfl rfl)) rfl ?_
    refine AOps.s0 (Cert.pickAnd rfl rfl (fun h => by first | exact h | exact notT h | exact andI hC h | exact andI hC (notT h) | simp_all) rfl) rfl ?_
    refine AOps.nil ?_
    refine hK28 _ ?_
    clear hK28 K28
    refine AWp.cond rfl (fun hc30 => ?_) (fun hc30 => ?_)
    ·have hE := condT hc30 hE
     try dsimp only at hc30
     have hf30 := of_decide_eq_true (and_left hc30)
     refine AWp.skip ?_
     refine hK27 _ ?_
     clear hK27 K27
     refine AWp.seqK fun K31 hK31 => ?_
     refine AWp.block ?_
     refine AWp.draw rfl ?_
     refine DOps.s0 (Cert.move (by conv => lhs; whnf)) rfl ?_
     refine DOps.s0 (Cert.fieldV (Try.tab_ok _ _ rfl) rfl rfl (Try.tab_ok _ _ rfl) rfl rfl (by conv => lhs; whnf)) rfl ?_
     refine DOps.s0 (Cert.loadV (Try.tab_ok _ _ rfl) rfl rfl rfl) rfl ?_
     refine DOps.s0 (Cert.move (by conv => lhs; whnf)) rfl ?_
     obtain ⟨x32, gx32, hE⟩ := bindO_some hE
     refine DOps.s0 (Cert.idxMn (f := TOp.c) (n := s4_26) (Try.tab_ok _ _ rfl) rfl (Try.tab_ok _ _ rfl) rfl rfl rfl gx32) rfl ?_
     refine DOps.s0 (Cert.fieldV (Try.tab_ok _ _ rfl) rfl rfl (Try.tab_ok _ _ rfl) rfl rfl (by conv => lhs; whnf)) rfl ?_
     refine DOps.s0 (Cert.loadV (Try.tab_ok _ _ rfl) rfl rfl rfl) rfl ?_
     refine DOps.s0 (Cert.lenM' (f := TVar.c) (s := x32.FVars) (Try.tab_ok _ _ rfl) rfl rfl rfl) rfl ?_
     obtain ⟨x33, gx33, hE⟩ := bindO_some hE
     refine DOps.s0 (Cert.addM rfl rfl gx33) rfl ?_
     refine DOps.s0 (Cert.fieldV (Try.tab_ok _ _ rfl) rfl rfl (Try.tab_ok _ _ rfl) rfl rfl (by conv => lhs; whnf)) rfl ?_
     refine DOps.s0 (Cert.loadV (Try.tab_ok _ _ rfl) rfl rfl rfl) rfl ?_
     refine DOps.s0 (Cert.move (by conv => lhs; whnf)) rfl ?_
     obtain ⟨x34, gx34, hE⟩ := bindO_some hE
     refine DOps.s0 (Cert.idxMn (f := TOp.c) (n := s4_26) (Try.tab_ok _ _ rfl) rfl (Try.tab_ok _ _ rfl) rfl rfl rfl gx34) rfl ?_
     refine DOps.s0 (Cert.fieldV (Try.tab_ok _ _ rfl) rfl rfl (Try.tab_ok _ _ rfl) rfl rfl (by conv => lhs; whnf)) rfl ?_
     refine DOps.s0 (Cert.loadV (Try.tab_ok _ _ rfl) rfl rfl rfl) rfl ?_
     obtain ⟨x35, gx35, hE⟩ := bindO_some hE
     refine DOps.s0 (Cert.callP rfl rfl (fun H => r08_weigh_walk gx35 H)) rfl ?_
     obtain ⟨x36, gx36, hE⟩ := bindO_some hE
     refine DOps.s0 (Cert.addM rfl rfl gx36) rfl ?_
     refine DOps.s0 (Cert.assign (by conv => lhs; whnf)) rfl ?_
     refine DOps.nil (by decide +kernel) ?_
     refine hK31 _ ?_
     clear hK31 K31
     refine AWp.region ?_
     refine AOps.s0 (Cert.move (by conv => lhs; whnf)) rfl ?_
     refine AOps.s0 (Cert.addI rfl rfl (by first | omega | (dsimp only; omega)) (by first | omega | (dsimp only; omega))) rfl ?_
     refine AOps.s0 (Cert.assign (by conv => lhs; whnf)) rfl ?_
     refine AOps.nil ?_
     exact hK24 _ (n24, x36, (s4_26 + 1)) Weak.toA hE (Nat.lt_succ_self _)
    ·have hE := condF hc30 hE
     try dsimp only at hc30
     refine AWp.exit ?_
     exact hK6 _ s3_25 Weak.toA hE
 ·rintro s3_7 hE
  try dsimp only at hE
  unfold r08_Large_j6 at hE
  refine AWp.seqJH KeepsT.nil (fun (z : Int) => [(3, .a (.d (.int .i64 z)))]) (fun z => H) (fun z => r08_Large_j8 a0 x5 s3_7 z = some r) ?_ ?_
  ·intro K8 hK8
   refine AWp.seqK fun K11 hK11 => ?_
   refine AWp.region ?_
   refine AOps.s0 (Cert.assign (by conv => lhs; whnf)) rfl ?_
   refine AOps.nil ?_
   refine hK11 _ ?_
   clear hK11 K11
   refine AWp.block ?_
   refine AWp.loopH (KeepsT.cons (k := 1) (by conv => lhs; whnf) KeepsT.nil) (fun (z : Nat × Int × Nat) => [(3, .a (.d (.int .i64 z.2.1))), (5, .a (.d (.int .i64 ((z.2.2 : Nat) : Int))))]) (fun z => H) (fun z => z.1) (fun z => r08_Large_l12 a0 x5 s3_7 z.1 z.2.1 z.2.2 = some r) ((a0.FFrags.l.length + 1), s3_7, 0) hE Weak.toA ?_
   rintro ⟨n12, s3_13, s5_14⟩ hE K12 hK12
   try dsimp only at hE
   cases n12 with
   | zero => cases hE
   | succ n12 =>
     rw [r08_Large_l12] at hE
     refine AWp.seqK fun K15 hK15 => ?_
     refine AWp.seqK fun K16 hK16 => ?_
     refine AWp.region ?_
     refine AOps.s0 (Cert.move (by conv => lhs; whnf)) rfl ?_
     refine AOps.s0 (Cert.fieldV (Try.tab_ok _ _ rfl) rfl rfl (Try.tab_ok _ _ rfl) rfl rfl (by conv => lhs; whnf)) rfl ?_
     refine AOps.s0 (Cert.loadV (Try.tab_ok _ _ rfl) rfl rfl rfl) rfl ?_
     refine AOps.sLen (f := TFrag.c) (s := a0.FFrags) (Try.tab_ok _ _ rfl) rfl rfl rfl rfl fun hL17 => ?_
     refine AOps.s0 (Cert.binI rfl rfl rfl) rfl ?_
     refine AOps.s0 (Cert.move (by conv => lhs; whnf)) rfl ?_
     refine AOps.gC rfl rfl (fun hC => Cert.move (by conv => lhs; whnf)) rfl ?_
     refine AOps.gC rfl rfl (fun hC => Cert.ungd (k := 47) rfl (by first | exact hC | exact andL hC | exact andL (andL hC) | exact andL (andL (andL hC)) | exact andR hC | simp_all) (Cert.binI rfl rfl rfl)) rfl ?_
     refine AOps.s0 (Cert.pickAnd rfl rfl (fun h => by first | exact h | exact notT h | exact andI hC h | exact andI hC (notT h) | simp_all) rfl) rfl ?_
     refine AOps.nil ?_
     refine hK16 _ ?_
     clear hK16 K16
     refine AWp.cond rfl (fun hc18 => ?_) (fun hc18 => ?_)
     ·have hE := condT hc18 hE
      try dsimp only at hc18
      have hf18 := of_decide_eq_true (and_left hc18)
      refine AWp.skip ?_
      refine hK15 _ ?_
      clear hK15 K15
      refine AWp.seqK fun K19 hK19 => ?_
      refine AWp.block ?_
      refine AWp.region ?_
      refine AOps.s0 (Cert.move (by conv => lhs; whnf)) rfl ?_
      refine AOps.s0 (Cert.fieldV (Try.tab_ok _ _ rfl) rfl rfl (Try.tab_ok _ _ rfl) rfl rfl (by conv => lhs; whnf)) rfl ?_
      refine AOps.s0 (Cert.loadV (Try.tab_ok _ _ rfl) rfl rfl rfl) rfl ?_
      refine AOps.s0 (Cert.move (by conv => lhs; whnf)) rfl ?_
      obtain ⟨x20, gx20, hE⟩ := bindO_some hE
      refine AOps.s0 (Cert.idxMn (f := TFrag.c) (n := s5_14) (Try.tab_ok _ _ rfl) rfl (Try.tab_ok _ _ rfl) rfl rfl rfl gx20) rfl ?_
      refine AOps.s0 (Cert.fieldV (Try.tab_ok _ _ rfl) rfl rfl (Try.tab_ok _ _ rfl) rfl rfl (by conv => lhs; whnf)) rfl ?_
      refine AOps.s0 (Cert.loadV (Try.tab_ok _ _ rfl) rfl rfl rfl) rfl ?_
      obtain ⟨x21, gx21, hE⟩ := bindO_some hE
      refine AOps.s0 (Cert.callP rfl rfl (fun H => r08_weigh_walk gx21 H)) rfl ?_
      obtain ⟨x22, gx22, hE⟩ := bindO_some hE
      refine AOps.s0 (Cert.addM rfl rfl gx22) rfl ?_
      refine AOps.s0 (Cert.assign (by conv => lhs; whnf)) rfl ?_
      refine AOps.nil ?_
      refine hK19 _ ?_
      clear hK19 K19
      refine AWp.region ?_
      refine AOps.s0 (Cert.move (by conv => lhs; whnf)) rfl ?_
      refine AOps.s0 (Cert.addI rfl rfl (by first | omega | (dsimp only; omega)) (by first | omega | (dsimp only; omega))) rfl ?_
      refine AOps.s0 (Cert.assign (by conv => lhs; whnf)) rfl ?_
      refine AOps.nil ?_
      exact hK12 _ (n12, x22, (s5_14 + 1)) Weak.toA hE (Nat.lt_succ_self _)
     ·have hE := condF hc18 hE
      try dsimp only at hc18
      refine AWp.exit ?_
      exact hK8 _ s3_13 Weak.toA hE
  ·rintro s3_9 hE
   try dsimp only at hE
   unfold r08_Large_j8 at hE
   refine AWp.seqK fun K10 hK10 => ?_
   refine AWp.region ?_
   refine AOps.s0 (Cert.move (by conv => lhs; whnf)) rfl ?_
   refine AOps.s0 (Cert.binI rfl rfl rfl) rfl ?_
   refine AOps.s0 (Cert.assign (by conv => lhs; whnf)) rfl ?_
   refine AOps.nil ?_
   refine hK10 _ ?_
   clear hK10 K10
   refine AWp.ret ?_
   repeat (first | refine xBlock_ret ?_ | refine xThen_ret ?_)
   obtain rfl := Option.some.inj hE
   refine retQ.retF H rfl ⟨rfl, rfl⟩ ?_
   exact (fun _ _ h => h)
def r01_letter (a0 : Int) : Option Bool := some ((((decide ((65 : Int) ≤ a0)) && (decide (a0 ≤ (90 : Int)))) || ((decide ((97 : Int) ≤ a0)) && (decide (a0 ≤ (122 : Int))))) || (decide (a0 = (95 : Int))))
set_option maxRecDepth 100000 in
set_option maxHeartbeats 2000000 in
theorem r01_letter_walk {a0 : Int}   {r : Bool} (hE : r01_letter a0 = some r) (H : Heap)  : ACalls Try.prog 52 [.d (.int .u8 a0)] H fun v h' => v = .a (.d (.bool r)) ∧ h' = H := by
 unfold r01_letter at hE
 refine ACalls.of_wp (fn := Try.f52) (c := _) Try.tab_ok (fun _ _ => Try.call52 _ _) Try.func52 rfl (n := 21) rfl (rs := [.tmp 2]) rfl rfl ?_
 refine AWp.seqK fun K1 hK1 => ?_
 refine AWp.region ?_
 refine AOps.s0 (Cert.assign (by conv => lhs; whnf)) rfl ?_
 refine AOps.nil ?_
 refine hK1 _ ?_
 clear hK1 K1
 refine AWp.seqK fun K2 hK2 => ?_
 refine AWp.region ?_
 refine AOps.s0 (Cert.move (by conv => lhs; whnf)) rfl ?_
 refine AOps.s0 (Cert.binI rfl rfl rfl) rfl ?_
 refine AOps.s0 (Cert.move (by conv => lhs; whnf)) rfl ?_
 refine AOps.gC rfl rfl (fun hC => Cert.move (by conv => lhs; whnf)) rfl ?_
 refine AOps.gC rfl rfl (fun hC => Cert.ungd (k := 6) rfl (by first | exact hC | exact andL hC | exact andL (andL hC) | exact andL (andL (andL hC)) | exact andR hC | simp_all) (Cert.binI rfl rfl rfl)) rfl ?_
 refine AOps.s0 (Cert.pickAnd rfl rfl (fun h => by first | exact h | exact notT h | exact andI hC h | exact andI hC (notT h) | simp_all) rfl) rfl ?_
 refine AOps.s0 (Cert.move (by conv => lhs; whnf)) rfl ?_
 refine AOps.gC rfl rfl (fun hC => Cert.move (by conv => lhs; whnf)) rfl ?_
 refine AOps.gC rfl rfl (fun hC => Cert.ungd (k := 10) rfl (by first | exact hC | exact andL hC | exact andL (andL hC) | exact andL (andL (andL hC)) | exact andR hC | simp_all) (Cert.binI rfl rfl rfl)) rfl ?_
 refine AOps.gC rfl rfl (fun hC => Cert.ungd (k := 11) rfl (by first | exact hC | exact andL hC | exact andL (andL hC) | exact andL (andL (andL hC)) | exact andR hC | simp_all) (Cert.move (by conv => lhs; whnf))) rfl ?_
 refine AOps.gC rfl rfl (fun hC => Cert.move (by conv => lhs; whnf)) rfl ?_
 refine AOps.gC rfl rfl (fun hC => Cert.ungd (k := 13) rfl (by first | exact hC | exact andL hC | exact andL (andL hC) | exact andL (andL (andL hC)) | exact andR hC | simp_all) (Cert.binI rfl rfl rfl)) rfl ?_
 refine AOps.gC rfl rfl (fun hC => Cert.ungd (k := 12) rfl (by first | exact hC | exact andL hC | exact andL (andL hC) | exact andL (andL (andL hC)) | exact andR hC | simp_all) (Cert.pickAnd rfl rfl (fun h => by first | exact h | exact notT h | exact andI hC h | exact andI hC (notT h) | simp_all) rfl)) rfl ?_
 refine AOps.s0 (Cert.pickOr rfl rfl rfl (fun h => by first | exact h | exact notT h | exact andI hC h | exact andI hC (notT h) | simp_all)) rfl ?_
 refine AOps.s0 (Cert.move (by conv => lhs; whnf)) rfl ?_
 refine AOps.gC rfl rfl (fun hC => Cert.move (by conv => lhs; whnf)) rfl ?_
 refine AOps.gC rfl rfl (fun hC => Cert.ungd (k := 18) rfl (by first | exact hC | exact andL hC | exact andL (andL hC) | exact andL (andL (andL hC)) | exact andR hC | simp_all) (Cert.binI rfl rfl rfl)) rfl ?_
 refine AOps.s0 (Cert.pickOr rfl rfl rfl (fun h => by first | exact h | exact notT h | exact andI hC h | exact andI hC (notT h) | simp_all)) rfl ?_
 refine AOps.s0 (Cert.assign (by conv => lhs; whnf)) rfl ?_
 refine AOps.nil ?_
 refine hK2 _ ?_
 clear hK2 K2
 refine AWp.ret ?_
 repeat (first | refine xBlock_ret ?_ | refine xThen_ret ?_)
 obtain rfl := Option.some.inj hE
 refine retQ.retF H rfl ⟨rfl, rfl⟩ ?_
 exact (fun _ _ h => h)
def r01_digit (a0 : Int) : Option Bool := some ((decide ((48 : Int) ≤ a0)) && (decide (a0 ≤ (57 : Int))))
set_option maxRecDepth 100000 in
set_option maxHeartbeats 2000000 in
theorem r01_digit_walk {a0 : Int}   {r : Bool} (hE : r01_digit a0 = some r) (H : Heap)  : ACalls Try.prog 53 [.d (.int .u8 a0)] H fun v h' => v = .a (.d (.bool r)) ∧ h' = H := by
 unfold r01_digit at hE
 refine ACalls.of_wp (fn := Try.f53) (c := _) Try.tab_ok (fun _ _ => Try.call53 _ _) Try.func53 rfl (n := 9) rfl (rs := [.tmp 2]) rfl rfl ?_
 refine AWp.seqK fun K1 hK1 => ?_
 refine AWp.region ?_
 refine AOps.s0 (Cert.assign (by conv => lhs; whnf)) rfl ?_
 refine AOps.nil ?_
 refine hK1 _ ?_
 clear hK1 K1
 refine AWp.seqK fun K2 hK2 => ?_
 refine AWp.region ?_
 refine AOps.s0 (Cert.move (by conv => lhs; whnf)) rfl ?_
 refine AOps.s0 (Cert.binI rfl rfl rfl) rfl ?_
 refine AOps.s0 (Cert.move (by conv => lhs; whnf)) rfl ?_
 refine AOps.gC rfl rfl (fun hC => Cert.move (by conv => lhs; whnf)) rfl ?_
 refine AOps.gC rfl rfl (fun hC => Cert.ungd (k := 6) rfl (by first | exact hC | exact andL hC | exact andL (andL hC) | exact andL (andL (andL hC)) | exact andR hC | simp_all) (Cert.binI rfl rfl rfl)) rfl ?_
 refine AOps.s0 (Cert.pickAnd rfl rfl (fun h => by first | exact h | exact notT h | exact andI hC h | exact andI hC (notT h) | simp_all) rfl) rfl ?_
 refine AOps.s0 (Cert.assign (by conv => lhs; whnf)) rfl ?_
 refine AOps.nil ?_
 refine hK2 _ ?_
 clear hK2 K2
 refine AWp.ret ?_
 repeat (first | refine xBlock_ret ?_ | refine xThen_ret ?_)
 obtain rfl := Option.some.inj hE
 refine retQ.retF H rfl ⟨rfl, rfl⟩ ?_
 exact (fun _ _ h => h)
def r01_Name_j7 (a0 : Bs)   : Option Bool := some true
def r01_Name_l10 (a0 : Bs)  : Nat → Nat → Option Bool
 | 0, _ => none
 | n10 + 1, s3_11 => bif (decide (((s3_11 : Nat) : Int) < ((a0.length : Nat) : Int))) then ((a0[s3_11]?).bind fun x18 => (r01_letter ((x18.toNat : Nat) : Int)).bind fun x19 => guardO (((!x19) && !(decide (((s3_11 : Nat) : Int) = (0 : Int))))) (a0[s3_11]?) (0 : UInt8) fun x20 => guardO (((!x19) && !(decide (((s3_11 : Nat) : Int) = (0 : Int))))) (r01_digit ((x20.toNat : Nat) : Int)) false fun x21 => bif ((!x19) && ((decide (((s3_11 : Nat) : Int) = (0 : Int))) || (!x21))) then (some false) else ((r01_Name_l10 a0 n10) (s3_11 + 1))) else (r01_Name_j7 a0  )
def r01_Name (a0 : Bs) : Option Bool := bif ((decide (((a0.length : Nat) : Int) < (1 : Int))) || (decide ((64 : Int) < ((a0.length : Nat) : Int)))) then (some false) else (r01_Name_l10 a0 (a0.length + 1) 0)
set_option maxRecDepth 100000 in
set_option maxHeartbeats 2000000 in
theorem r01_Name_walk {a0 : Bs}   {r : Bool} (hE : r01_Name a0 = some r) (H : Heap)  : ACalls Try.prog 41 [.d (.str a0)] H fun v h' => v = .a (.d (.bool r)) ∧ h' = H := by
 unfold r01_Name at hE
 refine ACalls.of_wp (fn := Try.f41) (c := _) Try.tab_ok (fun _ _ => Try.call41 _ _) Try.func41 rfl (n := 34) rfl (rs := [.tmp 2]) rfl rfl ?_
 refine AWp.seqK fun K1 hK1 => ?_
 refine AWp.region ?_
 refine AOps.s0 (Cert.assign (by conv => lhs; whnf)) rfl ?_
 refine AOps.nil ?_
 refine hK1 _ ?_
 clear hK1 K1
 refine AWp.seqK fun K2 hK2 => ?_
 refine AWp.seqK fun K3 hK3 => ?_
 refine AWp.region ?_
 refine AOps.s0 (Cert.move (by conv => lhs; whnf)) rfl ?_
 refine AOps.sLenS (Try.tab_ok _ _ rfl) rfl rfl rfl rfl fun hL4 => ?_
 refine AOps.s0 (Cert.binI rfl rfl rfl) rfl ?_
 refine AOps.s0 (Cert.move (by conv => lhs; whnf)) rfl ?_
 refine AOps.gC rfl rfl (fun hC => Cert.move (by conv => lhs; whnf)) rfl ?_
 refine AOps.gC rfl rfl (fun hC => Cert.ungd (k := 8) rfl (by first | exact hC | exact andL hC | exact andL (andL hC) | exact andL (andL (andL hC)) | exact andR hC | simp_all) (Cert.lenS (Try.tab_ok _ _ rfl) rfl rfl rfl)) rfl ?_
 refine AOps.gC rfl rfl (fun hC => Cert.ungd (k := 9) rfl (by first | exact hC | exact andL hC | exact andL (andL hC) | exact andL (andL (andL hC)) | exact andR hC | simp_all) (Cert.binI rfl rfl rfl)) rfl ?_
 refine AOps.s0 (Cert.pickOr rfl rfl rfl (fun h => by first | exact h | exact notT h | exact andI hC h | exact andI hC (notT h) | simp_all)) rfl ?_
 refine AOps.nil ?_
 refine hK3 _ ?_
 clear hK3 K3
 refine AWp.cond rfl (fun hc5 => ?_) (fun hc5 => ?_)
 ·have hE := condT hc5 hE
  try dsimp only at hc5
  refine AWp.seqK fun K6 hK6 => ?_
  refine AWp.region ?_
  refine AOps.s0 (Cert.assign (by conv => lhs; whnf)) rfl ?_
  refine AOps.nil ?_
  refine hK6 _ ?_
  clear hK6 K6
  refine AWp.ret ?_
  repeat (first | refine xBlock_ret ?_ | refine xThen_ret ?_)
  obtain rfl := Option.some.inj hE
  refine retQ.retF H rfl ⟨rfl, rfl⟩ ?_
  exact (fun _ _ h => h)
 ·have hE := condF hc5 hE
  try dsimp only at hc5
  refine AWp.skip ?_
  refine hK2 _ ?_
  clear hK2 K2
  refine AWp.seqJH KeepsT.nil (fun (z : Unit) => []) (fun z => H) (fun z => r01_Name_j7 a0  = some r) ?_ ?_
  ·intro K7 hK7
   refine AWp.seqK fun K9 hK9 => ?_
   refine AWp.region ?_
   refine AOps.s0 (Cert.assign (by conv => lhs; whnf)) rfl ?_
   refine AOps.nil ?_
   refine hK9 _ ?_
   clear hK9 K9
   refine AWp.block ?_
   refine AWp.loopH (KeepsT.cons (k := 0) (by conv => lhs; whnf) KeepsT.nil) (fun (z : Nat × Nat) => [(3, .a (.d (.int .i64 ((z.2 : Nat) : Int))))]) (fun z => H) (fun z => z.1) (fun z => r01_Name_l10 a0 z.1 z.2 = some r) ((a0.length + 1), 0) hE Weak.toA ?_
   rintro ⟨n10, s3_11⟩ hE K10 hK10
   try dsimp only at hE
   cases n10 with
   | zero => cases hE
   | succ n10 =>
     rw [r01_Name_l10] at hE
     refine AWp.seqK fun K12 hK12 => ?_
     refine AWp.seqK fun K13 hK13 => ?_
     refine AWp.region ?_
     refine AOps.s0 (Cert.move (by conv => lhs; whnf)) rfl ?_
     refine AOps.s0 (Cert.move (by conv => lhs; whnf)) rfl ?_
     refine AOps.sLenS (Try.tab_ok _ _ rfl) rfl rfl rfl rfl fun hL14 => ?_
     refine AOps.s0 (Cert.binI rfl rfl rfl) rfl ?_
     refine AOps.nil ?_
     refine hK13 _ ?_
     clear hK13 K13
     refine AWp.cond rfl (fun hc15 => ?_) (fun hc15 => ?_)
     ·have hE := condT hc15 hE
      try dsimp only at hc15
      have hf15 := of_decide_eq_true hc15
      refine AWp.skip ?_
      refine hK12 _ ?_
      clear hK12 K12
      refine AWp.seqK fun K16 hK16 => ?_
      refine AWp.block ?_
      refine AWp.seqK fun K17 hK17 => ?_
      refine AWp.region ?_
      refine AOps.s0 (Cert.move (by conv => lhs; whnf)) rfl ?_
      refine AOps.s0 (Cert.move (by conv => lhs; whnf)) rfl ?_
      obtain ⟨x18, gx18, hE⟩ := bindO_some hE
      refine AOps.s0 (Cert.idxSn (n := s3_11) (Try.tab_ok _ _ rfl) rfl rfl rfl gx18) rfl ?_
      obtain ⟨x19, gx19, hE⟩ := bindO_some hE
      refine AOps.s0 (Cert.callP rfl rfl (fun H => r01_letter_walk gx19 H)) rfl ?_
      refine AOps.s0 (Cert.notB rfl) rfl ?_
      refine AOps.s0 (Cert.move (by conv => lhs; whnf)) rfl ?_
      refine AOps.gC rfl rfl (fun hC => Cert.move (by conv => lhs; whnf)) rfl ?_
      refine AOps.gC rfl rfl (fun hC => Cert.ungd (k := 24) rfl (by first | exact hC | exact andL hC | exact andL (andL hC) | exact andL (andL (andL hC)) | exact andR hC | simp_all) (Cert.binI rfl rfl rfl)) rfl ?_
      refine AOps.gC rfl rfl (fun hC => Cert.ungd (k := 25) rfl (by first | exact hC | exact andL hC | exact andL (andL hC) | exact andL (andL (andL hC)) | exact andR hC | simp_all) (Cert.move (by conv => lhs; whnf))) rfl ?_
      refine AOps.gC rfl rfl (fun hC => Cert.move (by conv => lhs; whnf)) rfl ?_
      refine AOps.gC rfl rfl (fun hC => Cert.move (by conv => lhs; whnf)) rfl ?_
      obtain ⟨x20, gx20, hE⟩ := guardO_some hE
      refine AOps.gC rfl rfl (fun hC => Cert.ungd (k := 27) rfl (by first | exact hC | exact andL hC | exact andL (andL hC) | exact andL (andL (andL hC)) | exact andR hC | simp_all) (Cert.ungd (k := 28) rfl (by first | exact hC | exact andL hC | exact andL (andL hC) | exact andL (andL (andL hC)) | exact andR hC | simp_all) (Cert.idxSn (n := s3_11) (Try.tab_ok _ _ rfl) rfl rfl rfl (gx20 hC)))) rfl ?_
      obtain ⟨x21, gx21, hE⟩ := guardO_some hE
      refine AOps.gC rfl rfl (fun hC => Cert.ungd (k := 29) rfl (by first | exact hC | exact andL hC | exact andL (andL hC) | exact andL (andL (andL hC)) | exact andR hC | simp_all) (Cert.callP rfl rfl (fun H => r01_digit_walk (gx21 hC) H))) rfl ?_
      refine AOps.gC rfl rfl (fun hC => Cert.ungd (k := 30) rfl (by first | exact hC | exact andL hC | exact andL (andL hC) | exact andL (andL (andL hC)) | exact andR hC | simp_all) (Cert.notB rfl)) rfl ?_
      refine AOps.gC rfl rfl (fun hC => Cert.ungd (k := 26) rfl (by first | exact hC | exact andL hC | exact andL (andL hC) | exact andL (andL (andL hC)) | exact andR hC | simp_all) (Cert.pickOr rfl rfl rfl (fun h => by first | exact h | exact notT h | exact andI hC h | exact andI hC (notT h) | simp_all))) rfl ?_
      refine AOps.s0 (Cert.pickAnd rfl rfl (fun h => by first | exact h | exact notT h | exact andI hC h | exact andI hC (notT h) | simp_all) rfl) rfl ?_
      refine AOps.nil ?_
      refine hK17 _ ?_
      clear hK17 K17
      refine AWp.cond rfl (fun hc22 => ?_) (fun hc22 => ?_)
      ·have hE := condT hc22 hE
       try dsimp only at hc22
       refine AWp.seqK fun K23 hK23 => ?_
       refine AWp.region ?_
       refine AOps.s0 (Cert.assign (by conv => lhs; whnf)) rfl ?_
       refine AOps.nil ?_
       refine hK23 _ ?_
       clear hK23 K23
       refine AWp.ret ?_
       repeat (first | refine xBlock_ret ?_ | refine xThen_ret ?_)
       obtain rfl := Option.some.inj hE
       refine retQ.retF H rfl ⟨rfl, rfl⟩ ?_
       exact (fun _ _ h => h)
      ·have hE := condF hc22 hE
       try dsimp only at hc22
       refine AWp.skip ?_
       refine hK16 _ ?_
       clear hK16 K16
       refine AWp.region ?_
       refine AOps.s0 (Cert.move (by conv => lhs; whnf)) rfl ?_
       refine AOps.s0 (Cert.addI rfl rfl (by first | omega | (dsimp only; omega)) (by first | omega | (dsimp only; omega))) rfl ?_
       refine AOps.s0 (Cert.assign (by conv => lhs; whnf)) rfl ?_
       refine AOps.nil ?_
       exact hK10 _ (n10, (s3_11 + 1)) Weak.toA hE (Nat.lt_succ_self _)
     ·have hE := condF hc15 hE
      try dsimp only at hc15
      refine AWp.exit ?_
      exact hK7 _ () Weak.toA hE
  ·rintro _ hE
   try dsimp only at hE
   unfold r01_Name_j7 at hE
   refine AWp.seqK fun K8 hK8 => ?_
   refine AWp.region ?_
   refine AOps.s0 (Cert.assign (by conv => lhs; whnf)) rfl ?_
   refine AOps.nil ?_
   refine hK8 _ ?_
   clear hK8 K8
   refine AWp.ret ?_
   repeat (first | refine xBlock_ret ?_ | refine xThen_ret ?_)
   obtain rfl := Option.some.inj hE
   refine retQ.retF H rfl ⟨rfl, rfl⟩ ?_
   exact (fun _ _ h => h)
def r02_Depth_j3 (a0 : TValue)  (s3_4 : Int) : Option Int := (addC s3_4 (1 : Int)).bind fun x6 => some x6
def r02_Depth_l8 (a0 : TValue) (k_rec_68 : TValue → Option Int) : Nat → Int → Nat → Option Int
 | 0, _, _ => none
 | n8 + 1, s3_9, s4_10 => bif (decide (((s4_10 : Nat) : Int) < ((a0.FItems.l.length : Nat) : Int))) then ((a0.FItems.l[s4_10]?).bind fun x16 => (k_rec_68 x16).bind fun x17 => (r02_Depth_l8 a0 k_rec_68 n8) (if x17 > s3_9 then x17 else s3_9) (s4_10 + 1)) else (r02_Depth_j3 a0  s3_9)
def r02_Depth_n : Nat → TValue → Option Int
 | 0, _ => none
 | n + 1, a0 => r02_Depth_l8 a0 (r02_Depth_n n) (a0.FItems.l.length + 1) (0 : Int) 0
set_option maxRecDepth 100000 in
set_option maxHeartbeats 2000000 in
theorem r02_Depth_step (n : Nat) (ih_68 : ∀ {a0 : TValue}   {r : Int}, r02_Depth_n n a0 = some r → ∀ (H : Heap), ACalls Try.prog 68 [.agg (TValue.c a0)] H fun v h' => v = .a (.d (.int .i64 r)) ∧ h' = H) : ∀ {a0 : TValue}   {r : Int}, r02_Depth_n (n + 1) a0 = some r → ∀ (H : Heap), ACalls Try.prog 68 [.agg (TValue.c a0)] H fun v h' => v = .a (.d (.int .i64 r)) ∧ h' = H := by
 intro a0   r hE H 
 rw [r02_Depth_n] at hE
 refine ACalls.of_wp (fn := Try.f68) (c := _) Try.tab_ok (fun _ _ => Try.call68 _ _) Try.func68 rfl (n := 22) rfl (rs := [.tmp 2]) rfl rfl ?_
 refine AWp.seqK fun K1 hK1 => ?_
 refine AWp.region ?_
 refine AOps.s0 (Cert.boxV rfl) rfl ?_
 refine AOps.s0 (Cert.assign (by conv => lhs; whnf)) rfl ?_
 refine AOps.nil ?_
 refine hK1 _ ?_
 clear hK1 K1
 refine AWp.seqK fun K2 hK2 => ?_
 refine AWp.region ?_
 refine AOps.s0 (Cert.assign (by conv => lhs; whnf)) rfl ?_
 refine AOps.nil ?_
 refine hK2 _ ?_
 clear hK2 K2
 refine AWp.seqJH KeepsT.nil (fun (z : Int) => [(3, .a (.d (.int .i64 z)))]) (fun z => H) (fun z => r02_Depth_j3 a0 z = some r) ?_ ?_
 ·intro K3 hK3
  refine AWp.seqK fun K7 hK7 => ?_
  refine AWp.region ?_
  refine AOps.s0 (Cert.assign (by conv => lhs; whnf)) rfl ?_
  refine AOps.nil ?_
  refine hK7 _ ?_
  clear hK7 K7
  refine AWp.block ?_
  refine AWp.loopH (KeepsT.cons (k := 1) (by conv => lhs; whnf) KeepsT.nil) (fun (z : Nat × Int × Nat) => [(3, .a (.d (.int .i64 z.2.1))), (4, .a (.d (.int .i64 ((z.2.2 : Nat) : Int))))]) (fun z => H) (fun z => z.1) (fun z => r02_Depth_l8 a0 (r02_Depth_n n) z.1 z.2.1 z.2.2 = some r) ((a0.FItems.l.length + 1), (0 : Int), 0) hE Weak.toA ?_
  rintro ⟨n8, s3_9, s4_10⟩ hE K8 hK8
  try dsimp only at hE
  cases n8 with
  | zero => cases hE
  | succ n8 =>
    rw [r02_Depth_l8] at hE
    refine AWp.seqK fun K11 hK11 => ?_
    refine AWp.seqK fun K12 hK12 => ?_
    refine AWp.region ?_
    refine AOps.s0 (Cert.move (by conv => lhs; whnf)) rfl ?_
    refine AOps.s0 (Cert.fieldV (Try.tab_ok _ _ rfl) rfl rfl (Try.tab_ok _ _ rfl) rfl rfl (by conv => lhs; whnf)) rfl ?_
    refine AOps.s0 (Cert.loadV (Try.tab_ok _ _ rfl) rfl rfl (congrArg (fun x => some (A.d x)) (TValue.FItemsD_eq _))) rfl ?_
    refine AOps.sLen (f := TValue.c) (s := a0.FItems) (Try.tab_ok _ _ rfl) rfl rfl rfl rfl fun hL13 => ?_
    refine AOps.s0 (Cert.binI rfl rfl rfl) rfl ?_
    refine AOps.nil ?_
    refine hK12 _ ?_
    clear hK12 K12
    refine AWp.cond rfl (fun hc14 => ?_) (fun hc14 => ?_)
    ·have hE := condT hc14 hE
     try dsimp only at hc14
     have hf14 := of_decide_eq_true hc14
     refine AWp.skip ?_
     refine hK11 _ ?_
     clear hK11 K11
     refine AWp.seqK fun K15 hK15 => ?_
     refine AWp.block ?_
     refine AWp.region ?_
     refine AOps.s0 (Cert.move (by conv => lhs; whnf)) rfl ?_
     refine AOps.s0 (Cert.fieldV (Try.tab_ok _ _ rfl) rfl rfl (Try.tab_ok _ _ rfl) rfl rfl (by conv => lhs; whnf)) rfl ?_
     refine AOps.s0 (Cert.loadV (Try.tab_ok _ _ rfl) rfl rfl (congrArg (fun x => some (A.d x)) (TValue.FItemsD_eq _))) rfl ?_
     refine AOps.s0 (Cert.move (by conv => lhs; whnf)) rfl ?_
     obtain ⟨x16, gx16, hE⟩ := bindO_some hE
     refine AOps.s0 (Cert.idxMn (f := TValue.c) (n := s4_10) (Try.tab_ok _ _ rfl) rfl (Try.tab_ok _ _ rfl) rfl rfl rfl gx16) rfl ?_
     refine AOps.s0 (Cert.loadV (Try.tab_ok _ _ rfl) rfl rfl rfl) rfl ?_
     obtain ⟨x17, gx17, hE⟩ := bindO_some hE
     refine AOps.s0 (Cert.callP rfl rfl (fun H => ih_68 gx17 H)) rfl ?_
     refine AOps.s0 (Cert.maxM rfl rfl) rfl ?_
     refine AOps.s0 (Cert.assign (by conv => lhs; whnf)) rfl ?_
     refine AOps.nil ?_
     refine hK15 _ ?_
     clear hK15 K15
     refine AWp.region ?_
     refine AOps.s0 (Cert.move (by conv => lhs; whnf)) rfl ?_
     refine AOps.s0 (Cert.addI rfl rfl (by first | omega | (dsimp only; omega)) (by first | omega | (dsimp only; omega))) rfl ?_
     refine AOps.s0 (Cert.assign (by conv => lhs; whnf)) rfl ?_
     refine AOps.nil ?_
     exact hK8 _ (n8, (if x17 > s3_9 then x17 else s3_9), (s4_10 + 1)) Weak.toA hE (Nat.lt_succ_self _)
    ·have hE := condF hc14 hE
     try dsimp only at hc14
     refine AWp.exit ?_
     exact hK3 _ s3_9 Weak.toA hE
 ·rintro s3_4 hE
  try dsimp only at hE
  unfold r02_Depth_j3 at hE
  refine AWp.seqK fun K5 hK5 => ?_
  refine AWp.region ?_
  refine AOps.s0 (Cert.move (by conv => lhs; whnf)) rfl ?_
  obtain ⟨x6, gx6, hE⟩ := bindO_some hE
  refine AOps.s0 (Cert.addM rfl rfl gx6) rfl ?_
  refine AOps.s0 (Cert.assign (by conv => lhs; whnf)) rfl ?_
  refine AOps.nil ?_
  refine hK5 _ ?_
  clear hK5 K5
  refine AWp.ret ?_
  repeat (first | refine xBlock_ret ?_ | refine xThen_ret ?_)
  obtain rfl := Option.some.inj hE
  refine retQ.retF H rfl ⟨rfl, rfl⟩ ?_
  exact (fun _ _ h => h)
theorem r02_Depth_all : ∀ (n : Nat), (∀ {a0 : TValue}   {r : Int}, r02_Depth_n n a0 = some r → ∀ (H : Heap), ACalls Try.prog 68 [.agg (TValue.c a0)] H fun v h' => v = .a (.d (.int .i64 r)) ∧ h' = H)
 | 0 => fun hE => by first | cases hE | (rw [r02_Depth_n] at hE; cases hE)
 | n + 1 => r02_Depth_step n (r02_Depth_all n)
def r02_Depth (a0 : TValue) : Option Int := r02_Depth_n F0 a0
theorem r02_Depth_walk {a0 : TValue}   {r : Int} (hE : r02_Depth a0 = some r) (H : Heap)  : ACalls Try.prog 68 [.agg (TValue.c a0)] H fun v h' => v = .a (.d (.int .i64 r)) ∧ h' = H := (r02_Depth_all F0) hE H 
def r02_twice_j2 (a0 : (Sl Bs))   : Option Bool := some false
def r02_twice_j11 (a0 : (Sl Bs)) (n5 : Nat) (s3_6 : Nat) (k_next_5 : Nat → Option Bool)  : Option Bool := k_next_5 (s3_6 + 1)
def r02_twice_l13 (a0 : (Sl Bs)) (n5 : Nat) (s3_6 : Nat) (k_next_5 : Nat → Option Bool) : Nat → Nat → Option Bool
 | 0, _ => none
 | n13 + 1, s4_14 => bif (decide (((s4_14 : Nat) : Int) < ((s3_6 : Nat) : Int))) then ((a0.l[s3_6]?).bind fun x20 => (a0.l[s4_14]?).bind fun x21 => bif ((x20 == x21)) then (some true) else ((r02_twice_l13 a0 n5 s3_6 k_next_5 n13) (s4_14 + 1))) else (r02_twice_j11 a0 n5 s3_6 k_next_5 )
def r02_twice_l5 (a0 : (Sl Bs))  : Nat → Nat → Option Bool
 | 0, _ => none
 | n5 + 1, s3_6 => bif (decide (((s3_6 : Nat) : Int) < ((a0.l.length : Nat) : Int))) then (r02_twice_l13 a0 n5 s3_6 ((r02_twice_l5 a0 n5)) (s3_6 + 1) 0) else (r02_twice_j2 a0  )
def r02_twice (a0 : (Sl Bs)) : Option Bool := r02_twice_l5 a0 (a0.l.length + 1) 0
set_option maxRecDepth 100000 in
set_option maxHeartbeats 2000000 in
theorem r02_twice_walk {a0 : (Sl Bs)} {w0 : Option Nat}  {r : Bool} (hE : r02_twice a0 = some r) (H : Heap)  : ACalls Try.prog 87 [.d (Sl.d 1 strE w0 a0)] H fun v h' => v = .a (.d (.bool r)) ∧ h' = H := by
 unfold r02_twice at hE
 refine ACalls.of_wp (fn := Try.f87) (c := _) Try.tab_ok (fun _ _ => Try.call87 _ _) Try.func87 rfl (n := 25) rfl (rs := [.tmp 2]) rfl rfl ?_
 refine AWp.seqK fun K1 hK1 => ?_
 refine AWp.region ?_
 refine AOps.s0 (Cert.assign (by conv => lhs; whnf)) rfl ?_
 refine AOps.nil ?_
 refine hK1 _ ?_
 clear hK1 K1
 refine AWp.seqJH KeepsT.nil (fun (z : Unit) => []) (fun z => H) (fun z => r02_twice_j2 a0  = some r) ?_ ?_
 ·intro K2 hK2
  refine AWp.seqK fun K4 hK4 => ?_
  refine AWp.region ?_
  refine AOps.s0 (Cert.assign (by conv => lhs; whnf)) rfl ?_
  refine AOps.nil ?_
  refine hK4 _ ?_
  clear hK4 K4
  refine AWp.block ?_
  refine AWp.loopH (KeepsT.cons (k := 0) (by conv => lhs; whnf) KeepsT.nil) (fun (z : Nat × Nat) => [(3, .a (.d (.int .i64 ((z.2 : Nat) : Int))))]) (fun z => H) (fun z => z.1) (fun z => r02_twice_l5 a0 z.1 z.2 = some r) ((a0.l.length + 1), 0) hE Weak.toA ?_
  rintro ⟨n5, s3_6⟩ hE K5 hK5
  try dsimp only at hE
  cases n5 with
  | zero => cases hE
  | succ n5 =>
    rw [r02_twice_l5] at hE
    refine AWp.seqK fun K7 hK7 => ?_
    refine AWp.seqK fun K8 hK8 => ?_
    refine AWp.region ?_
    refine AOps.s0 (Cert.move (by conv => lhs; whnf)) rfl ?_
    refine AOps.s0 (Cert.move (by conv => lhs; whnf)) rfl ?_
    refine AOps.sLen (f := strE) (s := a0) (Try.tab_ok _ _ rfl) rfl rfl rfl rfl fun hL9 => ?_
    refine AOps.s0 (Cert.binI rfl rfl rfl) rfl ?_
    refine AOps.nil ?_
    refine hK8 _ ?_
    clear hK8 K8
    refine AWp.cond rfl (fun hc10 => ?_) (fun hc10 => ?_)
    ·have hE := condT hc10 hE
     try dsimp only at hc10
     have hf10 := of_decide_eq_true hc10
     refine AWp.skip ?_
     refine hK7 _ ?_
     clear hK7 K7
     refine AWp.seqJH (KeepsT.cons (k := 0) (by conv => lhs; whnf) (KeepsT.cons (k := 3) (by conv => lhs; whnf) KeepsT.nil)) (fun (z : Unit) => []) (fun z => H) (fun z => r02_twice_j11 a0 n5 s3_6 ((r02_twice_l5 a0 n5))  = some r) ?_ ?_
     ·intro K11 hK11
      refine AWp.block ?_
      refine AWp.seqK fun K12 hK12 => ?_
      refine AWp.region ?_
      refine AOps.s0 (Cert.assign (by conv => lhs; whnf)) rfl ?_
      refine AOps.nil ?_
      refine hK12 _ ?_
      clear hK12 K12
      refine AWp.block ?_
      refine AWp.loopH (KeepsT.cons (k := 0) (by conv => lhs; whnf) (KeepsT.cons (k := 3) (by conv => lhs; whnf) KeepsT.nil)) (fun (z : Nat × Nat) => [(4, .a (.d (.int .i64 ((z.2 : Nat) : Int))))]) (fun z => H) (fun z => z.1) (fun z => r02_twice_l13 a0 n5 s3_6 ((r02_twice_l5 a0 n5)) z.1 z.2 = some r) ((s3_6 + 1), 0) hE Weak.toA ?_
      rintro ⟨n13, s4_14⟩ hE K13 hK13
      try dsimp only at hE
      cases n13 with
      | zero => cases hE
      | succ n13 =>
        rw [r02_twice_l13] at hE
        refine AWp.seqK fun K15 hK15 => ?_
        refine AWp.seqK fun K16 hK16 => ?_
        refine AWp.region ?_
        refine AOps.s0 (Cert.move (by conv => lhs; whnf)) rfl ?_
        refine AOps.s0 (Cert.move (by conv => lhs; whnf)) rfl ?_
        refine AOps.s0 (Cert.binI rfl rfl rfl) rfl ?_
        refine AOps.nil ?_
        refine hK16 _ ?_
        clear hK16 K16
        refine AWp.cond rfl (fun hc17 => ?_) (fun hc17 => ?_)
        ·have hE := condT hc17 hE
         try dsimp only at hc17
         have hf17 := of_decide_eq_true hc17
         refine AWp.skip ?_
         refine hK15 _ ?_
         clear hK15 K15
         refine AWp.seqK fun K18 hK18 => ?_
         refine AWp.block ?_
         refine AWp.seqK fun K19 hK19 => ?_
         refine AWp.draw rfl ?_
         refine DOps.s0 (Cert.move (by conv => lhs; whnf)) rfl ?_
         refine DOps.s0 (Cert.move (by conv => lhs; whnf)) rfl ?_
         obtain ⟨x20, gx20, hE⟩ := bindO_some hE
         refine DOps.s0 (Cert.idxMn (f := strE) (n := s3_6) (Try.tab_ok _ _ rfl) rfl (Try.tab_ok _ _ rfl) rfl rfl rfl gx20) rfl ?_
         refine DOps.s0 (Cert.loadV (Try.tab_ok _ _ rfl) rfl rfl rfl) rfl ?_
         refine DOps.s0 (Cert.move (by conv => lhs; whnf)) rfl ?_
         refine DOps.s0 (Cert.move (by conv => lhs; whnf)) rfl ?_
         obtain ⟨x21, gx21, hE⟩ := bindO_some hE
         refine DOps.s0 (Cert.idxMn (f := strE) (n := s4_14) (Try.tab_ok _ _ rfl) rfl (Try.tab_ok _ _ rfl) rfl rfl rfl gx21) rfl ?_
         refine DOps.s0 (Cert.loadV (Try.tab_ok _ _ rfl) rfl rfl rfl) rfl ?_
         refine DOps.s0 (Cert.binS rfl rfl rfl) rfl ?_
         refine DOps.nil (by decide +kernel) ?_
         refine hK19 _ ?_
         clear hK19 K19
         refine AWp.cond rfl (fun hc22 => ?_) (fun hc22 => ?_)
         ·have hE := condT hc22 hE
          try dsimp only at hc22
          refine AWp.seqK fun K23 hK23 => ?_
          refine AWp.region ?_
          refine AOps.s0 (Cert.assign (by conv => lhs; whnf)) rfl ?_
          refine AOps.nil ?_
          refine hK23 _ ?_
          clear hK23 K23
          refine AWp.ret ?_
          repeat (first | refine xBlock_ret ?_ | refine xThen_ret ?_)
          obtain rfl := Option.some.inj hE
          refine retQ.retF H rfl ⟨rfl, rfl⟩ ?_
          exact (fun _ _ h => h)
         ·have hE := condF hc22 hE
          try dsimp only at hc22
          refine AWp.skip ?_
          refine hK18 _ ?_
          clear hK18 K18
          refine AWp.region ?_
          refine AOps.s0 (Cert.move (by conv => lhs; whnf)) rfl ?_
          refine AOps.s0 (Cert.addI rfl rfl (by first | omega | (dsimp only; omega)) (by first | omega | (dsimp only; omega))) rfl ?_
          refine AOps.s0 (Cert.assign (by conv => lhs; whnf)) rfl ?_
          refine AOps.nil ?_
          exact hK13 _ (n13, (s4_14 + 1)) Weak.toA hE (Nat.lt_succ_self _)
        ·have hE := condF hc17 hE
         try dsimp only at hc17
         refine AWp.exit ?_
         exact hK11 _ () Weak.toA hE
     ·rintro _ hE
      try dsimp only at hE
      unfold r02_twice_j11 at hE
      refine AWp.region ?_
      refine AOps.s0 (Cert.move (by conv => lhs; whnf)) rfl ?_
      refine AOps.s0 (Cert.addI rfl rfl (by first | omega | (dsimp only; omega)) (by first | omega | (dsimp only; omega))) rfl ?_
      refine AOps.s0 (Cert.assign (by conv => lhs; whnf)) rfl ?_
      refine AOps.nil ?_
      exact hK5 _ (n5, (s3_6 + 1)) Weak.toA hE (Nat.lt_succ_self _)
    ·have hE := condF hc10 hE
     try dsimp only at hc10
     refine AWp.exit ?_
     exact hK2 _ () Weak.toA hE
 ·rintro _ hE
  try dsimp only at hE
  unfold r02_twice_j2 at hE
  refine AWp.seqK fun K3 hK3 => ?_
  refine AWp.region ?_
  refine AOps.s0 (Cert.assign (by conv => lhs; whnf)) rfl ?_
  refine AOps.nil ?_
  refine hK3 _ ?_
  clear hK3 K3
  refine AWp.ret ?_
  repeat (first | refine xBlock_ret ?_ | refine xThen_ret ?_)
  obtain rfl := Option.some.inj hE
  refine retQ.retF H rfl ⟨rfl, rfl⟩ ?_
  exact (fun _ _ h => h)
end Go.Proofs
