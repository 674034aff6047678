import Derived.Test.YtjghdpblmakljaaV4
import Derived.Test.YtjghdpblmakljaaTab
import Derived.KernelRfl
import Derived.Test.YtjghdpblmakljaaRows
set_option linter.unusedVariables false
set_option linter.unusedSimpArgs false
namespace Go.Proofs
open Go Go.Ab
theorem eqt_60 : eqTab Try.prog 60 = some [.int .i64, .str] := by kernel_rfl
def r10_Faults_j8 (a0 : (Sl TFault)) (a1 : (Sl TFault))   : Option Bool := some true
def r10_Faults_l11 (a0 : (Sl TFault)) (a1 : (Sl TFault))  : Nat → Nat → Option Bool
  | 0, _ => none
  | n11 + 1, s5_12 => bif (decide (((s5_12 : Nat) : Int) < ((a0.l.length : Nat) : Int))) then ((a0.l[s5_12]?).bind fun x19 => (a1.l[s5_12]?).bind fun x20 => bif (!(decide (x19.FErr = x20.FErr) && ((x19.FAt == x20.FAt) && true))) then (some false) else ((r10_Faults_l11 a0 a1 n11) (s5_12 + 1))) else (r10_Faults_j8 a0 a1  )
def r10_Faults (a0 : (Sl TFault)) (a1 : (Sl TFault)) : Option Bool := bif (!decide (((a0.l.length : Nat) : Int) = ((a1.l.length : Nat) : Int))) then (some false) else (r10_Faults_l11 a0 a1 F0 0)
set_option maxRecDepth 100000 in
set_option maxHeartbeats 2000000 in
theorem r10_Faults_walk {a0 : (Sl TFault)} {a1 : (Sl TFault)} {w0 : Option Nat} {w1 : Option Nat}  {r : Bool} (hE : r10_Faults a0 a1 = some r) (H : Heap)  : ACalls Try.prog 12 [.d (Sl.d 2 TFault.c w0 a0), .d (Sl.d 2 TFault.c w1 a1)] H fun v h' => v = .a (.d (.bool r)) ∧ h' = H := by
  unfold r10_Faults at hE
  refine ACalls.of_wp (fn := Try.f12) (c := _) Try.tab_ok (fun _ _ => Try.call12 _ _) Try.func12 rfl (n := 26) rfl (rs := [.tmp 4]) rfl rfl ?_
  refine AWp.seqK fun K1 hK1 => ?_
  refine AWp.region ?_
  refine AOps.s0 (Cert.assign (by conv => lhs; whnf)) rfl ?_
  refine AOps.nil ?_
  refine hK1 _ ?_
  clear hK1 K1
  refine AWp.seqK fun K2 hK2 => ?_
  refine AWp.seqK fun K3 hK3 => ?_
  refine AWp.region ?_
  refine AOps.s0 (Cert.move (by conv => lhs; whnf)) rfl ?_
  refine AOps.sLen (f := TFault.c) (s := a0) (Try.tab_ok _ _ rfl) rfl rfl rfl rfl fun hL4 => ?_
  refine AOps.s0 (Cert.move (by conv => lhs; whnf)) rfl ?_
  refine AOps.sLen (f := TFault.c) (s := a1) (Try.tab_ok _ _ rfl) rfl rfl rfl rfl fun hL5 => ?_
  refine AOps.s0 (Cert.binI rfl rfl rfl) rfl ?_
  refine AOps.nil ?_
  refine hK3 _ ?_
  clear hK3 K3
  refine AWp.cond rfl (fun hc6 => ?_) (fun hc6 => ?_)
  · have hE := condT hc6 hE
    try dsimp only at hc6
    refine AWp.seqK fun K7 hK7 => ?_
    refine AWp.region ?_
    refine AOps.s0 (Cert.assign (by conv => lhs; whnf)) rfl ?_
    refine AOps.nil ?_
    refine hK7 _ ?_
    clear hK7 K7
    refine AWp.ret ?_
    repeat (first | refine xBlock_ret ?_ | refine xThen_ret ?_)
    obtain rfl := Option.some.inj hE
    refine retQ.retF H rfl ⟨rfl, rfl⟩ ?_
    exact (fun _ _ h => h)
  · have hE := condF hc6 hE
    try dsimp only at hc6
    refine AWp.skip ?_
    refine hK2 _ ?_
    clear hK2 K2
    refine AWp.seqJH KeepsT.nil (fun (z : Unit) => []) (fun z => H) (fun z => r10_Faults_j8 a0 a1  = some r) ?_ ?_
    · intro K8 hK8
      refine AWp.seqK fun K10 hK10 => ?_
      refine AWp.region ?_
      refine AOps.s0 (Cert.assign (by conv => lhs; whnf)) rfl ?_
      refine AOps.nil ?_
      refine hK10 _ ?_
      clear hK10 K10
      refine AWp.block ?_
      refine AWp.loopH (KeepsT.cons (k := 0) (by conv => lhs; whnf) (KeepsT.cons (k := 1) (by conv => lhs; whnf) KeepsT.nil)) (fun (z : Nat × Nat) => [(5, .a (.d (.int .i64 ((z.2 : Nat) : Int))))]) (fun z => H) (fun z => z.1) (fun z => r10_Faults_l11 a0 a1 z.1 z.2 = some r) (F0, 0) hE (Weak.to (by repeat (first | exact Keeps.nil | refine Keeps.c rfl rfl ?_ | refine Keeps.c (by (first | (first | rfl | ((conv => lhs; whnf); first | (simp [cellsA, faultsT, faultsD, namesD, Fault.mk_c, Nat.add_assoc, empty_append, Bool.and_assoc]; done) | (simp [cellsA, faultsT, faultsD, namesD, Nat.add_assoc, empty_append, Bool.and_assoc]; repeat (first | rfl | constructor)))) | rfl | (simp only [get_same, ev]; done) | (simp [*, cellsA]; done) | (show V.a (A.d (D.slice _ _ _ _)) = V.a (A.d (D.slice _ _ _ _)); simp [*, cellsA]; done))) rfl ?_)) (by repeat (first | exact Pfx.nil | apply Pfx.cons)) (by first | rfl | (first | rfl | (simp only [Heap.set_set, List.length_append, List.length_nil, List.length_cons, List.length_map, List.length_singleton, Nat.zero_add]; done) | (simp [Heap.set_set, Nat.add_assoc]; done)) | (((funext n; simp only [Heap.set]; (repeat' split) <;> simp_all)) <;> first | rfl | exact ⟨rfl, rfl⟩))) ?_
      rintro ⟨n11, s5_12⟩ hE K11 hK11
      try dsimp only at hE
      cases n11 with
      | zero => cases hE
      | succ n11 =>
          rw [r10_Faults_l11] at hE
          refine AWp.seqK fun K13 hK13 => ?_
          refine AWp.seqK fun K14 hK14 => ?_
          refine AWp.region ?_
          refine AOps.s0 (Cert.move (by conv => lhs; whnf)) rfl ?_
          refine AOps.s0 (Cert.move (by conv => lhs; whnf)) rfl ?_
          refine AOps.sLen (f := TFault.c) (s := a0) (Try.tab_ok _ _ rfl) rfl rfl rfl rfl fun hL15 => ?_
          refine AOps.s0 (Cert.binI rfl rfl rfl) rfl ?_
          refine AOps.nil ?_
          refine hK14 _ ?_
          clear hK14 K14
          refine AWp.cond rfl (fun hc16 => ?_) (fun hc16 => ?_)
          · have hE := condT hc16 hE
            try dsimp only at hc16
            have hf16 := of_decide_eq_true hc16
            refine AWp.skip ?_
            refine hK13 _ ?_
            clear hK13 K13
            refine AWp.seqK fun K17 hK17 => ?_
            refine AWp.block ?_
            refine AWp.seqK fun K18 hK18 => ?_
            refine AWp.draw rfl ?_
            refine DOps.s0 (Cert.move (by conv => lhs; whnf)) rfl ?_
            refine DOps.s0 (Cert.move (by conv => lhs; whnf)) rfl ?_
            obtain ⟨x19, gx19, hE⟩ := bindO_some hE
            refine DOps.s0 (Cert.idxMn (f := TFault.c) (n := s5_12) (Try.tab_ok _ _ rfl) rfl (Try.tab_ok _ _ rfl) rfl rfl rfl gx19) rfl ?_
            refine DOps.s0 (Cert.loadV (Try.tab_ok _ _ rfl) rfl rfl rfl) rfl ?_
            refine DOps.s0 (Cert.move (by conv => lhs; whnf)) rfl ?_
            refine DOps.s0 (Cert.move (by conv => lhs; whnf)) rfl ?_
            obtain ⟨x20, gx20, hE⟩ := bindO_some hE
            refine DOps.s0 (Cert.idxMn (f := TFault.c) (n := s5_12) (Try.tab_ok _ _ rfl) rfl (Try.tab_ok _ _ rfl) rfl rfl rfl gx20) rfl ?_
            refine DOps.s0 (Cert.loadV (Try.tab_ok _ _ rfl) rfl rfl rfl) rfl ?_
            refine DOps.s0 (Cert.neStruct eqt_60 rfl rfl rfl rfl) rfl ?_
            refine DOps.nil (by decide +kernel) ?_
            refine hK18 _ ?_
            clear hK18 K18
            refine AWp.cond rfl (fun hc21 => ?_) (fun hc21 => ?_)
            · have hE := condT hc21 hE
              try dsimp only at hc21
              refine AWp.seqK fun K22 hK22 => ?_
              refine AWp.region ?_
              refine AOps.s0 (Cert.assign (by conv => lhs; whnf)) rfl ?_
              refine AOps.nil ?_
              refine hK22 _ ?_
              clear hK22 K22
              refine AWp.ret ?_
              repeat (first | refine xBlock_ret ?_ | refine xThen_ret ?_)
              obtain rfl := Option.some.inj hE
              refine retQ.retF H rfl ⟨rfl, rfl⟩ ?_
              exact (fun _ _ h => h)
            · have hE := condF hc21 hE
              try dsimp only at hc21
              refine AWp.skip ?_
              refine hK17 _ ?_
              clear hK17 K17
              refine AWp.region ?_
              refine AOps.s0 (Cert.move (by conv => lhs; whnf)) rfl ?_
              refine AOps.s0 (Cert.addI rfl rfl (by first | omega | (dsimp only; omega)) (by first | omega | (dsimp only; omega))) rfl ?_
              refine AOps.s0 (Cert.assign (by conv => lhs; whnf)) rfl ?_
              refine AOps.nil ?_
              exact hK11 _ (n11, (s5_12 + 1)) (Weak.to (by repeat (first | exact Keeps.nil | refine Keeps.c rfl rfl ?_ | refine Keeps.c (by (first | (first | rfl | ((conv => lhs; whnf); first | (simp [cellsA, faultsT, faultsD, namesD, Fault.mk_c, Nat.add_assoc, empty_append, Bool.and_assoc]; done) | (simp [cellsA, faultsT, faultsD, namesD, Nat.add_assoc, empty_append, Bool.and_assoc]; repeat (first | rfl | constructor)))) | rfl | (simp only [get_same, ev]; done) | (simp [*, cellsA]; done) | (show V.a (A.d (D.slice _ _ _ _)) = V.a (A.d (D.slice _ _ _ _)); simp [*, cellsA]; done))) rfl ?_)) (by repeat (first | exact Pfx.nil | apply Pfx.cons)) (by first | rfl | (first | rfl | (simp only [Heap.set_set, List.length_append, List.length_nil, List.length_cons, List.length_map, List.length_singleton, Nat.zero_add]; done) | (simp [Heap.set_set, Nat.add_assoc]; done)) | (((funext n; simp only [Heap.set]; (repeat' split) <;> simp_all)) <;> first | rfl | exact ⟨rfl, rfl⟩))) hE (Nat.lt_succ_self _)
          · have hE := condF hc16 hE
            try dsimp only at hc16
            refine AWp.exit ?_
            exact hK8 _ () (Weak.to (by repeat (first | exact Keeps.nil | refine Keeps.c rfl rfl ?_ | refine Keeps.c (by (first | (first | rfl | ((conv => lhs; whnf); first | (simp [cellsA, faultsT, faultsD, namesD, Fault.mk_c, Nat.add_assoc, empty_append, Bool.and_assoc]; done) | (simp [cellsA, faultsT, faultsD, namesD, Nat.add_assoc, empty_append, Bool.and_assoc]; repeat (first | rfl | constructor)))) | rfl | (simp only [get_same, ev]; done) | (simp [*, cellsA]; done) | (show V.a (A.d (D.slice _ _ _ _)) = V.a (A.d (D.slice _ _ _ _)); simp [*, cellsA]; done))) rfl ?_)) (by repeat (first | exact Pfx.nil | apply Pfx.cons)) (by first | rfl | (first | rfl | (simp only [Heap.set_set, List.length_append, List.length_nil, List.length_cons, List.length_map, List.length_singleton, Nat.zero_add]; done) | (simp [Heap.set_set, Nat.add_assoc]; done)) | (((funext n; simp only [Heap.set]; (repeat' split) <;> simp_all)) <;> first | rfl | exact ⟨rfl, rfl⟩))) hE
    · rintro _ hE
      try dsimp only at hE
      unfold r10_Faults_j8 at hE
      refine AWp.seqK fun K9 hK9 => ?_
      refine AWp.region ?_
      refine AOps.s0 (Cert.assign (by conv => lhs; whnf)) rfl ?_
      refine AOps.nil ?_
      refine hK9 _ ?_
      clear hK9 K9
      refine AWp.ret ?_
      repeat (first | refine xBlock_ret ?_ | refine xThen_ret ?_)
      obtain rfl := Option.some.inj hE
      refine retQ.retF H rfl ⟨rfl, rfl⟩ ?_
      exact (fun _ _ h => h)
def r05_IsNonNull (a0 : TRef) : Option Bool := guardO ((decide ((0 : Int) < ((a0.FWraps.l.length : Nat) : Int)))) (a0.FWraps.l[0]?) (0 : Int) fun x4 => some ((decide ((0 : Int) < ((a0.FWraps.l.length : Nat) : Int))) && (decide (x4 = (1 : Int))))
set_option maxRecDepth 100000 in
set_option maxHeartbeats 2000000 in
theorem r05_IsNonNull_walk {a0 : TRef}   {r : Bool} (hE : r05_IsNonNull a0 = some r) (H : Heap)  : ACalls Try.prog 33 [.agg (TRef.c a0)] H fun v h' => v = .a (.d (.bool r)) ∧ h' = H := by
  unfold r05_IsNonNull at hE
  refine ACalls.of_wp (fn := Try.f33) (c := _) Try.tab_ok (fun _ _ => Try.call33 _ _) Try.func33 rfl (n := 14) rfl (rs := [.tmp 2]) rfl rfl ?_
  refine AWp.seqK fun K1 hK1 => ?_
  refine AWp.region ?_
  refine AOps.s0 (Cert.boxV rfl) rfl ?_
  refine AOps.s0 (Cert.assign (by conv => lhs; whnf)) rfl ?_
  refine AOps.nil ?_
  refine hK1 _ ?_
  clear hK1 K1
  refine AWp.seqK fun K2 hK2 => ?_
  refine AWp.region ?_
  refine AOps.s0 (Cert.fieldV (Try.tab_ok _ _ rfl) rfl rfl (Try.tab_ok _ _ rfl) rfl rfl (by conv => lhs; whnf)) rfl ?_
  refine AOps.s0 (Cert.loadV (Try.tab_ok _ _ rfl) rfl rfl rfl) rfl ?_
  refine AOps.sLen (f := (intE .i64)) (s := a0.FWraps) (Try.tab_ok _ _ rfl) rfl rfl rfl rfl fun hL3 => ?_
  refine AOps.s0 (Cert.binI rfl rfl rfl) rfl ?_
  refine AOps.s0 (Cert.move (by conv => lhs; whnf)) rfl ?_
  refine AOps.gC rfl rfl (fun hC => Cert.fieldV (Try.tab_ok _ _ rfl) rfl rfl (Try.tab_ok _ _ rfl) rfl rfl (by conv => lhs; whnf)) rfl ?_
  refine AOps.gC rfl rfl (fun hC => Cert.ungd (k := 8) rfl (by first | exact hC | exact andL hC | exact andL (andL hC) | exact andL (andL (andL hC)) | exact andR hC | simp_all) (Cert.loadV (Try.tab_ok _ _ rfl) rfl rfl rfl)) rfl ?_
  obtain ⟨x4, gx4, hE⟩ := guardO_some hE
  refine AOps.gC rfl rfl (fun hC => Cert.ungd (k := 9) rfl (by first | exact hC | exact andL hC | exact andL (andL hC) | exact andL (andL (andL hC)) | exact andR hC | simp_all) (Cert.idxMn (f := (intE .i64)) (n := 0) (Try.tab_ok _ _ rfl) rfl (Try.tab_ok _ _ rfl) rfl rfl rfl (gx4 hC))) rfl ?_
  refine AOps.gC rfl rfl (fun hC => Cert.ungd (k := 10) rfl (by first | exact hC | exact andL hC | exact andL (andL hC) | exact andL (andL (andL hC)) | exact andR hC | simp_all) (Cert.loadV (Try.tab_ok _ _ rfl) rfl rfl rfl)) rfl ?_
  refine AOps.gC rfl rfl (fun hC => Cert.ungd (k := 11) rfl (by first | exact hC | exact andL hC | exact andL (andL hC) | exact andL (andL (andL hC)) | exact andR hC | simp_all) (Cert.binI rfl rfl rfl)) rfl ?_
  refine AOps.s0 (Cert.pickAnd rfl rfl (fun h => by first | exact h | exact notT h | exact andI hC h | exact andI hC (notT h) | simp_all) rfl) rfl ?_
  refine AOps.s0 (Cert.assign (by conv => lhs; whnf)) rfl ?_
  refine AOps.nil ?_
  refine hK2 _ ?_
  clear hK2 K2
  refine AWp.ret ?_
  repeat (first | refine xBlock_ret ?_ | refine xThen_ret ?_)
  obtain rfl := Option.some.inj hE
  refine retQ.retF H rfl ⟨rfl, rfl⟩ ?_
  exact (fun _ _ h => h)
def r05_wrap (a0 : Int) (a1 : TRef) : Option TRef := (appC 8 (⟨false, [a0]⟩ : Sl Int) a1.FWraps).bind fun x3 => some (TRef.mk a1.FName x3)
set_option maxRecDepth 100000 in
set_option maxHeartbeats 2000000 in
theorem r05_wrap_walk {a0 : Int} {a1 : TRef}   {r : TRef} (hE : r05_wrap a0 a1 = some r) (H : Heap)  : ACalls Try.prog 34 [.d (.int .i64 a0), .agg (TRef.c a1)] H fun v h' => v = .a (.agg (TRef.c r)) ∧ h' = H := by
  unfold r05_wrap at hE
  refine ACalls.of_wp (fn := Try.f34) (c := _) Try.tab_ok (fun _ _ => Try.call34 _ _) Try.func34 rfl (n := 13) rfl (rs := [.cell 4 29]) rfl rfl ?_
  refine AWp.seqK fun K1 hK1 => ?_
  refine AWp.region ?_
  refine AOps.s0 (Cert.boxV rfl) rfl ?_
  refine AOps.sL (Cert.allocL (Try.tab_ok _ _ rfl) rfl (by repeat (first | exact Snoc.nil | apply Snoc.cons))) rfl ?_
  refine AOps.nil ?_
  refine hK1 _ ?_
  clear hK1 K1
  refine AWp.seqK fun K2 hK2 => ?_
  refine AWp.draw rfl ?_
  refine DOps.s0 (Cert.fieldV (Try.tab_ok _ _ rfl) rfl rfl (Try.tab_ok _ _ rfl) rfl rfl (by conv => lhs; whnf)) rfl ?_
  refine DOps.s0 (Cert.loadV (Try.tab_ok _ _ rfl) rfl rfl rfl) rfl ?_
  refine DOps.s0 (Cert.move (by conv => lhs; whnf)) rfl ?_
  refine DOps.s0 (Cert.buildSliceF (Try.tab_ok _ _ rfl) rfl (Try.tab_ok _ _ rfl) rfl rfl rfl rfl rfl rfl) rfl ?_
  refine DOps.s0 (Cert.fieldV (Try.tab_ok _ _ rfl) rfl rfl (Try.tab_ok _ _ rfl) rfl rfl (by conv => lhs; whnf)) rfl ?_
  refine DOps.s0 (Cert.loadV (Try.tab_ok _ _ rfl) rfl rfl rfl) rfl ?_
  obtain ⟨x3, gx3, hE⟩ := bindO_some hE
  refine DOps.s0 (Cert.appFM (f := (intE .i64)) (Try.tab_ok _ _ rfl) rfl (Try.tab_ok _ _ rfl) (Try.tab_ok _ _ rfl) ⟨_, rfl⟩ rfl rfl (by decide) rfl rfl rfl (by intro q h; cases h <;> decide) rfl rfl gx3) rfl ?_
  refine DOps.s0 (Cert.build Try.tab_ok rfl rfl rfl rfl rfl rfl) rfl ?_
  refine DOps.sLn (Cert.storeLF (Try.tab_ok _ _ rfl) rfl rfl rfl rfl rfl (by repeat (first | exact SetAt.zero | apply SetAt.succ))) ?_
  refine DOps.nil (by decide +kernel) ?_
  refine hK2 _ ?_
  clear hK2 K2
  refine AWp.ret ?_
  repeat (first | refine xBlock_ret ?_ | refine xThen_ret ?_)
  obtain rfl := Option.some.inj hE
  refine retQ.retF H rfl ⟨rfl, rfl⟩ ?_
  exact (fun _ _ h => h)
def r05_NonNull (a0 : TRef) : Option TRef := (r05_IsNonNull a0).bind fun x4 => bif x4 then ((appC 8 (⟨false, []⟩ : Sl Int) a0.FWraps).bind fun x7 => some (TRef.mk a0.FName x7)) else ((r05_wrap (1 : Int) a0).bind fun x9 => some x9)
set_option maxRecDepth 100000 in
set_option maxHeartbeats 2000000 in
theorem r05_NonNull_walk {a0 : TRef}   {r : TRef} (hE : r05_NonNull a0 = some r) (H : Heap)  : ACalls Try.prog 14 [.agg (TRef.c a0)] H fun v h' => v = .a (.agg (TRef.c r)) ∧ h' = H := by
  unfold r05_NonNull at hE
  refine ACalls.of_wp (fn := Try.f14) (c := _) Try.tab_ok (fun _ _ => Try.call14 _ _) Try.func14 rfl (n := 14) rfl (rs := [.cell 2 29]) rfl rfl ?_
  refine AWp.seqK fun K1 hK1 => ?_
  refine AWp.region ?_
  refine AOps.s0 (Cert.boxV rfl) rfl ?_
  refine AOps.sL (Cert.allocL (Try.tab_ok _ _ rfl) rfl (by repeat (first | exact Snoc.nil | apply Snoc.cons))) rfl ?_
  refine AOps.nil ?_
  refine hK1 _ ?_
  clear hK1 K1
  refine AWp.seqK fun K2 hK2 => ?_
  refine AWp.seqK fun K3 hK3 => ?_
  refine AWp.region ?_
  refine AOps.s0 (Cert.loadV (Try.tab_ok _ _ rfl) rfl rfl rfl) rfl ?_
  obtain ⟨x4, gx4, hE⟩ := bindO_some hE
  refine AOps.s0 (Cert.callP rfl rfl (fun H => r05_IsNonNull_walk gx4 H)) rfl ?_
  refine AOps.nil ?_
  refine hK3 _ ?_
  clear hK3 K3
  refine AWp.cond rfl (fun hc5 => ?_) (fun hc5 => ?_)
  · have hE := condT hc5 hE
    try dsimp only at hc5
    refine AWp.seqK fun K6 hK6 => ?_
    refine AWp.draw rfl ?_
    refine DOps.s0 (Cert.fieldV (Try.tab_ok _ _ rfl) rfl rfl (Try.tab_ok _ _ rfl) rfl rfl (by conv => lhs; whnf)) rfl ?_
    refine DOps.s0 (Cert.loadV (Try.tab_ok _ _ rfl) rfl rfl rfl) rfl ?_
    refine DOps.s0 (Cert.buildSliceF (Try.tab_ok _ _ rfl) rfl (Try.tab_ok _ _ rfl) rfl rfl rfl rfl rfl rfl) rfl ?_
    refine DOps.s0 (Cert.fieldV (Try.tab_ok _ _ rfl) rfl rfl (Try.tab_ok _ _ rfl) rfl rfl (by conv => lhs; whnf)) rfl ?_
    refine DOps.s0 (Cert.loadV (Try.tab_ok _ _ rfl) rfl rfl rfl) rfl ?_
    obtain ⟨x7, gx7, hE⟩ := bindO_some hE
    refine DOps.s0 (Cert.appFM (f := (intE .i64)) (Try.tab_ok _ _ rfl) rfl (Try.tab_ok _ _ rfl) (Try.tab_ok _ _ rfl) ⟨_, rfl⟩ rfl rfl (by decide) rfl rfl rfl (by intro q h; cases h <;> decide) rfl rfl gx7) rfl ?_
    refine DOps.s0 (Cert.build Try.tab_ok rfl rfl rfl rfl rfl rfl) rfl ?_
    refine DOps.sLn (Cert.storeLF (Try.tab_ok _ _ rfl) rfl rfl rfl rfl rfl (by repeat (first | exact SetAt.zero | apply SetAt.succ))) ?_
    refine DOps.nil (by decide +kernel) ?_
    refine hK6 _ ?_
    clear hK6 K6
    refine AWp.ret ?_
    repeat (first | refine xBlock_ret ?_ | refine xThen_ret ?_)
    obtain rfl := Option.some.inj hE
    refine retQ.retF H rfl ⟨rfl, rfl⟩ ?_
    exact (fun _ _ h => h)
  · have hE := condF hc5 hE
    try dsimp only at hc5
    refine AWp.skip ?_
    refine hK2 _ ?_
    clear hK2 K2
    refine AWp.seqK fun K8 hK8 => ?_
    refine AWp.region ?_
    refine AOps.s0 (Cert.loadV (Try.tab_ok _ _ rfl) rfl rfl rfl) rfl ?_
    obtain ⟨x9, gx9, hE⟩ := bindO_some hE
    refine AOps.s0 (Cert.callP rfl rfl (fun H => r05_wrap_walk gx9 H)) rfl ?_
    refine AOps.sLn (Cert.storeLF (Try.tab_ok _ _ rfl) rfl rfl rfl rfl rfl (by repeat (first | exact SetAt.zero | apply SetAt.succ))) ?_
    refine AOps.nil ?_
    refine hK8 _ ?_
    clear hK8 K8
    refine AWp.ret ?_
    repeat (first | refine xBlock_ret ?_ | refine xThen_ret ?_)
    obtain rfl := Option.some.inj hE
    refine retQ.retF H rfl ⟨rfl, rfl⟩ ?_
    exact (fun _ _ h => h)
def r05_Named (a0 : Bs) : Option TRef := some (TRef.mk a0 (Sl.nil : Sl Int))
set_option maxRecDepth 100000 in
set_option maxHeartbeats 2000000 in
theorem r05_Named_walk {a0 : Bs}   {r : TRef} (hE : r05_Named a0 = some r) (H : Heap)  : ACalls Try.prog 15 [.d (.str a0)] H fun v h' => v = .a (.agg (TRef.c r)) ∧ h' = H := by
  unfold r05_Named at hE
  refine ACalls.of_wp (fn := Try.f15) (c := _) Try.tab_ok (fun _ _ => Try.call15 _ _) Try.func15 rfl (n := 5) rfl (rs := [.cell 2 29]) rfl rfl ?_
  refine AWp.seqK fun K1 hK1 => ?_
  refine AWp.region ?_
  refine AOps.sL (Cert.allocL (Try.tab_ok _ _ rfl) rfl (by repeat (first | exact Snoc.nil | apply Snoc.cons))) rfl ?_
  refine AOps.nil ?_
  refine hK1 _ ?_
  clear hK1 K1
  refine AWp.seqK fun K2 hK2 => ?_
  refine AWp.region ?_
  refine AOps.s0 (Cert.move (by conv => lhs; whnf)) rfl ?_
  refine AOps.s0 (Cert.build Try.tab_ok rfl rfl rfl rfl rfl rfl) rfl ?_
  refine AOps.sLn (Cert.storeLF (Try.tab_ok _ _ rfl) rfl rfl rfl rfl rfl (by repeat (first | exact SetAt.zero | apply SetAt.succ))) ?_
  refine AOps.nil ?_
  refine hK2 _ ?_
  clear hK2 K2
  refine AWp.ret ?_
  repeat (first | refine xBlock_ret ?_ | refine xThen_ret ?_)
  obtain rfl := Option.some.inj hE
  refine retQ.retF H rfl ⟨rfl, rfl⟩ ?_
  exact (fun _ _ h => h)
def law14_small  : Option TDoc := (r05_Named ([73, 110, 116] : Bs)).bind fun x3 => (r05_NonNull x3).bind fun x4 => (r05_Named ([73, 110, 116] : Bs)).bind fun x6 => some (TDoc.mk (⟨false, [(TDef.mk (1 : Int) ([81, 117, 101, 114, 121] : Bs) (Sl.nil : Sl Bs) (Sl.nil : Sl TDir) (⟨false, [(TField.mk ([97] : Bs) (⟨false, [(TInput.mk ([110] : Bs) x4 false TValue.zero (Sl.nil : Sl TDir))]⟩ : Sl TInput) x6 (Sl.nil : Sl TDir))]⟩ : Sl TField) (Sl.nil : Sl TMember) (Sl.nil : Sl TInput)), (TDef.mk (3 : Int) ([85] : Bs) (Sl.nil : Sl Bs) (Sl.nil : Sl TDir) (Sl.nil : Sl TField) (⟨false, [(TMember.mk ([81, 117, 101, 114, 121] : Bs) (Sl.nil : Sl TDir))]⟩ : Sl TMember) (Sl.nil : Sl TInput))]⟩ : Sl TDef))
set_option maxRecDepth 100000 in
set_option maxHeartbeats 2000000 in
theorem law14_small_walk    {r : TDoc} (hE : law14_small  = some r) (H : Heap)  : ACalls Try.prog 13 [] H fun v h' => v = .a (.agg (TDoc.c r)) ∧ h' = H := by
  unfold law14_small at hE
  refine ACalls.of_wp (fn := Try.f13) (c := _) Try.tab_ok (fun _ _ => Try.call13 _ _) Try.func13 rfl (n := 16) rfl (rs := [.cell 0 24]) rfl rfl ?_
  refine AWp.seqK fun K1 hK1 => ?_
  refine AWp.region ?_
  refine AOps.sL (Cert.allocL (Try.tab_ok _ _ rfl) rfl (by repeat (first | exact Snoc.nil | apply Snoc.cons))) rfl ?_
  refine AOps.nil ?_
  refine hK1 _ ?_
  clear hK1 K1
  refine AWp.seqK fun K2 hK2 => ?_
  refine AWp.region ?_
  obtain ⟨x3, gx3, hE⟩ := bindO_some hE
  refine AOps.s0 (Cert.callP rfl rfl (fun H => r05_Named_walk gx3 H)) rfl ?_
  obtain ⟨x4, gx4, hE⟩ := bindO_some hE
  refine AOps.s0 (Cert.callP rfl rfl (fun H => r05_NonNull_walk gx4 H)) rfl ?_
  refine AOps.s0 (Cert.build Try.tab_ok rfl rfl rfl rfl rfl rfl) rfl ?_
  refine AOps.sL (Cert.allocL (Try.tab_ok _ _ rfl) rfl (by repeat (first | exact Snoc.nil | apply Snoc.cons))) rfl ?_
  refine AOps.sLn (Cert.storeLF (Try.tab_ok _ _ rfl) rfl rfl rfl rfl rfl (by repeat (first | exact SetAt.zero | apply SetAt.succ))) ?_
  refine AOps.nil ?_
  refine hK2 _ ?_
  clear hK2 K2
  refine AWp.freeze 1 _ rfl (by repeat (first | exact Snoc.nil | apply Snoc.cons)) (Keeps.c (k := 0) (by conv => lhs; whnf) (by rfl) Keeps.nil) ?_
  refine AWp.seqK fun K5 hK5 => ?_
  refine AWp.draw rfl ?_
  obtain ⟨x6, gx6, hE⟩ := bindO_some hE
  refine DOps.s0 (Cert.callP rfl rfl (fun H => r05_Named_walk gx6 H)) rfl ?_
  refine DOps.s0 (Cert.loadV (Try.tab_ok _ _ rfl) rfl rfl rfl) rfl ?_
  refine DOps.s0 (Cert.buildSlice (Try.tab_ok _ _ rfl) rfl (Try.tab_ok _ _ rfl) rfl rfl rfl rfl rfl rfl) rfl ?_
  refine DOps.s0 (Cert.build Try.tab_ok rfl rfl rfl rfl rfl rfl) rfl ?_
  refine DOps.s0 (Cert.buildSlice (Try.tab_ok _ _ rfl) rfl (Try.tab_ok _ _ rfl) rfl rfl rfl rfl rfl rfl) rfl ?_
  refine DOps.s0 (Cert.build Try.tab_ok rfl rfl rfl rfl rfl rfl) rfl ?_
  refine DOps.s0 (Cert.build Try.tab_ok rfl rfl rfl rfl rfl rfl) rfl ?_
  refine DOps.s0 (Cert.buildSlice (Try.tab_ok _ _ rfl) rfl (Try.tab_ok _ _ rfl) rfl rfl rfl rfl rfl rfl) rfl ?_
  refine DOps.s0 (Cert.build Try.tab_ok rfl rfl rfl rfl rfl rfl) rfl ?_
  refine DOps.s0 (Cert.buildSlice (Try.tab_ok _ _ rfl) rfl (Try.tab_ok _ _ rfl) rfl rfl rfl rfl rfl rfl) rfl ?_
  refine DOps.s0 (Cert.build Try.tab_ok rfl rfl rfl rfl rfl rfl) rfl ?_
  refine DOps.sLn (Cert.storeLF (Try.tab_ok _ _ rfl) rfl rfl rfl rfl rfl (by repeat (first | exact SetAt.zero | apply SetAt.succ))) ?_
  refine DOps.nil (by decide +kernel) ?_
  refine hK5 _ ?_
  clear hK5 K5
  refine AWp.ret ?_
  repeat (first | refine xBlock_ret ?_ | refine xThen_ret ?_)
  obtain rfl := Option.some.inj hE
  refine retQ.retF H rfl ⟨rfl, rfl⟩ ?_
  exact (fun _ _ h => h)
def law14_knows  : Option Bool := (law14_small ).bind fun x5 => (fields_Type x5 ([85] : Bs) ([95, 95, 116, 121, 112, 101, 110, 97, 109, 101] : Bs)).bind fun x6 => (law14_small ).bind fun x8 => (fields_Type x8 ([85] : Bs) ([97] : Bs)).bind fun x9 => (law14_small ).bind fun x11 => (fields_Check x11 (TQuery.mk (⟨false, [(TOp.mk (1 : Int) ([] : Bs) (Sl.nil : Sl TVar) (⟨false, [(TSel.mk (1 : Int) ([] : Bs) ([98] : Bs) ([] : Bs) (Sl.nil : Sl TArg) (Sl.nil : Sl TDir) true ([])), (TSel.mk (1 : Int) ([] : Bs) ([97] : Bs) ([] : Bs) (Sl.nil : Sl TArg) (Sl.nil : Sl TDir) ((⟨false, [(TSel.mk (1 : Int) ([] : Bs) ([99] : Bs) ([] : Bs) (Sl.nil : Sl TArg) (Sl.nil : Sl TDir) true ([]))]⟩ : Sl TSel).nl) ((⟨false, [(TSel.mk (1 : Int) ([] : Bs) ([99] : Bs) ([] : Bs) (Sl.nil : Sl TArg) (Sl.nil : Sl TDir) true ([]))]⟩ : Sl TSel).l))]⟩ : Sl TSel))]⟩ : Sl TOp) (Sl.nil : Sl TFrag))).bind fun x12 => (r10_Faults x12 (⟨false, [(TFault.mk (20 : Int) ([47, 98] : Bs)), (TFault.mk (21 : Int) ([47, 97] : Bs)), (TFault.mk (22 : Int) ([47, 97] : Bs))]⟩ : Sl TFault)).bind fun x13 => guardO ((x13 && x6.2)) (r05_Named ([83, 116, 114, 105, 110, 103] : Bs)) TRef.zero fun x14 => guardO ((x13 && x6.2)) (r05_NonNull x14) TRef.zero fun x15 => guardO ((x13 && x6.2)) (r05_Same x6.1 x15) false fun x16 => some (((x13 && x6.2) && x16) && (!x9.2))
set_option maxRecDepth 100000 in
set_option maxHeartbeats 2000000 in
theorem law14_knows_walk    {r : Bool} (hE : law14_knows  = some r) (H : Heap)  : ACalls Try.prog 6 [] H fun v h' => v = .a (.d (.bool r)) ∧ h' = H := by
  unfold law14_knows at hE
  refine ACalls.of_wp (fn := Try.f6) (c := _) Try.tab_ok (fun _ _ => Try.call6 _ _) Try.func6 rfl (n := 47) rfl (rs := [.tmp 0]) rfl rfl ?_
  refine AWp.seqK fun K1 hK1 => ?_
  refine AWp.region ?_
  refine AOps.s0 (Cert.assign (by conv => lhs; whnf)) rfl ?_
  refine AOps.nil ?_
  refine hK1 _ ?_
  clear hK1 K1
  refine AWp.seqK fun K2 hK2 => ?_
  refine AWp.region ?_
  refine AOps.s0 (Cert.build Try.tab_ok rfl rfl rfl rfl rfl rfl) rfl ?_
  refine AOps.s0 (Cert.build Try.tab_ok rfl rfl rfl rfl rfl rfl) rfl ?_
  refine AOps.s0 (Cert.buildSlice (Try.tab_ok _ _ rfl) rfl (Try.tab_ok _ _ rfl) rfl rfl rfl rfl rfl rfl) rfl ?_
  refine AOps.s0 (Cert.build Try.tab_ok rfl rfl rfl rfl rfl rfl) rfl ?_
  refine AOps.s0 (Cert.buildSlice (Try.tab_ok _ _ rfl) rfl (Try.tab_ok _ _ rfl) rfl rfl rfl rfl rfl rfl) rfl ?_
  refine AOps.s0 (Cert.build Try.tab_ok rfl rfl rfl rfl rfl rfl) rfl ?_
  refine AOps.s0 (Cert.buildSlice (Try.tab_ok _ _ rfl) rfl (Try.tab_ok _ _ rfl) rfl rfl rfl rfl rfl rfl) rfl ?_
  refine AOps.s0 (Cert.build Try.tab_ok rfl rfl rfl rfl rfl rfl) rfl ?_
  refine AOps.sL (Cert.allocL (Try.tab_ok _ _ rfl) rfl (by repeat (first | exact Snoc.nil | apply Snoc.cons))) rfl ?_
  refine AOps.sLn (Cert.storeLF (Try.tab_ok _ _ rfl) rfl rfl rfl rfl rfl (by repeat (first | exact SetAt.zero | apply SetAt.succ))) ?_
  refine AOps.nil ?_
  refine hK2 _ ?_
  clear hK2 K2
  refine AWp.freeze 1 _ rfl (by repeat (first | exact Snoc.nil | apply Snoc.cons)) Keeps.nil ?_
  refine AWp.seqK fun K3 hK3 => ?_
  refine AWp.region ?_
  refine AOps.s0 (Cert.build Try.tab_ok rfl rfl rfl rfl rfl rfl) rfl ?_
  refine AOps.s0 (Cert.build Try.tab_ok rfl rfl rfl rfl rfl rfl) rfl ?_
  refine AOps.s0 (Cert.build Try.tab_ok rfl rfl rfl rfl rfl rfl) rfl ?_
  refine AOps.s0 (Cert.buildSlice (Try.tab_ok _ _ rfl) rfl (Try.tab_ok _ _ rfl) rfl rfl rfl rfl rfl rfl) rfl ?_
  refine AOps.s0 (Cert.assign (by conv => lhs; whnf)) rfl ?_
  refine AOps.nil ?_
  refine hK3 _ ?_
  clear hK3 K3
  refine AWp.seqK fun K4 hK4 => ?_
  refine AWp.region ?_
  obtain ⟨x5, gx5, hE⟩ := bindO_some hE
  refine AOps.s0 (Cert.callP rfl rfl (fun H => law14_small_walk gx5 H)) rfl ?_
  obtain ⟨x6, gx6, hE⟩ := bindO_some hE
  refine AOps.s0 (Cert.callP rfl rfl (fun H => fields_Type_walk gx6 H)) rfl ?_
  refine AOps.s0 (Cert.move (by conv => lhs; whnf)) rfl ?_
  refine AOps.s0 (Cert.extract rfl rfl) rfl ?_
  refine AOps.s0 (Cert.extract rfl rfl) rfl ?_
  refine AOps.sL (Cert.allocL (Try.tab_ok _ _ rfl) rfl (by repeat (first | exact Snoc.nil | apply Snoc.cons))) rfl ?_
  refine AOps.sLn (Cert.storeLF (Try.tab_ok _ _ rfl) rfl rfl rfl rfl rfl (by repeat (first | exact SetAt.zero | apply SetAt.succ))) ?_
  refine AOps.s0 (Cert.assign (by conv => lhs; whnf)) rfl ?_
  refine AOps.nil ?_
  refine hK4 _ ?_
  clear hK4 K4
  refine AWp.freeze 3 _ rfl (by repeat (first | exact Snoc.nil | apply Snoc.cons)) (Keeps.c (k := 1) (by conv => lhs; whnf) (by rfl) (Keeps.c (k := 2) (by conv => lhs; whnf) (by rfl) (Keeps.c (k := 4) (by conv => lhs; whnf) (by rfl) Keeps.nil))) ?_
  refine AWp.seqK fun K7 hK7 => ?_
  refine AWp.region ?_
  obtain ⟨x8, gx8, hE⟩ := bindO_some hE
  refine AOps.s0 (Cert.callP rfl rfl (fun H => law14_small_walk gx8 H)) rfl ?_
  obtain ⟨x9, gx9, hE⟩ := bindO_some hE
  refine AOps.s0 (Cert.callP rfl rfl (fun H => fields_Type_walk gx9 H)) rfl ?_
  refine AOps.s0 (Cert.move (by conv => lhs; whnf)) rfl ?_
  refine AOps.s0 (Cert.extract rfl rfl) rfl ?_
  refine AOps.s0 (Cert.extract rfl rfl) rfl ?_
  refine AOps.sL (Cert.allocL (Try.tab_ok _ _ rfl) rfl (by repeat (first | exact Snoc.nil | apply Snoc.cons))) rfl ?_
  refine AOps.sLn (Cert.storeLF (Try.tab_ok _ _ rfl) rfl rfl rfl rfl rfl (by repeat (first | exact SetAt.zero | apply SetAt.succ))) ?_
  refine AOps.s0 (Cert.assign (by conv => lhs; whnf)) rfl ?_
  refine AOps.nil ?_
  refine hK7 _ ?_
  clear hK7 K7
  refine AWp.freeze 5 _ rfl (by repeat (first | exact Snoc.nil | apply Snoc.cons)) (Keeps.c (k := 1) (by conv => lhs; whnf) (by rfl) (Keeps.c (k := 2) (by conv => lhs; whnf) (by rfl) (Keeps.c (k := 3) (by conv => lhs; whnf) (by rfl) (Keeps.c (k := 4) (by conv => lhs; whnf) (by rfl) (Keeps.c (k := 6) (by conv => lhs; whnf) (by rfl) Keeps.nil))))) ?_
  refine AWp.seqK fun K10 hK10 => ?_
  refine AWp.draw rfl ?_
  obtain ⟨x11, gx11, hE⟩ := bindO_some hE
  refine DOps.s0 (Cert.callP rfl rfl (fun H => law14_small_walk gx11 H)) rfl ?_
  refine DOps.s0 (Cert.loadV (Try.tab_ok _ _ rfl) rfl rfl rfl) rfl ?_
  obtain ⟨x12, gx12, hE⟩ := bindO_some hE
  refine DOps.s0 (Cert.callP rfl rfl (fun H => fields_Check_walk gx12 H)) rfl ?_
  refine DOps.s0 (Cert.move (by conv => lhs; whnf)) rfl ?_
  obtain ⟨x13, gx13, hE⟩ := bindO_some hE
  refine DOps.s0 (Cert.callP rfl rfl (fun H => r10_Faults_walk gx13 H)) rfl ?_
  refine DOps.s0 (Cert.move (by conv => lhs; whnf)) rfl ?_
  refine DOps.gC rfl rfl (fun hC => Cert.move (by conv => lhs; whnf)) rfl ?_
  refine DOps.s0 (Cert.pickAnd rfl rfl (fun h => by first | exact h | exact notT h | exact andI hC h | exact andI hC (notT h) | simp_all) rfl) rfl ?_
  refine DOps.s0 (Cert.move (by conv => lhs; whnf)) rfl ?_
  refine DOps.gC rfl rfl (fun hC => Cert.loadV (Try.tab_ok _ _ rfl) rfl rfl rfl) rfl ?_
  obtain ⟨x14, gx14, hE⟩ := guardO_some hE
  refine DOps.gC rfl rfl (fun hC => Cert.callP rfl rfl (fun H => r05_Named_walk (gx14 hC) H)) rfl ?_
  obtain ⟨x15, gx15, hE⟩ := guardO_some hE
  refine DOps.gC rfl rfl (fun hC => Cert.ungd (k := 39) rfl (by first | exact hC | exact andL hC | exact andL (andL hC) | exact andL (andL (andL hC)) | exact andR hC | simp_all) (Cert.callP rfl rfl (fun H => r05_NonNull_walk (gx15 hC) H))) rfl ?_
  obtain ⟨x16, gx16, hE⟩ := guardO_some hE
  refine DOps.gC rfl rfl (fun hC => Cert.ungd (k := 38) rfl (by first | exact hC | exact andL hC | exact andL (andL hC) | exact andL (andL (andL hC)) | exact andR hC | simp_all) (Cert.ungd (k := 40) rfl (by first | exact hC | exact andL hC | exact andL (andL hC) | exact andL (andL (andL hC)) | exact andR hC | simp_all) (Cert.callP rfl rfl (fun H => r05_Same_walk (gx16 hC) H)))) rfl ?_
  refine DOps.s0 (Cert.pickAnd rfl rfl (fun h => by first | exact h | exact notT h | exact andI hC h | exact andI hC (notT h) | simp_all) rfl) rfl ?_
  refine DOps.s0 (Cert.move (by conv => lhs; whnf)) rfl ?_
  refine DOps.gC rfl rfl (fun hC => Cert.move (by conv => lhs; whnf)) rfl ?_
  refine DOps.gC rfl rfl (fun hC => Cert.ungd (k := 44) rfl (by first | exact hC | exact andL hC | exact andL (andL hC) | exact andL (andL (andL hC)) | exact andR hC | simp_all) (Cert.notB rfl)) rfl ?_
  refine DOps.s0 (Cert.pickAnd rfl rfl (fun h => by first | exact h | exact notT h | exact andI hC h | exact andI hC (notT h) | simp_all) rfl) rfl ?_
  refine DOps.s0 (Cert.assign (by conv => lhs; whnf)) rfl ?_
  refine DOps.nil (by decide +kernel) ?_
  refine hK10 _ ?_
  clear hK10 K10
  refine AWp.ret ?_
  repeat (first | refine xBlock_ret ?_ | refine xThen_ret ?_)
  obtain rfl := Option.some.inj hE
  refine retQ.retF H rfl ⟨rfl, rfl⟩ ?_
  exact (fun _ _ h => h)
def r10_Find_j2 (a0 : TDoc) (a1 : Bs)  (y3_l0 : TDef) : Option (TDef × Bool) := some ((TDef.mk (0 : Int) ([] : Bs) (Sl.nil : Sl Bs) (Sl.nil : Sl TDir) (Sl.nil : Sl TField) (Sl.nil : Sl TMember) (Sl.nil : Sl TInput)), false)
def r10_Find_l6 (a0 : TDoc) (a1 : Bs)  : Nat → Nat → TDef → Option (TDef × Bool)
  | 0, _, _ => none
  | n6 + 1, s6_7, y8_l0 => bif (decide (((s6_7 : Nat) : Int) < ((a0.FDefs.l.length : Nat) : Int))) then ((a0.FDefs.l[s6_7]?).bind fun x15 => bif ((x15.FName == a1)) then ((a0.FDefs.l[s6_7]?).bind fun x18 => some (x18, true)) else ((r10_Find_l6 a0 a1 n6) (s6_7 + 1) y8_l0)) else (r10_Find_j2 a0 a1  y8_l0)
def r10_Find (a0 : TDoc) (a1 : Bs) : Option (TDef × Bool) := r10_Find_l6 a0 a1 F0 0 TDef.zero
set_option maxRecDepth 100000 in
set_option maxHeartbeats 2000000 in
theorem r10_Find_walk {a0 : TDoc} {a1 : Bs}   {r : (TDef × Bool)} (hE : r10_Find a0 a1 = some r) (H : Heap)  : ACalls Try.prog 23 [.agg (TDoc.c a0), .d (.str a1)] H fun v h' => v = .tup [.agg (TDef.c r.1), .d (.bool r.2)] ∧ h' = H := by
  unfold r10_Find at hE
  refine ACalls.of_wp (fn := Try.f23) (c := _) Try.tab_ok (fun _ _ => Try.call23 _ _) Try.func23 rfl (n := 28) rfl (rs := [.cell 4 48, .tmp 5]) rfl rfl ?_
  refine AWp.seqK fun K1 hK1 => ?_
  refine AWp.region ?_
  refine AOps.s0 (Cert.boxV rfl) rfl ?_
  refine AOps.sL (Cert.allocL (Try.tab_ok _ _ rfl) rfl (by repeat (first | exact Snoc.nil | apply Snoc.cons))) rfl ?_
  refine AOps.s0 (Cert.assign (by conv => lhs; whnf)) rfl ?_
  refine AOps.nil ?_
  refine hK1 _ ?_
  clear hK1 K1
  refine AWp.seqJ (KeepsT.cons (k := 4) (by conv => lhs; whnf) KeepsT.nil) (fun (z : TDef) => []) (fun z => [TDef.c z]) (fun z => H) (fun z => r10_Find_j2 a0 a1 z = some r) ?_ ?_
  · intro K2 hK2
    refine AWp.seqK fun K5 hK5 => ?_
    refine AWp.region ?_
    refine AOps.s0 (Cert.assign (by conv => lhs; whnf)) rfl ?_
    refine AOps.nil ?_
    refine hK5 _ ?_
    clear hK5 K5
    refine AWp.block ?_
    refine AWp.loopO (KeepsT.cons (k := 1) (by conv => lhs; whnf) (KeepsT.cons (k := 2) (by conv => lhs; whnf) (KeepsT.cons (k := 4) (by conv => lhs; whnf) KeepsT.nil))) (fun (z : Nat × Nat × TDef) => [(6, .a (.d (.int .i64 ((z.2.1 : Nat) : Int))))]) (fun z => [TDef.c z.2.2]) (fun z => H) (fun z => z.1) (fun z => r10_Find_l6 a0 a1 z.1 z.2.1 z.2.2 = some r) (F0, 0, TDef.zero) hE (Weak.to (by repeat (first | exact Keeps.nil | refine Keeps.c rfl rfl ?_ | refine Keeps.c (by (first | (first | rfl | ((conv => lhs; whnf); first | (simp [cellsA, faultsT, faultsD, namesD, Fault.mk_c, Nat.add_assoc, empty_append, Bool.and_assoc]; done) | (simp [cellsA, faultsT, faultsD, namesD, Nat.add_assoc, empty_append, Bool.and_assoc]; repeat (first | rfl | constructor)))) | rfl | (simp only [get_same, ev]; done) | (simp [*, cellsA]; done) | (show V.a (A.d (D.slice _ _ _ _)) = V.a (A.d (D.slice _ _ _ _)); simp [*, cellsA]; done))) rfl ?_)) (by repeat (first | exact Pfx.nil | apply Pfx.cons)) (by first | rfl | (first | rfl | (simp only [Heap.set_set, List.length_append, List.length_nil, List.length_cons, List.length_map, List.length_singleton, Nat.zero_add]; done) | (simp [Heap.set_set, Nat.add_assoc]; done)) | (((funext n; simp only [Heap.set]; (repeat' split) <;> simp_all)) <;> first | rfl | exact ⟨rfl, rfl⟩))) ?_
    rintro ⟨n6, s6_7, y8_l0⟩ hE K6 hK6
    try dsimp only at hE
    cases n6 with
    | zero => cases hE
    | succ n6 =>
        rw [r10_Find_l6] at hE
        refine AWp.seqK fun K9 hK9 => ?_
        refine AWp.seqK fun K10 hK10 => ?_
        refine AWp.region ?_
        refine AOps.s0 (Cert.move (by conv => lhs; whnf)) rfl ?_
        refine AOps.s0 (Cert.fieldV (Try.tab_ok _ _ rfl) rfl rfl (Try.tab_ok _ _ rfl) rfl rfl (by conv => lhs; whnf)) rfl ?_
        refine AOps.s0 (Cert.loadV (Try.tab_ok _ _ rfl) rfl rfl rfl) rfl ?_
        refine AOps.sLen (f := TDef.c) (s := a0.FDefs) (Try.tab_ok _ _ rfl) rfl rfl rfl rfl fun hL11 => ?_
        refine AOps.s0 (Cert.binI rfl rfl rfl) rfl ?_
        refine AOps.nil ?_
        refine hK10 _ ?_
        clear hK10 K10
        refine AWp.cond rfl (fun hc12 => ?_) (fun hc12 => ?_)
        · have hE := condT hc12 hE
          try dsimp only at hc12
          have hf12 := of_decide_eq_true hc12
          refine AWp.skip ?_
          refine hK9 _ ?_
          clear hK9 K9
          refine AWp.seqK fun K13 hK13 => ?_
          refine AWp.block ?_
          refine AWp.seqK fun K14 hK14 => ?_
          refine AWp.region ?_
          refine AOps.s0 (Cert.fieldV (Try.tab_ok _ _ rfl) rfl rfl (Try.tab_ok _ _ rfl) rfl rfl (by conv => lhs; whnf)) rfl ?_
          refine AOps.s0 (Cert.loadV (Try.tab_ok _ _ rfl) rfl rfl rfl) rfl ?_
          refine AOps.s0 (Cert.move (by conv => lhs; whnf)) rfl ?_
          obtain ⟨x15, gx15, hE⟩ := bindO_some hE
          refine AOps.s0 (Cert.idxMn (f := TDef.c) (n := s6_7) (Try.tab_ok _ _ rfl) rfl (Try.tab_ok _ _ rfl) rfl rfl rfl gx15) rfl ?_
          refine AOps.s0 (Cert.fieldV (Try.tab_ok _ _ rfl) rfl rfl (Try.tab_ok _ _ rfl) rfl rfl (by conv => lhs; whnf)) rfl ?_
          refine AOps.s0 (Cert.loadV (Try.tab_ok _ _ rfl) rfl rfl rfl) rfl ?_
          refine AOps.s0 (Cert.move (by conv => lhs; whnf)) rfl ?_
          refine AOps.s0 (Cert.binS rfl rfl rfl) rfl ?_
          refine AOps.nil ?_
          refine hK14 _ ?_
          clear hK14 K14
          refine AWp.cond rfl (fun hc16 => ?_) (fun hc16 => ?_)
          · have hE := condT hc16 hE
            try dsimp only at hc16
            refine AWp.seqK fun K17 hK17 => ?_
            refine AWp.region ?_
            refine AOps.s0 (Cert.fieldV (Try.tab_ok _ _ rfl) rfl rfl (Try.tab_ok _ _ rfl) rfl rfl (by conv => lhs; whnf)) rfl ?_
            refine AOps.s0 (Cert.loadV (Try.tab_ok _ _ rfl) rfl rfl rfl) rfl ?_
            refine AOps.s0 (Cert.move (by conv => lhs; whnf)) rfl ?_
            obtain ⟨x18, gx18, hE⟩ := bindO_some hE
            refine AOps.s0 (Cert.idxMn (f := TDef.c) (n := s6_7) (Try.tab_ok _ _ rfl) rfl (Try.tab_ok _ _ rfl) rfl rfl rfl gx18) rfl ?_
            refine AOps.s0 (Cert.loadV (Try.tab_ok _ _ rfl) rfl rfl rfl) rfl ?_
            refine AOps.sLn (Cert.storeLF (Try.tab_ok _ _ rfl) rfl rfl rfl rfl rfl (by repeat (first | exact SetAt.zero | apply SetAt.succ))) ?_
            refine AOps.s0 (Cert.assign (by conv => lhs; whnf)) rfl ?_
            refine AOps.nil ?_
            refine hK17 _ ?_
            clear hK17 K17
            refine AWp.ret ?_
            repeat (first | refine xBlock_ret ?_ | refine xThen_ret ?_)
            obtain rfl := Option.some.inj hE
            refine retQ.retF H rfl ⟨rfl, rfl⟩ ?_
            exact (fun _ _ h => h)
          · have hE := condF hc16 hE
            try dsimp only at hc16
            refine AWp.skip ?_
            refine hK13 _ ?_
            clear hK13 K13
            refine AWp.region ?_
            refine AOps.s0 (Cert.move (by conv => lhs; whnf)) rfl ?_
            refine AOps.s0 (Cert.addI rfl rfl (by first | omega | (dsimp only; omega)) (by first | omega | (dsimp only; omega))) rfl ?_
            refine AOps.s0 (Cert.assign (by conv => lhs; whnf)) rfl ?_
            refine AOps.nil ?_
            exact hK6 _ (n6, (s6_7 + 1), y8_l0) (Weak.to (by repeat (first | exact Keeps.nil | refine Keeps.c rfl rfl ?_ | refine Keeps.c (by (first | (first | rfl | ((conv => lhs; whnf); first | (simp [cellsA, faultsT, faultsD, namesD, Fault.mk_c, Nat.add_assoc, empty_append, Bool.and_assoc]; done) | (simp [cellsA, faultsT, faultsD, namesD, Nat.add_assoc, empty_append, Bool.and_assoc]; repeat (first | rfl | constructor)))) | rfl | (simp only [get_same, ev]; done) | (simp [*, cellsA]; done) | (show V.a (A.d (D.slice _ _ _ _)) = V.a (A.d (D.slice _ _ _ _)); simp [*, cellsA]; done))) rfl ?_)) (by repeat (first | exact Pfx.nil | apply Pfx.cons)) (by first | rfl | (first | rfl | (simp only [Heap.set_set, List.length_append, List.length_nil, List.length_cons, List.length_map, List.length_singleton, Nat.zero_add]; done) | (simp [Heap.set_set, Nat.add_assoc]; done)) | (((funext n; simp only [Heap.set]; (repeat' split) <;> simp_all)) <;> first | rfl | exact ⟨rfl, rfl⟩))) hE (Nat.lt_succ_self _)
        · have hE := condF hc12 hE
          try dsimp only at hc12
          refine AWp.exit ?_
          exact hK2 _ y8_l0 (Weak.to (by repeat (first | exact Keeps.nil | refine Keeps.c rfl rfl ?_ | refine Keeps.c (by (first | (first | rfl | ((conv => lhs; whnf); first | (simp [cellsA, faultsT, faultsD, namesD, Fault.mk_c, Nat.add_assoc, empty_append, Bool.and_assoc]; done) | (simp [cellsA, faultsT, faultsD, namesD, Nat.add_assoc, empty_append, Bool.and_assoc]; repeat (first | rfl | constructor)))) | rfl | (simp only [get_same, ev]; done) | (simp [*, cellsA]; done) | (show V.a (A.d (D.slice _ _ _ _)) = V.a (A.d (D.slice _ _ _ _)); simp [*, cellsA]; done))) rfl ?_)) (by repeat (first | exact Pfx.nil | apply Pfx.cons)) (by first | rfl | (first | rfl | (simp only [Heap.set_set, List.length_append, List.length_nil, List.length_cons, List.length_map, List.length_singleton, Nat.zero_add]; done) | (simp [Heap.set_set, Nat.add_assoc]; done)) | (((funext n; simp only [Heap.set]; (repeat' split) <;> simp_all)) <;> first | rfl | exact ⟨rfl, rfl⟩))) hE
  · rintro y3_l0 hE
    try dsimp only at hE
    unfold r10_Find_j2 at hE
    refine AWp.seqK fun K4 hK4 => ?_
    refine AWp.region ?_
    refine AOps.s0 (Cert.build Try.tab_ok rfl rfl rfl rfl rfl rfl) rfl ?_
    refine AOps.sLn (Cert.storeLF (Try.tab_ok _ _ rfl) rfl rfl rfl rfl rfl (by repeat (first | exact SetAt.zero | apply SetAt.succ))) ?_
    refine AOps.s0 (Cert.assign (by conv => lhs; whnf)) rfl ?_
    refine AOps.nil ?_
    refine hK4 _ ?_
    clear hK4 K4
    refine AWp.ret ?_
    repeat (first | refine xBlock_ret ?_ | refine xThen_ret ?_)
    obtain rfl := Option.some.inj hE
    refine retQ.retF H rfl ⟨rfl, rfl⟩ ?_
    exact (fun _ _ h => h)
def r10_Scalar (a0 : Bs) : Option Bool := some (((((a0 == ([73, 110, 116] : Bs))) || ((a0 == ([83, 116, 114, 105, 110, 103] : Bs)))) || ((a0 == ([66, 111, 111, 108, 101, 97, 110] : Bs)))) || ((a0 == ([73, 68] : Bs))))
set_option maxRecDepth 100000 in
set_option maxHeartbeats 2000000 in
theorem r10_Scalar_walk {a0 : Bs}   {r : Bool} (hE : r10_Scalar a0 = some r) (H : Heap)  : ACalls Try.prog 38 [.d (.str a0)] H fun v h' => v = .a (.d (.bool r)) ∧ h' = H := by
  unfold r10_Scalar at hE
  refine ACalls.of_wp (fn := Try.f38) (c := _) Try.tab_ok (fun _ _ => Try.call38 _ _) Try.func38 rfl (n := 17) rfl (rs := [.tmp 2]) rfl rfl ?_
  refine AWp.seqK fun K1 hK1 => ?_
  refine AWp.region ?_
  refine AOps.s0 (Cert.assign (by conv => lhs; whnf)) rfl ?_
  refine AOps.nil ?_
  refine hK1 _ ?_
  clear hK1 K1
  refine AWp.seqK fun K2 hK2 => ?_
  refine AWp.region ?_
  refine AOps.s0 (Cert.move (by conv => lhs; whnf)) rfl ?_
  refine AOps.s0 (Cert.binS rfl rfl rfl) rfl ?_
  refine AOps.s0 (Cert.move (by conv => lhs; whnf)) rfl ?_
  refine AOps.gC rfl rfl (fun hC => Cert.move (by conv => lhs; whnf)) rfl ?_
  refine AOps.gC rfl rfl (fun hC => Cert.ungd (k := 6) rfl (by first | exact hC | exact andL hC | exact andL (andL hC) | exact andL (andL (andL hC)) | exact andR hC | simp_all) (Cert.binS rfl rfl rfl)) rfl ?_
  refine AOps.s0 (Cert.pickOr rfl rfl rfl (fun h => by first | exact h | exact notT h | exact andI hC h | exact andI hC (notT h) | simp_all)) rfl ?_
  refine AOps.s0 (Cert.move (by conv => lhs; whnf)) rfl ?_
  refine AOps.gC rfl rfl (fun hC => Cert.move (by conv => lhs; whnf)) rfl ?_
  refine AOps.gC rfl rfl (fun hC => Cert.ungd (k := 10) rfl (by first | exact hC | exact andL hC | exact andL (andL hC) | exact andL (andL (andL hC)) | exact andR hC | simp_all) (Cert.binS rfl rfl rfl)) rfl ?_
  refine AOps.s0 (Cert.pickOr rfl rfl rfl (fun h => by first | exact h | exact notT h | exact andI hC h | exact andI hC (notT h) | simp_all)) rfl ?_
  refine AOps.s0 (Cert.move (by conv => lhs; whnf)) rfl ?_
  refine AOps.gC rfl rfl (fun hC => Cert.move (by conv => lhs; whnf)) rfl ?_
  refine AOps.gC rfl rfl (fun hC => Cert.ungd (k := 14) rfl (by first | exact hC | exact andL hC | exact andL (andL hC) | exact andL (andL (andL hC)) | exact andR hC | simp_all) (Cert.binS rfl rfl rfl)) rfl ?_
  refine AOps.s0 (Cert.pickOr rfl rfl rfl (fun h => by first | exact h | exact notT h | exact andI hC h | exact andI hC (notT h) | simp_all)) rfl ?_
  refine AOps.s0 (Cert.assign (by conv => lhs; whnf)) rfl ?_
  refine AOps.nil ?_
  refine hK2 _ ?_
  clear hK2 K2
  refine AWp.ret ?_
  repeat (first | refine xBlock_ret ?_ | refine xThen_ret ?_)
  obtain rfl := Option.some.inj hE
  refine retQ.retF H rfl ⟨rfl, rfl⟩ ?_
  exact (fun _ _ h => h)
def r10_Composite (a0 : TDoc) (a1 : Bs) : Option Bool := (r10_Find a0 a1).bind fun x3 => (r10_Scalar a1).bind fun x5 => some (((!x5) && x3.2) && (((decide (x3.1.FKind = (1 : Int))) || (decide (x3.1.FKind = (2 : Int)))) || (decide (x3.1.FKind = (3 : Int)))))
set_option maxRecDepth 100000 in
set_option maxHeartbeats 2000000 in
theorem r10_Composite_walk {a0 : TDoc} {a1 : Bs}   {r : Bool} (hE : r10_Composite a0 a1 = some r) (H : Heap)  : ACalls Try.prog 22 [.agg (TDoc.c a0), .d (.str a1)] H fun v h' => v = .a (.d (.bool r)) ∧ h' = H := by
  unfold r10_Composite at hE
  refine ACalls.of_wp (fn := Try.f22) (c := _) Try.tab_ok (fun _ _ => Try.call22 _ _) Try.func22 rfl (n := 34) rfl (rs := [.tmp 4]) rfl rfl ?_
  refine AWp.seqK fun K1 hK1 => ?_
  refine AWp.region ?_
  refine AOps.s0 (Cert.boxV rfl) rfl ?_
  refine AOps.s0 (Cert.assign (by conv => lhs; whnf)) rfl ?_
  refine AOps.nil ?_
  refine hK1 _ ?_
  clear hK1 K1
  refine AWp.seqK fun K2 hK2 => ?_
  refine AWp.region ?_
  refine AOps.s0 (Cert.loadV (Try.tab_ok _ _ rfl) rfl rfl rfl) rfl ?_
  refine AOps.s0 (Cert.move (by conv => lhs; whnf)) rfl ?_
  obtain ⟨x3, gx3, hE⟩ := bindO_some hE
  refine AOps.s0 (Cert.callP rfl rfl (fun H => r10_Find_walk gx3 H)) rfl ?_
  refine AOps.s0 (Cert.move (by conv => lhs; whnf)) rfl ?_
  refine AOps.s0 (Cert.extract rfl rfl) rfl ?_
  refine AOps.s0 (Cert.extract rfl rfl) rfl ?_
  refine AOps.sL (Cert.allocL (Try.tab_ok _ _ rfl) rfl (by repeat (first | exact Snoc.nil | apply Snoc.cons))) rfl ?_
  refine AOps.sLn (Cert.storeLF (Try.tab_ok _ _ rfl) rfl rfl rfl rfl rfl (by repeat (first | exact SetAt.zero | apply SetAt.succ))) ?_
  refine AOps.s0 (Cert.assign (by conv => lhs; whnf)) rfl ?_
  refine AOps.nil ?_
  refine hK2 _ ?_
  clear hK2 K2
  refine AWp.freeze 5 _ rfl (by repeat (first | exact Snoc.nil | apply Snoc.cons)) (Keeps.c (k := 1) (by conv => lhs; whnf) (by rfl) (Keeps.c (k := 6) (by conv => lhs; whnf) (by rfl) Keeps.nil)) ?_
  refine AWp.seqK fun K4 hK4 => ?_
  refine AWp.region ?_
  refine AOps.s0 (Cert.move (by conv => lhs; whnf)) rfl ?_
  obtain ⟨x5, gx5, hE⟩ := bindO_some hE
  refine AOps.s0 (Cert.callP rfl rfl (fun H => r10_Scalar_walk gx5 H)) rfl ?_
  refine AOps.s0 (Cert.notB rfl) rfl ?_
  refine AOps.s0 (Cert.move (by conv => lhs; whnf)) rfl ?_
  refine AOps.gC rfl rfl (fun hC => Cert.move (by conv => lhs; whnf)) rfl ?_
  refine AOps.s0 (Cert.pickAnd rfl rfl (fun h => by first | exact h | exact notT h | exact andI hC h | exact andI hC (notT h) | simp_all) rfl) rfl ?_
  refine AOps.s0 (Cert.move (by conv => lhs; whnf)) rfl ?_
  refine AOps.gC rfl rfl (fun hC => Cert.fieldV (Try.tab_ok _ _ rfl) rfl rfl (Try.tab_ok _ _ rfl) rfl rfl (by conv => lhs; whnf)) rfl ?_
  refine AOps.gC rfl rfl (fun hC => Cert.ungd (k := 20) rfl (by first | exact hC | exact andL hC | exact andL (andL hC) | exact andL (andL (andL hC)) | exact andR hC | simp_all) (Cert.loadV (Try.tab_ok _ _ rfl) rfl rfl rfl)) rfl ?_
  refine AOps.gC rfl rfl (fun hC => Cert.ungd (k := 21) rfl (by first | exact hC | exact andL hC | exact andL (andL hC) | exact andL (andL (andL hC)) | exact andR hC | simp_all) (Cert.binI rfl rfl rfl)) rfl ?_
  refine AOps.gC rfl rfl (fun hC => Cert.ungd (k := 22) rfl (by first | exact hC | exact andL hC | exact andL (andL hC) | exact andL (andL (andL hC)) | exact andR hC | simp_all) (Cert.move (by conv => lhs; whnf))) rfl ?_
  refine AOps.gC rfl rfl (fun hC => Cert.fieldV (Try.tab_ok _ _ rfl) rfl rfl (Try.tab_ok _ _ rfl) rfl rfl (by conv => lhs; whnf)) rfl ?_
  refine AOps.gC rfl rfl (fun hC => Cert.ungd (k := 24) rfl (by first | exact hC | exact andL hC | exact andL (andL hC) | exact andL (andL (andL hC)) | exact andR hC | simp_all) (Cert.loadV (Try.tab_ok _ _ rfl) rfl rfl rfl)) rfl ?_
  refine AOps.gC rfl rfl (fun hC => Cert.ungd (k := 25) rfl (by first | exact hC | exact andL hC | exact andL (andL hC) | exact andL (andL (andL hC)) | exact andR hC | simp_all) (Cert.binI rfl rfl rfl)) rfl ?_
  refine AOps.gC rfl rfl (fun hC => Cert.ungd (k := 23) rfl (by first | exact hC | exact andL hC | exact andL (andL hC) | exact andL (andL (andL hC)) | exact andR hC | simp_all) (Cert.pickOr rfl rfl rfl (fun h => by first | exact h | exact notT h | exact andI hC h | exact andI hC (notT h) | simp_all))) rfl ?_
  refine AOps.gC rfl rfl (fun hC => Cert.ungd (k := 27) rfl (by first | exact hC | exact andL hC | exact andL (andL hC) | exact andL (andL (andL hC)) | exact andR hC | simp_all) (Cert.move (by conv => lhs; whnf))) rfl ?_
  refine AOps.gC rfl rfl (fun hC => Cert.fieldV (Try.tab_ok _ _ rfl) rfl rfl (Try.tab_ok _ _ rfl) rfl rfl (by conv => lhs; whnf)) rfl ?_
  refine AOps.gC rfl rfl (fun hC => Cert.ungd (k := 29) rfl (by first | exact hC | exact andL hC | exact andL (andL hC) | exact andL (andL (andL hC)) | exact andR hC | simp_all) (Cert.loadV (Try.tab_ok _ _ rfl) rfl rfl rfl)) rfl ?_
  refine AOps.gC rfl rfl (fun hC => Cert.ungd (k := 30) rfl (by first | exact hC | exact andL hC | exact andL (andL hC) | exact andL (andL (andL hC)) | exact andR hC | simp_all) (Cert.binI rfl rfl rfl)) rfl ?_
  refine AOps.gC rfl rfl (fun hC => Cert.ungd (k := 28) rfl (by first | exact hC | exact andL hC | exact andL (andL hC) | exact andL (andL (andL hC)) | exact andR hC | simp_all) (Cert.pickOr rfl rfl rfl (fun h => by first | exact h | exact notT h | exact andI hC h | exact andI hC (notT h) | simp_all))) rfl ?_
  refine AOps.s0 (Cert.pickAnd rfl rfl (fun h => by first | exact h | exact notT h | exact andI hC h | exact andI hC (notT h) | simp_all) rfl) rfl ?_
  refine AOps.s0 (Cert.assign (by conv => lhs; whnf)) rfl ?_
  refine AOps.nil ?_
  refine hK4 _ ?_
  clear hK4 K4
  refine AWp.ret ?_
  repeat (first | refine xBlock_ret ?_ | refine xThen_ret ?_)
  obtain rfl := Option.some.inj hE
  refine retQ.retF H rfl ⟨rfl, rfl⟩ ?_
  exact (fun _ _ h => h)
def r10_FieldOf_j2 (a0 : TDef) (a1 : Bs)  (y3_l0 : TField) : Option (TField × Bool) := some ((TField.mk ([] : Bs) (Sl.nil : Sl TInput) TRef.zero (Sl.nil : Sl TDir)), false)
def r10_FieldOf_l6 (a0 : TDef) (a1 : Bs)  : Nat → Nat → TField → Option (TField × Bool)
  | 0, _, _ => none
  | n6 + 1, s6_7, y8_l0 => bif (decide (((s6_7 : Nat) : Int) < ((a0.FFields.l.length : Nat) : Int))) then ((a0.FFields.l[s6_7]?).bind fun x15 => bif ((x15.FName == a1)) then ((a0.FFields.l[s6_7]?).bind fun x18 => some (x18, true)) else ((r10_FieldOf_l6 a0 a1 n6) (s6_7 + 1) y8_l0)) else (r10_FieldOf_j2 a0 a1  y8_l0)
def r10_FieldOf (a0 : TDef) (a1 : Bs) : Option (TField × Bool) := r10_FieldOf_l6 a0 a1 F0 0 TField.zero
set_option maxRecDepth 100000 in
set_option maxHeartbeats 2000000 in
theorem r10_FieldOf_walk {a0 : TDef} {a1 : Bs}   {r : (TField × Bool)} (hE : r10_FieldOf a0 a1 = some r) (H : Heap)  : ACalls Try.prog 24 [.agg (TDef.c a0), .d (.str a1)] H fun v h' => v = .tup [.agg (TField.c r.1), .d (.bool r.2)] ∧ h' = H := by
  unfold r10_FieldOf at hE
  refine ACalls.of_wp (fn := Try.f24) (c := _) Try.tab_ok (fun _ _ => Try.call24 _ _) Try.func24 rfl (n := 28) rfl (rs := [.cell 4 50, .tmp 5]) rfl rfl ?_
  refine AWp.seqK fun K1 hK1 => ?_
  refine AWp.region ?_
  refine AOps.s0 (Cert.boxV rfl) rfl ?_
  refine AOps.sL (Cert.allocL (Try.tab_ok _ _ rfl) rfl (by repeat (first | exact Snoc.nil | apply Snoc.cons))) rfl ?_
  refine AOps.s0 (Cert.assign (by conv => lhs; whnf)) rfl ?_
  refine AOps.nil ?_
  refine hK1 _ ?_
  clear hK1 K1
  refine AWp.seqJ (KeepsT.cons (k := 4) (by conv => lhs; whnf) KeepsT.nil) (fun (z : TField) => []) (fun z => [TField.c z]) (fun z => H) (fun z => r10_FieldOf_j2 a0 a1 z = some r) ?_ ?_
  · intro K2 hK2
    refine AWp.seqK fun K5 hK5 => ?_
    refine AWp.region ?_
    refine AOps.s0 (Cert.assign (by conv => lhs; whnf)) rfl ?_
    refine AOps.nil ?_
    refine hK5 _ ?_
    clear hK5 K5
    refine AWp.block ?_
    refine AWp.loopO (KeepsT.cons (k := 1) (by conv => lhs; whnf) (KeepsT.cons (k := 2) (by conv => lhs; whnf) (KeepsT.cons (k := 4) (by conv => lhs; whnf) KeepsT.nil))) (fun (z : Nat × Nat × TField) => [(6, .a (.d (.int .i64 ((z.2.1 : Nat) : Int))))]) (fun z => [TField.c z.2.2]) (fun z => H) (fun z => z.1) (fun z => r10_FieldOf_l6 a0 a1 z.1 z.2.1 z.2.2 = some r) (F0, 0, TField.zero) hE (Weak.to (by repeat (first | exact Keeps.nil | refine Keeps.c rfl rfl ?_ | refine Keeps.c (by (first | (first | rfl | ((conv => lhs; whnf); first | (simp [cellsA, faultsT, faultsD, namesD, Fault.mk_c, Nat.add_assoc, empty_append, Bool.and_assoc]; done) | (simp [cellsA, faultsT, faultsD, namesD, Nat.add_assoc, empty_append, Bool.and_assoc]; repeat (first | rfl | constructor)))) | rfl | (simp only [get_same, ev]; done) | (simp [*, cellsA]; done) | (show V.a (A.d (D.slice _ _ _ _)) = V.a (A.d (D.slice _ _ _ _)); simp [*, cellsA]; done))) rfl ?_)) (by repeat (first | exact Pfx.nil | apply Pfx.cons)) (by first | rfl | (first | rfl | (simp only [Heap.set_set, List.length_append, List.length_nil, List.length_cons, List.length_map, List.length_singleton, Nat.zero_add]; done) | (simp [Heap.set_set, Nat.add_assoc]; done)) | (((funext n; simp only [Heap.set]; (repeat' split) <;> simp_all)) <;> first | rfl | exact ⟨rfl, rfl⟩))) ?_
    rintro ⟨n6, s6_7, y8_l0⟩ hE K6 hK6
    try dsimp only at hE
    cases n6 with
    | zero => cases hE
    | succ n6 =>
        rw [r10_FieldOf_l6] at hE
        refine AWp.seqK fun K9 hK9 => ?_
        refine AWp.seqK fun K10 hK10 => ?_
        refine AWp.region ?_
        refine AOps.s0 (Cert.move (by conv => lhs; whnf)) rfl ?_
        refine AOps.s0 (Cert.fieldV (Try.tab_ok _ _ rfl) rfl rfl (Try.tab_ok _ _ rfl) rfl rfl (by conv => lhs; whnf)) rfl ?_
        refine AOps.s0 (Cert.loadV (Try.tab_ok _ _ rfl) rfl rfl rfl) rfl ?_
        refine AOps.sLen (f := TField.c) (s := a0.FFields) (Try.tab_ok _ _ rfl) rfl rfl rfl rfl fun hL11 => ?_
        refine AOps.s0 (Cert.binI rfl rfl rfl) rfl ?_
        refine AOps.nil ?_
        refine hK10 _ ?_
        clear hK10 K10
        refine AWp.cond rfl (fun hc12 => ?_) (fun hc12 => ?_)
        · have hE := condT hc12 hE
          try dsimp only at hc12
          have hf12 := of_decide_eq_true hc12
          refine AWp.skip ?_
          refine hK9 _ ?_
          clear hK9 K9
          refine AWp.seqK fun K13 hK13 => ?_
          refine AWp.block ?_
          refine AWp.seqK fun K14 hK14 => ?_
          refine AWp.region ?_
          refine AOps.s0 (Cert.fieldV (Try.tab_ok _ _ rfl) rfl rfl (Try.tab_ok _ _ rfl) rfl rfl (by conv => lhs; whnf)) rfl ?_
          refine AOps.s0 (Cert.loadV (Try.tab_ok _ _ rfl) rfl rfl rfl) rfl ?_
          refine AOps.s0 (Cert.move (by conv => lhs; whnf)) rfl ?_
          obtain ⟨x15, gx15, hE⟩ := bindO_some hE
          refine AOps.s0 (Cert.idxMn (f := TField.c) (n := s6_7) (Try.tab_ok _ _ rfl) rfl (Try.tab_ok _ _ rfl) rfl rfl rfl gx15) rfl ?_
          refine AOps.s0 (Cert.fieldV (Try.tab_ok _ _ rfl) rfl rfl (Try.tab_ok _ _ rfl) rfl rfl (by conv => lhs; whnf)) rfl ?_
          refine AOps.s0 (Cert.loadV (Try.tab_ok _ _ rfl) rfl rfl rfl) rfl ?_
          refine AOps.s0 (Cert.move (by conv => lhs; whnf)) rfl ?_
          refine AOps.s0 (Cert.binS rfl rfl rfl) rfl ?_
          refine AOps.nil ?_
          refine hK14 _ ?_
          clear hK14 K14
          refine AWp.cond rfl (fun hc16 => ?_) (fun hc16 => ?_)
          · have hE := condT hc16 hE
            try dsimp only at hc16
            refine AWp.seqK fun K17 hK17 => ?_
            refine AWp.region ?_
            refine AOps.s0 (Cert.fieldV (Try.tab_ok _ _ rfl) rfl rfl (Try.tab_ok _ _ rfl) rfl rfl (by conv => lhs; whnf)) rfl ?_
            refine AOps.s0 (Cert.loadV (Try.tab_ok _ _ rfl) rfl rfl rfl) rfl ?_
            refine AOps.s0 (Cert.move (by conv => lhs; whnf)) rfl ?_
            obtain ⟨x18, gx18, hE⟩ := bindO_some hE
            refine AOps.s0 (Cert.idxMn (f := TField.c) (n := s6_7) (Try.tab_ok _ _ rfl) rfl (Try.tab_ok _ _ rfl) rfl rfl rfl gx18) rfl ?_
            refine AOps.s0 (Cert.loadV (Try.tab_ok _ _ rfl) rfl rfl rfl) rfl ?_
            refine AOps.sLn (Cert.storeLF (Try.tab_ok _ _ rfl) rfl rfl rfl rfl rfl (by repeat (first | exact SetAt.zero | apply SetAt.succ))) ?_
            refine AOps.s0 (Cert.assign (by conv => lhs; whnf)) rfl ?_
            refine AOps.nil ?_
            refine hK17 _ ?_
            clear hK17 K17
            refine AWp.ret ?_
            repeat (first | refine xBlock_ret ?_ | refine xThen_ret ?_)
            obtain rfl := Option.some.inj hE
            refine retQ.retF H rfl ⟨rfl, rfl⟩ ?_
            exact (fun _ _ h => h)
          · have hE := condF hc16 hE
            try dsimp only at hc16
            refine AWp.skip ?_
            refine hK13 _ ?_
            clear hK13 K13
            refine AWp.region ?_
            refine AOps.s0 (Cert.move (by conv => lhs; whnf)) rfl ?_
            refine AOps.s0 (Cert.addI rfl rfl (by first | omega | (dsimp only; omega)) (by first | omega | (dsimp only; omega))) rfl ?_
            refine AOps.s0 (Cert.assign (by conv => lhs; whnf)) rfl ?_
            refine AOps.nil ?_
            exact hK6 _ (n6, (s6_7 + 1), y8_l0) (Weak.to (by repeat (first | exact Keeps.nil | refine Keeps.c rfl rfl ?_ | refine Keeps.c (by (first | (first | rfl | ((conv => lhs; whnf); first | (simp [cellsA, faultsT, faultsD, namesD, Fault.mk_c, Nat.add_assoc, empty_append, Bool.and_assoc]; done) | (simp [cellsA, faultsT, faultsD, namesD, Nat.add_assoc, empty_append, Bool.and_assoc]; repeat (first | rfl | constructor)))) | rfl | (simp only [get_same, ev]; done) | (simp [*, cellsA]; done) | (show V.a (A.d (D.slice _ _ _ _)) = V.a (A.d (D.slice _ _ _ _)); simp [*, cellsA]; done))) rfl ?_)) (by repeat (first | exact Pfx.nil | apply Pfx.cons)) (by first | rfl | (first | rfl | (simp only [Heap.set_set, List.length_append, List.length_nil, List.length_cons, List.length_map, List.length_singleton, Nat.zero_add]; done) | (simp [Heap.set_set, Nat.add_assoc]; done)) | (((funext n; simp only [Heap.set]; (repeat' split) <;> simp_all)) <;> first | rfl | exact ⟨rfl, rfl⟩))) hE (Nat.lt_succ_self _)
        · have hE := condF hc12 hE
          try dsimp only at hc12
          refine AWp.exit ?_
          exact hK2 _ y8_l0 (Weak.to (by repeat (first | exact Keeps.nil | refine Keeps.c rfl rfl ?_ | refine Keeps.c (by (first | (first | rfl | ((conv => lhs; whnf); first | (simp [cellsA, faultsT, faultsD, namesD, Fault.mk_c, Nat.add_assoc, empty_append, Bool.and_assoc]; done) | (simp [cellsA, faultsT, faultsD, namesD, Nat.add_assoc, empty_append, Bool.and_assoc]; repeat (first | rfl | constructor)))) | rfl | (simp only [get_same, ev]; done) | (simp [*, cellsA]; done) | (show V.a (A.d (D.slice _ _ _ _)) = V.a (A.d (D.slice _ _ _ _)); simp [*, cellsA]; done))) rfl ?_)) (by repeat (first | exact Pfx.nil | apply Pfx.cons)) (by first | rfl | (first | rfl | (simp only [Heap.set_set, List.length_append, List.length_nil, List.length_cons, List.length_map, List.length_singleton, Nat.zero_add]; done) | (simp [Heap.set_set, Nat.add_assoc]; done)) | (((funext n; simp only [Heap.set]; (repeat' split) <;> simp_all)) <;> first | rfl | exact ⟨rfl, rfl⟩))) hE
  · rintro y3_l0 hE
    try dsimp only at hE
    unfold r10_FieldOf_j2 at hE
    refine AWp.seqK fun K4 hK4 => ?_
    refine AWp.region ?_
    refine AOps.s0 (Cert.build Try.tab_ok rfl rfl rfl rfl rfl rfl) rfl ?_
    refine AOps.sLn (Cert.storeLF (Try.tab_ok _ _ rfl) rfl rfl rfl rfl rfl (by repeat (first | exact SetAt.zero | apply SetAt.succ))) ?_
    refine AOps.s0 (Cert.assign (by conv => lhs; whnf)) rfl ?_
    refine AOps.nil ?_
    refine hK4 _ ?_
    clear hK4 K4
    refine AWp.ret ?_
    repeat (first | refine xBlock_ret ?_ | refine xThen_ret ?_)
    obtain rfl := Option.some.inj hE
    refine retQ.retF H rfl ⟨rfl, rfl⟩ ?_
    exact (fun _ _ h => h)
end Go.Proofs

namespace Go.Proofs
open Go Go.Ab
def r14_Type (a0 : TDoc) (a1 : Bs) (a2 : Bs) : Option (TRef × Bool) := (r10_Composite a0 a1).bind fun x4 => bif (!x4) then (some ((TRef.mk ([] : Bs) (Sl.nil : Sl Int)), false)) else (bif ((a2 == ([95, 95, 116, 121, 112, 101, 110, 97, 109, 101] : Bs))) then ((r05_Named ([83, 116, 114, 105, 110, 103] : Bs)).bind fun x11 => (r05_NonNull x11).bind fun x12 => some (x12, true)) else ((r10_Find a0 a1).bind fun x14 => (r10_FieldOf x14.1 a2).bind fun x16 => some (x16.1.FType, x16.2)))
set_option maxRecDepth 100000 in
set_option maxHeartbeats 2000000 in
theorem r14_Type_walk {a0 : TDoc} {a1 : Bs} {a2 : Bs}   {r : (TRef × Bool)} (hE : r14_Type a0 a1 a2 = some r) (H : Heap)  : ACalls Try.prog 8 [.agg (TDoc.c a0), .d (.str a1), .d (.str a2)] H fun v h' => v = .tup [.agg (TRef.c r.1), .d (.bool r.2)] ∧ h' = H := by
  unfold r14_Type at hE
  refine ACalls.of_wp (fn := Try.f8) (c := _) Try.tab_ok (fun _ _ => Try.call8 _ _) Try.func8 rfl (n := 36) rfl (rs := [.cell 6 29, .tmp 7]) rfl rfl ?_
  refine AWp.seqK fun K1 hK1 => ?_
  refine AWp.region ?_
  refine AOps.s0 (Cert.boxV rfl) rfl ?_
  refine AOps.sL (Cert.allocL (Try.tab_ok _ _ rfl) rfl (by repeat (first | exact Snoc.nil | apply Snoc.cons))) rfl ?_
  refine AOps.s0 (Cert.assign (by conv => lhs; whnf)) rfl ?_
  refine AOps.nil ?_
  refine hK1 _ ?_
  clear hK1 K1
  refine AWp.seqK fun K2 hK2 => ?_
  refine AWp.seqK fun K3 hK3 => ?_
  refine AWp.region ?_
  refine AOps.s0 (Cert.loadV (Try.tab_ok _ _ rfl) rfl rfl rfl) rfl ?_
  refine AOps.s0 (Cert.move (by conv => lhs; whnf)) rfl ?_
  obtain ⟨x4, gx4, hE⟩ := bindO_some hE
  refine AOps.s0 (Cert.callP rfl rfl (fun H => r10_Composite_walk gx4 H)) rfl ?_
  refine AOps.s0 (Cert.notB rfl) rfl ?_
  refine AOps.nil ?_
  refine hK3 _ ?_
  clear hK3 K3
  refine AWp.cond rfl (fun hc5 => ?_) (fun hc5 => ?_)
  · have hE := condT hc5 hE
    try dsimp only at hc5
    refine AWp.seqK fun K6 hK6 => ?_
    refine AWp.region ?_
    refine AOps.s0 (Cert.build Try.tab_ok rfl rfl rfl rfl rfl rfl) rfl ?_
    refine AOps.sLn (Cert.storeLF (Try.tab_ok _ _ rfl) rfl rfl rfl rfl rfl (by repeat (first | exact SetAt.zero | apply SetAt.succ))) ?_
    refine AOps.s0 (Cert.assign (by conv => lhs; whnf)) rfl ?_
    refine AOps.nil ?_
    refine hK6 _ ?_
    clear hK6 K6
    refine AWp.ret ?_
    repeat (first | refine xBlock_ret ?_ | refine xThen_ret ?_)
    obtain rfl := Option.some.inj hE
    refine retQ.retF H rfl ⟨rfl, rfl⟩ ?_
    exact (fun _ _ h => h)
  · have hE := condF hc5 hE
    try dsimp only at hc5
    refine AWp.skip ?_
    refine hK2 _ ?_
    clear hK2 K2
    refine AWp.seqK fun K7 hK7 => ?_
    refine AWp.seqK fun K8 hK8 => ?_
    refine AWp.region ?_
    refine AOps.s0 (Cert.move (by conv => lhs; whnf)) rfl ?_
    refine AOps.s0 (Cert.binS rfl rfl rfl) rfl ?_
    refine AOps.nil ?_
    refine hK8 _ ?_
    clear hK8 K8
    refine AWp.cond rfl (fun hc9 => ?_) (fun hc9 => ?_)
    · have hE := condT hc9 hE
      try dsimp only at hc9
      refine AWp.seqK fun K10 hK10 => ?_
      refine AWp.region ?_
      obtain ⟨x11, gx11, hE⟩ := bindO_some hE
      refine AOps.s0 (Cert.callP rfl rfl (fun H => r05_Named_walk gx11 H)) rfl ?_
      obtain ⟨x12, gx12, hE⟩ := bindO_some hE
      refine AOps.s0 (Cert.callP rfl rfl (fun H => r05_NonNull_walk gx12 H)) rfl ?_
      refine AOps.sLn (Cert.storeLF (Try.tab_ok _ _ rfl) rfl rfl rfl rfl rfl (by repeat (first | exact SetAt.zero | apply SetAt.succ))) ?_
      refine AOps.s0 (Cert.assign (by conv => lhs; whnf)) rfl ?_
      refine AOps.nil ?_
      refine hK10 _ ?_
      clear hK10 K10
      refine AWp.ret ?_
      repeat (first | refine xBlock_ret ?_ | refine xThen_ret ?_)
      obtain rfl := Option.some.inj hE
      refine retQ.retF H rfl ⟨rfl, rfl⟩ ?_
      exact (fun _ _ h => h)
    · have hE := condF hc9 hE
      try dsimp only at hc9
      refine AWp.skip ?_
      refine hK7 _ ?_
      clear hK7 K7
      refine AWp.seqK fun K13 hK13 => ?_
      refine AWp.region ?_
      refine AOps.s0 (Cert.loadV (Try.tab_ok _ _ rfl) rfl rfl rfl) rfl ?_
      refine AOps.s0 (Cert.move (by conv => lhs; whnf)) rfl ?_
      obtain ⟨x14, gx14, hE⟩ := bindO_some hE
      refine AOps.s0 (Cert.callP rfl rfl (fun H => r10_Find_walk gx14 H)) rfl ?_
      refine AOps.s0 (Cert.move (by conv => lhs; whnf)) rfl ?_
      refine AOps.s0 (Cert.extract rfl rfl) rfl ?_
      refine AOps.s0 (Cert.extract rfl rfl) rfl ?_
      refine AOps.sL (Cert.allocL (Try.tab_ok _ _ rfl) rfl (by repeat (first | exact Snoc.nil | apply Snoc.cons))) rfl ?_
      refine AOps.sLn (Cert.storeLF (Try.tab_ok _ _ rfl) rfl rfl rfl rfl rfl (by repeat (first | exact SetAt.zero | apply SetAt.succ))) ?_
      refine AOps.s0 (Cert.assign (by conv => lhs; whnf)) rfl ?_
      refine AOps.nil ?_
      refine hK13 _ ?_
      clear hK13 K13
      refine AWp.freeze 8 _ rfl (by repeat (first | exact Snoc.nil | apply Snoc.cons)) (Keeps.c (k := 2) (by conv => lhs; whnf) (by rfl) (Keeps.c (k := 6) (by conv => lhs; whnf) (by rfl) Keeps.nil)) ?_
      refine AWp.seqK fun K15 hK15 => ?_
      refine AWp.region ?_
      refine AOps.s0 (Cert.loadV (Try.tab_ok _ _ rfl) rfl rfl rfl) rfl ?_
      refine AOps.s0 (Cert.move (by conv => lhs; whnf)) rfl ?_
      obtain ⟨x16, gx16, hE⟩ := bindO_some hE
      refine AOps.s0 (Cert.callP rfl rfl (fun H => r10_FieldOf_walk gx16 H)) rfl ?_
      refine AOps.s0 (Cert.move (by conv => lhs; whnf)) rfl ?_
      refine AOps.s0 (Cert.extract rfl rfl) rfl ?_
      refine AOps.s0 (Cert.extract rfl rfl) rfl ?_
      refine AOps.sL (Cert.allocL (Try.tab_ok _ _ rfl) rfl (by repeat (first | exact Snoc.nil | apply Snoc.cons))) rfl ?_
      refine AOps.sLn (Cert.storeLF (Try.tab_ok _ _ rfl) rfl rfl rfl rfl rfl (by repeat (first | exact SetAt.zero | apply SetAt.succ))) ?_
      refine AOps.s0 (Cert.assign (by conv => lhs; whnf)) rfl ?_
      refine AOps.nil ?_
      refine hK15 _ ?_
      clear hK15 K15
      refine AWp.freeze 10 _ rfl (by repeat (first | exact Snoc.nil | apply Snoc.cons)) (Keeps.c (k := 6) (by conv => lhs; whnf) (by rfl) (Keeps.c (k := 11) (by conv => lhs; whnf) (by rfl) Keeps.nil)) ?_
      refine AWp.seqK fun K17 hK17 => ?_
      refine AWp.region ?_
      refine AOps.s0 (Cert.fieldV (Try.tab_ok _ _ rfl) rfl rfl (Try.tab_ok _ _ rfl) rfl rfl (by conv => lhs; whnf)) rfl ?_
      refine AOps.s0 (Cert.loadV (Try.tab_ok _ _ rfl) rfl rfl rfl) rfl ?_
      refine AOps.s0 (Cert.move (by conv => lhs; whnf)) rfl ?_
      refine AOps.sLn (Cert.storeLF (Try.tab_ok _ _ rfl) rfl rfl rfl rfl rfl (by repeat (first | exact SetAt.zero | apply SetAt.succ))) ?_
      refine AOps.s0 (Cert.assign (by conv => lhs; whnf)) rfl ?_
      refine AOps.nil ?_
      refine hK17 _ ?_
      clear hK17 K17
      refine AWp.ret ?_
      repeat (first | refine xBlock_ret ?_ | refine xThen_ret ?_)
      obtain rfl := Option.some.inj hE
      refine retQ.retF H rfl ⟨rfl, rfl⟩ ?_
      exact (fun _ _ h => h)
def law14_FieldsType (a0 : TDoc) (a1 : Bs) (a2 : Bs) : Option Bool := (r10_Large a0).bind fun x4 => bif x4 then ((law14_knows ).bind fun x7 => some x7) else ((fields_Type a0 a1 a2).bind fun x9 => (r14_Type a0 a1 a2).bind fun x11 => guardO (((x9.2 == x11.2))) (r05_Same x9.1 x11.1) false fun x13 => guardO ((((x9.2 == x11.2)) && x13)) (law14_knows ) false fun x14 => some ((((x9.2 == x11.2)) && x13) && x14))
set_option maxRecDepth 100000 in
set_option maxHeartbeats 2000000 in
theorem law14_FieldsType_walk {a0 : TDoc} {a1 : Bs} {a2 : Bs}   {r : Bool} (hE : law14_FieldsType a0 a1 a2 = some r) (H : Heap)  : ACalls Try.prog 3 [.agg (TDoc.c a0), .d (.str a1), .d (.str a2)] H fun v h' => v = .a (.d (.bool r)) ∧ h' = H := by
  unfold law14_FieldsType at hE
  refine ACalls.of_wp (fn := Try.f3) (c := _) Try.tab_ok (fun _ _ => Try.call3 _ _) Try.func3 rfl (n := 39) rfl (rs := [.tmp 6]) rfl rfl ?_
  refine AWp.seqK fun K1 hK1 => ?_
  refine AWp.region ?_
  refine AOps.s0 (Cert.boxV rfl) rfl ?_
  refine AOps.s0 (Cert.assign (by conv => lhs; whnf)) rfl ?_
  refine AOps.nil ?_
  refine hK1 _ ?_
  clear hK1 K1
  refine AWp.seqK fun K2 hK2 => ?_
  refine AWp.seqK fun K3 hK3 => ?_
  refine AWp.region ?_
  refine AOps.s0 (Cert.loadV (Try.tab_ok _ _ rfl) rfl rfl rfl) rfl ?_
  obtain ⟨x4, gx4, hE⟩ := bindO_some hE
  refine AOps.s0 (Cert.callP rfl rfl (fun H => r10_Large_walk gx4 H)) rfl ?_
  refine AOps.nil ?_
  refine hK3 _ ?_
  clear hK3 K3
  refine AWp.cond rfl (fun hc5 => ?_) (fun hc5 => ?_)
  · have hE := condT hc5 hE
    try dsimp only at hc5
    refine AWp.seqK fun K6 hK6 => ?_
    refine AWp.region ?_
    obtain ⟨x7, gx7, hE⟩ := bindO_some hE
    refine AOps.s0 (Cert.callP rfl rfl (fun H => law14_knows_walk gx7 H)) rfl ?_
    refine AOps.s0 (Cert.assign (by conv => lhs; whnf)) rfl ?_
    refine AOps.nil ?_
    refine hK6 _ ?_
    clear hK6 K6
    refine AWp.ret ?_
    repeat (first | refine xBlock_ret ?_ | refine xThen_ret ?_)
    obtain rfl := Option.some.inj hE
    refine retQ.retF H rfl ⟨rfl, rfl⟩ ?_
    exact (fun _ _ h => h)
  · have hE := condF hc5 hE
    try dsimp only at hc5
    refine AWp.skip ?_
    refine hK2 _ ?_
    clear hK2 K2
    refine AWp.seqK fun K8 hK8 => ?_
    refine AWp.region ?_
    refine AOps.s0 (Cert.loadV (Try.tab_ok _ _ rfl) rfl rfl rfl) rfl ?_
    refine AOps.s0 (Cert.move (by conv => lhs; whnf)) rfl ?_
    refine AOps.s0 (Cert.move (by conv => lhs; whnf)) rfl ?_
    obtain ⟨x9, gx9, hE⟩ := bindO_some hE
    refine AOps.s0 (Cert.callP rfl rfl (fun H => fields_Type_walk gx9 H)) rfl ?_
    refine AOps.s0 (Cert.move (by conv => lhs; whnf)) rfl ?_
    refine AOps.s0 (Cert.extract rfl rfl) rfl ?_
    refine AOps.s0 (Cert.extract rfl rfl) rfl ?_
    refine AOps.sL (Cert.allocL (Try.tab_ok _ _ rfl) rfl (by repeat (first | exact Snoc.nil | apply Snoc.cons))) rfl ?_
    refine AOps.sLn (Cert.storeLF (Try.tab_ok _ _ rfl) rfl rfl rfl rfl rfl (by repeat (first | exact SetAt.zero | apply SetAt.succ))) ?_
    refine AOps.s0 (Cert.assign (by conv => lhs; whnf)) rfl ?_
    refine AOps.nil ?_
    refine hK8 _ ?_
    clear hK8 K8
    refine AWp.freeze 7 _ rfl (by repeat (first | exact Snoc.nil | apply Snoc.cons)) (Keeps.c (k := 1) (by conv => lhs; whnf) (by rfl) (Keeps.c (k := 2) (by conv => lhs; whnf) (by rfl) (Keeps.c (k := 3) (by conv => lhs; whnf) (by rfl) (Keeps.c (k := 8) (by conv => lhs; whnf) (by rfl) Keeps.nil)))) ?_
    refine AWp.seqK fun K10 hK10 => ?_
    refine AWp.region ?_
    refine AOps.s0 (Cert.loadV (Try.tab_ok _ _ rfl) rfl rfl rfl) rfl ?_
    refine AOps.s0 (Cert.move (by conv => lhs; whnf)) rfl ?_
    refine AOps.s0 (Cert.move (by conv => lhs; whnf)) rfl ?_
    obtain ⟨x11, gx11, hE⟩ := bindO_some hE
    refine AOps.s0 (Cert.callP rfl rfl (fun H => r14_Type_walk gx11 H)) rfl ?_
    refine AOps.s0 (Cert.move (by conv => lhs; whnf)) rfl ?_
    refine AOps.s0 (Cert.extract rfl rfl) rfl ?_
    refine AOps.s0 (Cert.extract rfl rfl) rfl ?_
    refine AOps.sL (Cert.allocL (Try.tab_ok _ _ rfl) rfl (by repeat (first | exact Snoc.nil | apply Snoc.cons))) rfl ?_
    refine AOps.sLn (Cert.storeLF (Try.tab_ok _ _ rfl) rfl rfl rfl rfl rfl (by repeat (first | exact SetAt.zero | apply SetAt.succ))) ?_
    refine AOps.s0 (Cert.assign (by conv => lhs; whnf)) rfl ?_
    refine AOps.nil ?_
    refine hK10 _ ?_
    clear hK10 K10
    refine AWp.freeze 9 _ rfl (by repeat (first | exact Snoc.nil | apply Snoc.cons)) (Keeps.c (k := 7) (by conv => lhs; whnf) (by rfl) (Keeps.c (k := 8) (by conv => lhs; whnf) (by rfl) (Keeps.c (k := 10) (by conv => lhs; whnf) (by rfl) Keeps.nil))) ?_
    refine AWp.seqK fun K12 hK12 => ?_
    refine AWp.region ?_
    refine AOps.s0 (Cert.move (by conv => lhs; whnf)) rfl ?_
    refine AOps.s0 (Cert.move (by conv => lhs; whnf)) rfl ?_
    refine AOps.s0 (Cert.eqB (Try.tab_ok _ _ rfl) rfl rfl rfl) rfl ?_
    refine AOps.s0 (Cert.move (by conv => lhs; whnf)) rfl ?_
    refine AOps.gC rfl rfl (fun hC => Cert.loadV (Try.tab_ok _ _ rfl) rfl rfl rfl) rfl ?_
    refine AOps.gC rfl rfl (fun hC => Cert.loadV (Try.tab_ok _ _ rfl) rfl rfl rfl) rfl ?_
    obtain ⟨x13, gx13, hE⟩ := guardO_some hE
    refine AOps.gC rfl rfl (fun hC => Cert.ungd (k := 32) rfl (by first | exact hC | exact andL hC | exact andL (andL hC) | exact andL (andL (andL hC)) | exact andR hC | simp_all) (Cert.ungd (k := 33) rfl (by first | exact hC | exact andL hC | exact andL (andL hC) | exact andL (andL (andL hC)) | exact andR hC | simp_all) (Cert.callP rfl rfl (fun H => r05_Same_walk (gx13 hC) H)))) rfl ?_
    refine AOps.s0 (Cert.pickAnd rfl rfl (fun h => by first | exact h | exact notT h | exact andI hC h | exact andI hC (notT h) | simp_all) rfl) rfl ?_
    refine AOps.s0 (Cert.move (by conv => lhs; whnf)) rfl ?_
    obtain ⟨x14, gx14, hE⟩ := guardO_some hE
    refine AOps.gC rfl rfl (fun hC => Cert.callP rfl rfl (fun H => law14_knows_walk (gx14 hC) H)) rfl ?_
    refine AOps.s0 (Cert.pickAnd rfl rfl (fun h => by first | exact h | exact notT h | exact andI hC h | exact andI hC (notT h) | simp_all) rfl) rfl ?_
    refine AOps.s0 (Cert.assign (by conv => lhs; whnf)) rfl ?_
    refine AOps.nil ?_
    refine hK12 _ ?_
    clear hK12 K12
    refine AWp.ret ?_
    repeat (first | refine xBlock_ret ?_ | refine xThen_ret ?_)
    obtain rfl := Option.some.inj hE
    refine retQ.retF H rfl ⟨rfl, rfl⟩ ?_
    exact (fun _ _ h => h)
end Go.Proofs

namespace Go.Proofs
open Go Go.Ab
set_option maxRecDepth 100000 in
theorem knows14 : law14_knows = some true := by kernel_rfl
end Go.Proofs

namespace Go.Proofs
open Go Go.Ab
theorem F0_eq : F0 = 4611686018427387904 := rfl
def fnd (l : List TDef) (s : Bs) : TDef × Bool := match l.find? (fun t => t.FName == s) with | some t => (t, true) | none => (TDef.zero, false)
def fndF (l : List TField) (s : Bs) : TField × Bool := match l.find? (fun t => t.FName == s) with | some t => (t, true) | none => (TField.zero, false)

theorem fnd_t {a : TDef} {l : List TDef} {s : Bs} (e : (a.FName == s) = true) : fnd (a :: l) s = (a, true) := by simp [fnd, e]
theorem fnd_f {a : TDef} {l : List TDef} {s : Bs} (e : (a.FName == s) = false) : fnd (a :: l) s = fnd l s := by simp [fnd, e]
theorem fndF_t {a : TField} {l : List TField} {s : Bs} (e : (a.FName == s) = true) : fndF (a :: l) s = (a, true) := by simp [fndF, e]
theorem fndF_f {a : TField} {l : List TField} {s : Bs} (e : (a.FName == s) = false) : fndF (a :: l) s = fndF l s := by simp [fndF, e]
theorem schema_Find_loop (d : TDoc) (s : Bs) (n i : Nat) (y : TDef) (hi : i ≤ d.FDefs.l.length) (hn : d.FDefs.l.length < i + n) : schema_Find_l7 d s n i y = some (fnd (d.FDefs.l.drop i) s) := by
  induction n generalizing i with
  | zero => omega
  | succ n ih =>
    rw [schema_Find_l7]
    by_cases h : i < d.FDefs.l.length
    · have h1 : d.FDefs.l[i]? = some d.FDefs.l[i] := List.getElem?_eq_getElem h
      have h2 : decide (((i : Nat) : Int) < ((d.FDefs.l.length : Nat) : Int)) = true := by simpa using h
      rw [h2, h1, List.drop_eq_getElem_cons h]
      by_cases e : (d.FDefs.l[i].FName == s) = true
      · rw [fnd_t e]; simp only [cond_true, Option.bind_some, e]
      · have e' : (d.FDefs.l[i].FName == s) = false := by simpa using e
        simp only [cond_true, Option.bind_some, e', cond_false]
        rw [ih (i + 1) (by omega) (by omega), fnd_f e']
    · have h2 : decide (((i : Nat) : Int) < ((d.FDefs.l.length : Nat) : Int)) = false := by simpa using h
      rw [h2, List.drop_of_length_le (by omega)]
      rfl

theorem schema_Find_eq (d : TDoc) (s : Bs) (h : d.FDefs.l.length ≤ 1048576) : schema_Find d s = some (fnd d.FDefs.l s) := by
  unfold schema_Find; rw [schema_Find_loop d s F0 0 _ (by omega) (by rw [F0_eq]; omega), List.drop_zero]

theorem r10_Find_loop (d : TDoc) (s : Bs) (n i : Nat) (y : TDef) (hi : i ≤ d.FDefs.l.length) (hn : d.FDefs.l.length < i + n) : r10_Find_l6 d s n i y = some (fnd (d.FDefs.l.drop i) s) := by
  induction n generalizing i with
  | zero => omega
  | succ n ih =>
    rw [r10_Find_l6]
    by_cases h : i < d.FDefs.l.length
    · have h1 : d.FDefs.l[i]? = some d.FDefs.l[i] := List.getElem?_eq_getElem h
      have h2 : decide (((i : Nat) : Int) < ((d.FDefs.l.length : Nat) : Int)) = true := by simpa using h
      rw [h2, h1, List.drop_eq_getElem_cons h]
      by_cases e : (d.FDefs.l[i].FName == s) = true
      · rw [fnd_t e]; simp only [cond_true, Option.bind_some, e]
      · have e' : (d.FDefs.l[i].FName == s) = false := by simpa using e
        simp only [cond_true, Option.bind_some, e', cond_false]
        rw [ih (i + 1) (by omega) (by omega), fnd_f e']
    · have h2 : decide (((i : Nat) : Int) < ((d.FDefs.l.length : Nat) : Int)) = false := by simpa using h
      rw [h2, List.drop_of_length_le (by omega)]
      rfl

theorem r10_Find_eq (d : TDoc) (s : Bs) (h : d.FDefs.l.length ≤ 1048576) : r10_Find d s = some (fnd d.FDefs.l s) := by
  unfold r10_Find; rw [r10_Find_loop d s F0 0 _ (by omega) (by rw [F0_eq]; omega), List.drop_zero]

theorem schema_FieldOf_loop (d : TDef) (s : Bs) (n i : Nat) (y : TField) (hi : i ≤ d.FFields.l.length) (hn : d.FFields.l.length < i + n) : schema_FieldOf_l7 d s n i y = some (fndF (d.FFields.l.drop i) s) := by
  induction n generalizing i with
  | zero => omega
  | succ n ih =>
    rw [schema_FieldOf_l7]
    by_cases h : i < d.FFields.l.length
    · have h1 : d.FFields.l[i]? = some d.FFields.l[i] := List.getElem?_eq_getElem h
      have h2 : decide (((i : Nat) : Int) < ((d.FFields.l.length : Nat) : Int)) = true := by simpa using h
      rw [h2, h1, List.drop_eq_getElem_cons h]
      by_cases e : (d.FFields.l[i].FName == s) = true
      · rw [fndF_t e]; simp only [cond_true, Option.bind_some, e]
      · have e' : (d.FFields.l[i].FName == s) = false := by simpa using e
        simp only [cond_true, Option.bind_some, e', cond_false]
        rw [ih (i + 1) (by omega) (by omega), fndF_f e']
    · have h2 : decide (((i : Nat) : Int) < ((d.FFields.l.length : Nat) : Int)) = false := by simpa using h
      rw [h2, List.drop_of_length_le (by omega)]
      rfl

theorem schema_FieldOf_eq (d : TDef) (s : Bs) (h : d.FFields.l.length ≤ 1048576) : schema_FieldOf d s = some (fndF d.FFields.l s) := by
  unfold schema_FieldOf; rw [schema_FieldOf_loop d s F0 0 _ (by omega) (by rw [F0_eq]; omega), List.drop_zero]

theorem r10_FieldOf_loop (d : TDef) (s : Bs) (n i : Nat) (y : TField) (hi : i ≤ d.FFields.l.length) (hn : d.FFields.l.length < i + n) : r10_FieldOf_l6 d s n i y = some (fndF (d.FFields.l.drop i) s) := by
  induction n generalizing i with
  | zero => omega
  | succ n ih =>
    rw [r10_FieldOf_l6]
    by_cases h : i < d.FFields.l.length
    · have h1 : d.FFields.l[i]? = some d.FFields.l[i] := List.getElem?_eq_getElem h
      have h2 : decide (((i : Nat) : Int) < ((d.FFields.l.length : Nat) : Int)) = true := by simpa using h
      rw [h2, h1, List.drop_eq_getElem_cons h]
      by_cases e : (d.FFields.l[i].FName == s) = true
      · rw [fndF_t e]; simp only [cond_true, Option.bind_some, e]
      · have e' : (d.FFields.l[i].FName == s) = false := by simpa using e
        simp only [cond_true, Option.bind_some, e', cond_false]
        rw [ih (i + 1) (by omega) (by omega), fndF_f e']
    · have h2 : decide (((i : Nat) : Int) < ((d.FFields.l.length : Nat) : Int)) = false := by simpa using h
      rw [h2, List.drop_of_length_le (by omega)]
      rfl

theorem r10_FieldOf_eq (d : TDef) (s : Bs) (h : d.FFields.l.length ≤ 1048576) : r10_FieldOf d s = some (fndF d.FFields.l s) := by
  unfold r10_FieldOf; rw [r10_FieldOf_loop d s F0 0 _ (by omega) (by rw [F0_eq]; omega), List.drop_zero]

theorem scal_eq (s : Bs) : r10_Scalar s = schema_Scalar s := rfl
def scalB (s : Bs) : Bool := ((((s == ([73, 110, 116] : Bs))) || ((s == ([83, 116, 114, 105, 110, 103] : Bs)))) || ((s == ([66, 111, 111, 108, 101, 97, 110] : Bs)))) || ((s == ([73, 68] : Bs)))
def compB (d : TDoc) (s : Bs) : Bool := !scalB s && (((decide ((fnd d.FDefs.l s).1.FKind = (1 : Int))) || (decide ((fnd d.FDefs.l s).1.FKind = (2 : Int)))) || (decide ((fnd d.FDefs.l s).1.FKind = (3 : Int))))
theorem schema_Composite_eq (d : TDoc) (s : Bs) (h : d.FDefs.l.length ≤ 1048576) : schema_Composite d s = some (compB d s) := by
  unfold schema_Composite schema_kind schema_Scalar
  rw [schema_Find_eq d s h]; rfl
theorem r10_Composite_eq (d : TDoc) (s : Bs) (h : d.FDefs.l.length ≤ 1048576) : r10_Composite d s = some (compB d s) := by
  unfold r10_Composite r10_Scalar
  rw [r10_Find_eq d s h]
  simp only [Option.bind_some, Option.some.injEq]
  show ((!scalB s && _) && _) = _
  unfold compB
  cases hf : d.FDefs.l.find? (fun t => t.FName == s) with
  | some t => simp [fnd, hf]
  | none => simp [fnd, hf, TDef.zero]
/-! ### Sizes -/
theorem Bs.sz_pos (s : Bs) : 1 ≤ Bs.sz s := by unfold Bs.sz; omega
theorem Sl.sz_pos {α : Type} (f : α → Nat) (s : Sl α) : 1 ≤ s.sz f := by unfold Sl.sz; omega
theorem TRef.le (r : TRef) : r.FWraps.l.length ≤ r.sz := by have := Sl.len_le (f := fun _ : Int => 1) r.FWraps (fun _ => Nat.le_refl _); unfold TRef.sz; omega
theorem TDir.pos (x : TDir) : 1 ≤ x.sz := by unfold TDir.sz; have := Bs.sz_pos x.FName; omega
theorem TInput.pos (x : TInput) : 1 ≤ x.sz := by unfold TInput.sz; have := Bs.sz_pos x.FName; omega
theorem TField.pos (x : TField) : 1 ≤ x.sz := by unfold TField.sz; have := Bs.sz_pos x.FName; omega
theorem TMember.pos (x : TMember) : 1 ≤ x.sz := by unfold TMember.sz; have := Bs.sz_pos x.FName; omega
theorem TDef.pos (x : TDef) : 1 ≤ x.sz := by unfold TDef.sz; have := Bs.sz_pos x.FName; omega
theorem TField.le (x : TField) : x.FArgs.l.length ≤ x.sz ∧ x.FDirs.l.length ≤ x.sz ∧ x.FType.FWraps.l.length ≤ x.sz := by
  have h1 := Sl.len_le x.FArgs TInput.pos; have h2 := Sl.len_le x.FDirs TDir.pos; have h3 := x.FType.le
  unfold TField.sz; omega
theorem TDef.le (x : TDef) : x.FFields.l.length ≤ x.sz ∧ x.FMembers.l.length ≤ x.sz ∧ x.FInputs.l.length ≤ x.sz ∧ x.FDirs.l.length ≤ x.sz ∧ x.FImplements.l.length ≤ x.sz ∧ ∀ f ∈ x.FFields.l, f.sz ≤ x.sz := by
  have h1 := Sl.len_le x.FFields TField.pos; have h2 := Sl.len_le x.FMembers TMember.pos; have h3 := Sl.len_le x.FInputs TInput.pos; have h4 := Sl.len_le x.FDirs TDir.pos; have h5 := Sl.len_le x.FImplements Bs.sz_pos
  refine ⟨?_, ?_, ?_, ?_, ?_, fun f hf => ?_⟩
  all_goals try (unfold TDef.sz; omega)
  have := Sl.mem_le (f := TField.sz) hf
  unfold TDef.sz; omega
theorem TDoc.le (x : TDoc) : x.FDefs.l.length ≤ x.sz ∧ ∀ f ∈ x.FDefs.l, f.sz ≤ x.sz := by
  have h1 := Sl.len_le x.FDefs TDef.pos
  refine ⟨by unfold TDoc.sz; omega, fun f hf => ?_⟩
  have := Sl.mem_le (f := TDef.sz) hf
  unfold TDoc.sz; omega
/-! ### Large -/
theorem addC_ok {a b : Int} (h : -9223372036854775808 ≤ a + b ∧ a + b ≤ 9223372036854775807) : addC a b = some (a + b) := by unfold addC; rw [if_pos h]
theorem large_in (a0 : TDoc) (n12 : Nat) (s3 : Int) (s4 : Nat) (x : TDef) (y1 y2 y3 y4 y5 y6 : Int) (k : Int → Nat → Option Bool) (hx : x.sz ≤ 1048576) (S : Int) (hS : 0 ≤ S ∧ S ≤ 1152921504606846976)
    (hk : ∀ t, 0 ≤ t → t ≤ S + 2199023255552 → ∃ b, k t (s4 + 1) = some b) (n j : Nat) (s : Int) (hj : j ≤ x.FFields.l.length) (hn : x.FFields.l.length < j + n) (hs : 0 ≤ s ∧ s ≤ S + j * 2097152) : ∃ b, r10_Large_l36 a0 n12 s3 s4 x y1 y2 y3 y4 y5 y6 k n s j = some b := by
  have hl := x.le
  induction n generalizing j s with
  | zero => omega
  | succ n ih =>
    rw [r10_Large_l36]
    by_cases h : j < x.FFields.l.length
    · have h1 : x.FFields.l[j]? = some x.FFields.l[j] := List.getElem?_eq_getElem h
      have h2 : decide (((j : Nat) : Int) < ((x.FFields.l.length : Nat) : Int)) = true := by simpa using h
      have h3 := (x.FFields.l[j]).le
      have h4 := hl.2.2.2.2.2 _ (List.getElem_mem h)
      rw [h2, h1]
      simp only [cond_true, Option.bind_some]
      rw [addC_ok (by omega)]
      simp only [Option.bind_some]
      rw [addC_ok (by omega)]
      simp only [Option.bind_some]
      exact ih (j + 1) _ (by omega) (by omega) (by omega)
    · have h2 : decide (((j : Nat) : Int) < ((x.FFields.l.length : Nat) : Int)) = false := by simpa using h
      rw [h2]
      exact hk s hs.1 (by omega)
theorem large_out (d : TDoc) (hd : d.sz ≤ 1048576) (n i : Nat) (s : Int) (hi : i ≤ d.FDefs.l.length) (hn : d.FDefs.l.length < i + n) (hs : 0 ≤ s ∧ s ≤ i * 4398046511104) (h70 : d.FDefs.l.length ≤ 70) : ∃ b, r10_Large_l12 d n s i = some b := by
  induction n generalizing i s with
  | zero => omega
  | succ n ih =>
    rw [r10_Large_l12]
    by_cases h : i < d.FDefs.l.length
    · have h1 : d.FDefs.l[i]? = some d.FDefs.l[i] := List.getElem?_eq_getElem h
      have h2 : decide (((i : Nat) : Int) < ((d.FDefs.l.length : Nat) : Int)) = true := by simpa using h
      have h3 := d.le.2 _ (List.getElem_mem h)
      have h4 := (d.FDefs.l[i]).le
      rw [h2, h1]
      simp only [cond_true, Option.bind_some]
      iterate 6 (rw [addC_ok (by omega)]; simp only [Option.bind_some])
      refine large_in d n s i _ _ _ _ _ _ _ _ (by omega) (i * 4398046511104 + 8388608) (by omega) (fun t h5 h6 => ?_) F0 0 _ (by omega) (by rw [F0_eq]; omega) (by omega)
      exact ih (i + 1) t (by omega) (by omega) (by omega)
    · have h2 : decide (((i : Nat) : Int) < ((d.FDefs.l.length : Nat) : Int)) = false := by simpa using h
      rw [h2]
      exact ⟨_, rfl⟩
theorem r10_Large_ok (d : TDoc) (hd : d.sz ≤ 1048576) : ∃ b, r10_Large d = some b := by
  unfold r10_Large
  by_cases h : d.FDefs.l.length ≤ 70
  · have h2 : decide ((70 : Int) < ((d.FDefs.l.length : Nat) : Int)) = false := by simp; omega
    rw [h2]
    exact large_out d hd F0 0 0 (by omega) (by rw [F0_eq]; omega) (by omega) h
  · have h2 : decide ((70 : Int) < ((d.FDefs.l.length : Nat) : Int)) = true := by simp; omega
    rw [h2]
    exact ⟨_, rfl⟩
/-! ### References -/
theorem same_loop (a b : Sl Int) (e : a.l = b.l) (n i : Nat) (hi : i ≤ a.l.length) (hn : a.l.length < i + n) : r05_same_l11 a b n i = some true := by
  induction n generalizing i with
  | zero => omega
  | succ n ih =>
    rw [r05_same_l11]
    by_cases h : i < a.l.length
    · have h1 : a.l[i]? = some a.l[i] := List.getElem?_eq_getElem h
      have h2 : decide (((i : Nat) : Int) < ((a.l.length : Nat) : Int)) = true := by simpa using h
      rw [← e, h2, h1]
      simp only [cond_true, Option.bind_some, decide_true, Bool.not_true, cond_false]
      exact ih (i + 1) (by omega) (by omega)
    · have h2 : decide (((i : Nat) : Int) < ((a.l.length : Nat) : Int)) = false := by simpa using h
      rw [h2]; rfl
theorem r05_Same_ok (a b : TRef) (h1 : a.FName = b.FName) (h2 : a.FWraps.l = b.FWraps.l) (h3 : a.FWraps.l.length ≤ 1048576) : r05_Same a b = some true := by
  unfold r05_Same r05_same
  rw [same_loop a.FWraps b.FWraps h2 F0 0 (by omega) (by rw [F0_eq]; omega)]
  simp [h1, h2, guardO]
theorem clone_ok (a : Sl Int) (h : a.nl = true → a.l = []) (hl : a.l.length ≤ 1048576) : ∃ x : Sl Int, slices_Clone_intint a = some x ∧ x.l = a.l := by
  unfold slices_Clone_intint
  cases hn : a.nl with
  | true => exact ⟨_, rfl, (h hn).symm⟩
  | false =>
    refine ⟨⟨false, a.l⟩, ?_, rfl⟩
    simp only [cond_false, appC]
    rw [if_pos (by simp [maxN]; omega)]
    rfl
theorem type_ok (d : TDoc) (on fi : Bs) (hd : d.sz ≤ 1048576) (hw : d.wf) : ∃ x y : TRef × Bool, fields_Type d on fi = some x ∧ r14_Type d on fi = some y ∧ x.2 = y.2 ∧ r05_Same x.1 y.1 = some true := by
  have hl := d.le
  unfold fields_Type r14_Type
  rw [schema_Composite_eq d on (by omega), r10_Composite_eq d on (by omega)]
  simp only [Option.bind_some]
  cases compB d on with
  | false => exact ⟨_, _, rfl, rfl, rfl, by kernel_rfl⟩
  | true =>
    simp only [Bool.not_true, cond_false]
    cases hu : (fi == ([95, 95, 116, 121, 112, 101, 110, 97, 109, 101] : Bs)) with
    | true => exact ⟨(⟨[83, 116, 114, 105, 110, 103], ⟨false, [1]⟩⟩, true), (⟨[83, 116, 114, 105, 110, 103], ⟨false, [1]⟩⟩, true), by kernel_rfl, by kernel_rfl, rfl, by kernel_rfl⟩
    | false =>
      simp only [cond_false]
      rw [schema_Find_eq d on (by omega), r10_Find_eq d on (by omega)]
      simp only [Option.bind_some]
      have ht : (fnd d.FDefs.l on).1 = TDef.zero ∨ (fnd d.FDefs.l on).1 ∈ d.FDefs.l := by
        unfold fnd
        cases hf : d.FDefs.l.find? (fun t => t.FName == on) with
        | some t => exact .inr (List.mem_of_find?_eq_some hf)
        | none => exact .inl rfl
      generalize (fnd d.FDefs.l on).1 = t at ht
      have htl : t.FFields.l.length ≤ 1048576 ∧ (∀ f ∈ t.FFields.l, f.sz ≤ 1048576 ∧ (f.FType.FWraps.nl = true → f.FType.FWraps.l = [])) := by
        rcases ht with rfl | ht
        · exact ⟨by simp [TDef.zero, Sl.nil], fun f hf => by simp [TDef.zero, Sl.nil] at hf⟩
        · have h1 := hl.2 t ht
          have h2 := t.le
          refine ⟨by omega, fun f hf => ⟨by have := h2.2.2.2.2.2 f hf; omega, ?_⟩⟩
          have w1 : t.wf := hw.1.2.2 t ht
          have w2 : f.wf := w1.2.2.2.2.1.2.2 f hf
          exact w2.2.2.1.2.1.1
      rw [schema_FieldOf_eq t fi htl.1, r10_FieldOf_eq t fi htl.1]
      simp only [Option.bind_some]
      unfold fndF
      cases hf : t.FFields.l.find? (fun t => t.FName == fi) with
      | none => exact ⟨_, _, rfl, rfl, rfl, by kernel_rfl⟩
      | some f =>
        have hm := htl.2 f (List.mem_of_find?_eq_some hf)
        have h3 := f.le
        obtain ⟨x, hx, hxl⟩ := clone_ok f.FType.FWraps hm.2 (by omega)
        simp only [Bool.not_true, cond_false, hx, Option.bind_some]
        exact ⟨_, _, rfl, rfl, rfl, r05_Same_ok _ _ rfl hxl (by rw [show (TRef.mk f.FType.FName x).FWraps.l = f.FType.FWraps.l from hxl]; omega)⟩
theorem fieldsType_ok (d : TDoc) (on fi : Bs) (hd : d.sz ≤ 1048576) (hw : d.wf) : law14_FieldsType d on fi = some true := by
  unfold law14_FieldsType
  obtain ⟨b, hb⟩ := r10_Large_ok d hd
  obtain ⟨x, y, h1, h2, h3, h4⟩ := type_ok d on fi hd hw
  rw [hb, h1, h2, knows14]
  cases b with
  | true => rfl
  | false => simp [h3, h4, guardO]
end Go.Proofs

namespace Go.Proofs.Ytjghdpblmakljaa
open Go Go.Ab Go.RowKit Go.ChangeShapes Go.WideShapes Go.ChangeAt
theorem bulkAll {H : Type} (l : List (DataW H)) : Rows.uptoBulkAll l = (l.map Rows.uptoBulk).sum := by
  induction l with
  | nil => rfl
  | cons x r ih => simp only [Rows.uptoBulkAll, List.map_cons, List.sum_cons, ih]
theorem bulkB {H : Type} : Bulk (H := H) Rows.uptoBulk := by
  refine ⟨fun d => ?_, fun b => by simp [Rows.uptoBulk], fun e s => by simp only [Rows.uptoBulk, bulkAll]; omega, fun l => by simp only [Rows.uptoBulk, bulkAll]; omega⟩
  cases d with
  | lit l => cases l <;> simp [Rows.uptoBulk]
  | nil => simp [Rows.uptoBulk]
  | ptr d => simp [Rows.uptoBulk]
  | slice elems spare => simp [Rows.uptoBulk]
  | agg parts => simp [Rows.uptoBulk]
  | iface t d => simp [Rows.uptoBulk]
  | map entries => simp [Rows.uptoBulk]
  | held h => simp [Rows.uptoBulk]
theorem own : ownKnob Try.prog.godebug = none := by kernel_rfl
theorem laid : laidOutB Try.prog = true := by kernel_rfl
theorem bound {H : Type} {l : List (DataW H)} (hk : Rows.uptoSmall H l = true) : Rows.uptoBulkAll l ≤ 1048576 := of_decide_eq_true hk
theorem fieldsType_call (d : TDoc) (on fi : Bs) (hd : d.sz ≤ 1048576) (hw : d.wf) (H : Heap) : ACalls Try.prog 3 [.agg d.c, .d (.str on), .d (.str fi)] H fun r h' => r = .a (.d (.bool true)) ∧ h' = H := law14_FieldsType_walk (fieldsType_ok d on fi hd hw) H
end Go.Proofs.Ytjghdpblmakljaa

