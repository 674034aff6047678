import Derived.Test.YtjghdpblmakljaaV5
set_option linter.unusedVariables false
set_option linter.unusedSimpArgs false
namespace Go.Proofs
open Go Go.Ab
def r06_membersRight_j7 (a0 : (Sl TMember)) (a1 : Bool)   : Option Bool := some true
def r06_membersRight_l10 (a0 : (Sl TMember)) (a1 : Bool)  : Nat → Nat → Option Bool
 | 0, _ => none
 | n10 + 1, s5_11 => bif (decide (((s5_11 : Nat) : Int) < ((a0.l.length : Nat) : Int))) then ((a0.l[s5_11]?).bind fun x18 => (r01_Name x18.FName).bind fun x19 => guardO (!(!x19)) (a0.l[s5_11]?) TMember.zero fun x20 => guardO (!(!x19)) (r06_dirsRight x20.FDirs) false fun x21 => guardO ((!((!x19) || (!x21)) && a1)) (a0.l[s5_11]?) TMember.zero fun x22 => bif (((!x19) || (!x21)) || (a1 && (decide ((0 : Int) < ((x22.FDirs.l.length : Nat) : Int))))) then (some false) else ((r06_membersRight_l10 a0 a1 n10) (s5_11 + 1))) else (r06_membersRight_j7 a0 a1  )
def r06_membersRight (a0 : (Sl TMember)) (a1 : Bool) : Option Bool := bif ((decide (((a0.l.length : Nat) : Int) < (1 : Int))) || (decide ((64 : Int) < ((a0.l.length : Nat) : Int)))) then (some false) else (r06_membersRight_l10 a0 a1 (a0.l.length + 1) 0)
set_option maxRecDepth 100000 in
set_option maxHeartbeats 2000000 in
theorem r06_membersRight_walk {a0 : (Sl TMember)} {a1 : Bool} {w0 : Option Nat}  {r : Bool} (hE : r06_membersRight a0 a1 = some r) (H : Heap)  : ACalls Try.prog 50 [.d (Sl.d 2 TMember.c w0 a0), .d (.bool a1)] H fun v h' => v = .a (.d (.bool r)) ∧ h' = H := by
 unfold r06_membersRight at hE
 refine ACalls.of_wp (fn := Try.f50) (c := _) Try.tab_ok (fun _ _ => Try.call50 _ _) Try.func50 rfl (n := 48) rfl (rs := [.tmp 4]) rfl rfl ?_
 refine AWp.seqK fun K1 hK1 => ?_
 refine AWp.region ?_
 refine AOps.s0 (Cert.assign (by conv => lhs; whnf)) rfl ?_
 refine AOps.nil ?_
 refine hK1 _ ?_
 clear hK1 K1
 refine AWp.seqK fun K2 hK2 => ?_
 refine AWp.seqK fun K3 hK3 => ?_
 refine AWp.region ?_
 refine AOps.s0 (Cert.move (by conv => lhs; whnf)) rfl ?_
 refine AOps.sLen (f := TMember.c) (s := a0) (Try.tab_ok _ _ rfl) rfl rfl rfl rfl fun hL4 => ?_
 refine AOps.s0 (Cert.binI rfl rfl rfl) rfl ?_
 refine AOps.s0 (Cert.move (by conv => lhs; whnf)) rfl ?_
 refine AOps.gC rfl rfl (fun hC => Cert.move (by conv => lhs; whnf)) rfl ?_
 refine AOps.gC rfl rfl (fun hC => Cert.ungd (k := 10) rfl (by first | exact hC | exact andL hC | exact andL (andL hC) | exact andL (andL (andL hC)) | exact andR hC | simp_all) (Cert.lenM' (f := TMember.c) (s := a0) (Try.tab_ok _ _ rfl) rfl rfl rfl)) rfl ?_
 refine AOps.gC rfl rfl (fun hC => Cert.ungd (k := 11) rfl (by first | exact hC | exact andL hC | exact andL (andL hC) | exact andL (andL (andL hC)) | exact andR hC | simp_all) (Cert.binI rfl rfl rfl)) rfl ?_
 refine AOps.s0 (Cert.pickOr rfl rfl rfl (fun h => by first | exact h | exact notT h | exact andI hC h | exact andI hC (notT h) | simp_all)) rfl ?_
 refine AOps.nil ?_
 refine hK3 _ ?_
 clear hK3 K3
 refine AWp.cond rfl (fun hc5 => ?_) (fun hc5 => ?_)
 ·have hE := condT hc5 hE
  try dsimp only at hc5
  refine AWp.seqK fun K6 hK6 => ?_
  refine AWp.region ?_
  refine AOps.s0 (Cert.assign (by conv => lhs; whnf)) rfl ?_
  refine AOps.nil ?_
  refine hK6 _ ?_
  clear hK6 K6
  refine AWp.ret ?_
  repeat (first | refine xBlock_ret ?_ | refine xThen_ret ?_)
  obtain rfl := Option.some.inj hE
  refine retQ.retF H rfl ⟨rfl, rfl⟩ ?_
  exact (fun _ _ h => h)
 ·have hE := condF hc5 hE
  try dsimp only at hc5
  refine AWp.skip ?_
  refine hK2 _ ?_
  clear hK2 K2
  refine AWp.seqJH KeepsT.nil (fun (z : Unit) => []) (fun z => H) (fun z => r06_membersRight_j7 a0 a1  = some r) ?_ ?_
  ·intro K7 hK7
   refine AWp.seqK fun K9 hK9 => ?_
   refine AWp.region ?_
   refine AOps.s0 (Cert.assign (by conv => lhs; whnf)) rfl ?_
   refine AOps.nil ?_
   refine hK9 _ ?_
   clear hK9 K9
   refine AWp.block ?_
   refine AWp.loopH (KeepsT.cons (k := 0) (by conv => lhs; whnf) (KeepsT.cons (k := 1) (by conv => lhs; whnf) KeepsT.nil)) (fun (z : Nat × Nat) => [(5, .a (.d (.int .i64 ((z.2 : Nat) : Int))))]) (fun z => H) (fun z => z.1) (fun z => r06_membersRight_l10 a0 a1 z.1 z.2 = some r) ((a0.l.length + 1), 0) hE Weak.toA ?_
   rintro ⟨n10, s5_11⟩ hE K10 hK10
   try dsimp only at hE
   cases n10 with
   | zero => cases hE
   | succ n10 =>
     rw [r06_membersRight_l10] at hE
     refine AWp.seqK fun K12 hK12 => ?_
     refine AWp.seqK fun K13 hK13 => ?_
     refine AWp.region ?_
     refine AOps.s0 (Cert.move (by conv => lhs; whnf)) rfl ?_
     refine AOps.s0 (Cert.move (by conv => lhs; whnf)) rfl ?_
     refine AOps.sLen (f := TMember.c) (s := a0) (Try.tab_ok _ _ rfl) rfl rfl rfl rfl fun hL14 => ?_
     refine AOps.s0 (Cert.binI rfl rfl rfl) rfl ?_
     refine AOps.nil ?_
     refine hK13 _ ?_
     clear hK13 K13
     refine AWp.cond rfl (fun hc15 => ?_) (fun hc15 => ?_)
     ·have hE := condT hc15 hE
      try dsimp only at hc15
      have hf15 := of_decide_eq_true hc15
      refine AWp.skip ?_
      refine hK12 _ ?_
      clear hK12 K12
      refine AWp.seqK fun K16 hK16 => ?_
      refine AWp.block ?_
      refine AWp.seqK fun K17 hK17 => ?_
      refine AWp.region ?_
      refine AOps.s0 (Cert.move (by conv => lhs; whnf)) rfl ?_
      refine AOps.s0 (Cert.move (by conv => lhs; whnf)) rfl ?_
      obtain ⟨x18, gx18, hE⟩ := bindO_some hE
      refine AOps.s0 (Cert.idxMn (f := TMember.c) (n := s5_11) (Try.tab_ok _ _ rfl) rfl (Try.tab_ok _ _ rfl) rfl rfl rfl gx18) rfl ?_
      refine AOps.s0 (Cert.fieldV (Try.tab_ok _ _ rfl) rfl rfl (Try.tab_ok _ _ rfl) rfl rfl (by conv => lhs; whnf)) rfl ?_
      refine AOps.s0 (Cert.loadV (Try.tab_ok _ _ rfl) rfl rfl rfl) rfl ?_
      obtain ⟨x19, gx19, hE⟩ := bindO_some hE
      refine AOps.s0 (Cert.callP rfl rfl (fun H => r01_Name_walk gx19 H)) rfl ?_
      refine AOps.s0 (Cert.notB rfl) rfl ?_
      refine AOps.s0 (Cert.move (by conv => lhs; whnf)) rfl ?_
      refine AOps.gC rfl rfl (fun hC => Cert.move (by conv => lhs; whnf)) rfl ?_
      refine AOps.gC rfl rfl (fun hC => Cert.move (by conv => lhs; whnf)) rfl ?_
      obtain ⟨x20, gx20, hE⟩ := guardO_some hE
      refine AOps.gC rfl rfl (fun hC => Cert.ungd (k := 28) rfl (by first | exact hC | exact andL hC | exact andL (andL hC) | exact andL (andL (andL hC)) | exact andR hC | simp_all) (Cert.ungd (k := 29) rfl (by first | exact hC | exact andL hC | exact andL (andL hC) | exact andL (andL (andL hC)) | exact andR hC | simp_all) (Cert.idxMn (f := TMember.c) (n := s5_11) (Try.tab_ok _ _ rfl) rfl (Try.tab_ok _ _ rfl) rfl rfl rfl (gx20 hC)))) rfl ?_
      refine AOps.gC rfl rfl (fun hC => Cert.ungd (k := 30) rfl (by first | exact hC | exact andL hC | exact andL (andL hC) | exact andL (andL (andL hC)) | exact andR hC | simp_all) (Cert.fieldV (Try.tab_ok _ _ rfl) rfl rfl (Try.tab_ok _ _ rfl) rfl rfl (by conv => lhs; whnf))) rfl ?_
      refine AOps.gC rfl rfl (fun hC => Cert.ungd (k := 31) rfl (by first | exact hC | exact andL hC | exact andL (andL hC) | exact andL (andL (andL hC)) | exact andR hC | simp_all) (Cert.loadV (Try.tab_ok _ _ rfl) rfl rfl rfl)) rfl ?_
      obtain ⟨x21, gx21, hE⟩ := guardO_some hE
      refine AOps.gC rfl rfl (fun hC => Cert.ungd (k := 32) rfl (by first | exact hC | exact andL hC | exact andL (andL hC) | exact andL (andL (andL hC)) | exact andR hC | simp_all) (Cert.callP rfl rfl (fun H => r06_dirsRight_walk (gx21 hC) H))) rfl ?_
      refine AOps.gC rfl rfl (fun hC => Cert.ungd (k := 33) rfl (by first | exact hC | exact andL hC | exact andL (andL hC) | exact andL (andL (andL hC)) | exact andR hC | simp_all) (Cert.notB rfl)) rfl ?_
      refine AOps.s0 (Cert.pickOr rfl rfl rfl (fun h => by first | exact h | exact notT h | exact andI hC h | exact andI hC (notT h) | simp_all)) rfl ?_
      refine AOps.s0 (Cert.move (by conv => lhs; whnf)) rfl ?_
      refine AOps.gC rfl rfl (fun hC => Cert.move (by conv => lhs; whnf)) rfl ?_
      refine AOps.gC rfl rfl (fun hC => Cert.ungd (k := 37) rfl (by first | exact hC | exact andL hC | exact andL (andL hC) | exact andL (andL (andL hC)) | exact andR hC | simp_all) (Cert.move (by conv => lhs; whnf))) rfl ?_
      refine AOps.gC rfl rfl (fun hC => Cert.move (by conv => lhs; whnf)) rfl ?_
      refine AOps.gC rfl rfl (fun hC => Cert.move (by conv => lhs; whnf)) rfl ?_
      obtain ⟨x22, gx22, hE⟩ := guardO_some hE
      refine AOps.gC rfl rfl (fun hC => Cert.ungd (k := 39) rfl (by first | exact hC | exact andL hC | exact andL (andL hC) | exact andL (andL (andL hC)) | exact andR hC | simp_all) (Cert.ungd (k := 40) rfl (by first | exact hC | exact andL hC | exact andL (andL hC) | exact andL (andL (andL hC)) | exact andR hC | simp_all) (Cert.idxMn (f := TMember.c) (n := s5_11) (Try.tab_ok _ _ rfl) rfl (Try.tab_ok _ _ rfl) rfl rfl rfl (gx22 hC)))) rfl ?_
      refine AOps.gC rfl rfl (fun hC => Cert.ungd (k := 41) rfl (by first | exact hC | exact andL hC | exact andL (andL hC) | exact andL (andL (andL hC)) | exact andR hC | simp_all) (Cert.fieldV (Try.tab_ok _ _ rfl) rfl rfl (Try.tab_ok _ _ rfl) rfl rfl (by conv => lhs; whnf))) rfl ?_
      refine AOps.gC rfl rfl (fun hC => Cert.ungd (k := 42) rfl (by first | exact hC | exact andL hC | exact andL (andL hC) | exact andL (andL (andL hC)) | exact andR hC | simp_all) (Cert.loadV (Try.tab_ok _ _ rfl) rfl rfl rfl)) rfl ?_
      refine AOps.gC rfl rfl (fun hC => Cert.ungd (k := 43) rfl (by first | exact hC | exact andL hC | exact andL (andL hC) | exact andL (andL (andL hC)) | exact andR hC | simp_all) (Cert.lenM' (f := TDir.c) (s := x22.FDirs) (Try.tab_ok _ _ rfl) rfl rfl rfl)) rfl ?_
      refine AOps.gC rfl rfl (fun hC => Cert.ungd (k := 44) rfl (by first | exact hC | exact andL hC | exact andL (andL hC) | exact andL (andL (andL hC)) | exact andR hC | simp_all) (Cert.binI rfl rfl rfl)) rfl ?_
      refine AOps.gC rfl rfl (fun hC => Cert.ungd (k := 38) rfl (by first | exact hC | exact andL hC | exact andL (andL hC) | exact andL (andL (andL hC)) | exact andR hC | simp_all) (Cert.pickAnd rfl rfl (fun h => by first | exact h | exact notT h | exact andI hC h | exact andI hC (notT h) | simp_all) rfl)) rfl ?_
      refine AOps.s0 (Cert.pickOr rfl rfl rfl (fun h => by first | exact h | exact notT h | exact andI hC h | exact andI hC (notT h) | simp_all)) rfl ?_
      refine AOps.nil ?_
      refine hK17 _ ?_
      clear hK17 K17
      refine AWp.cond rfl (fun hc23 => ?_) (fun hc23 => ?_)
      ·have hE := condT hc23 hE
       try dsimp only at hc23
       refine AWp.seqK fun K24 hK24 => ?_
       refine AWp.region ?_
       refine AOps.s0 (Cert.assign (by conv => lhs; whnf)) rfl ?_
       refine AOps.nil ?_
       refine hK24 _ ?_
       clear hK24 K24
       refine AWp.ret ?_
       repeat (first | refine xBlock_ret ?_ | refine xThen_ret ?_)
       obtain rfl := Option.some.inj hE
       refine retQ.retF H rfl ⟨rfl, rfl⟩ ?_
       exact (fun _ _ h => h)
      ·have hE := condF hc23 hE
       try dsimp only at hc23
       refine AWp.skip ?_
       refine hK16 _ ?_
       clear hK16 K16
       refine AWp.region ?_
       refine AOps.s0 (Cert.move (by conv => lhs; whnf)) rfl ?_
       refine AOps.s0 (Cert.addI rfl rfl (by first | omega | (dsimp only; omega)) (by first | omega | (dsimp only; omega))) rfl ?_
       refine AOps.s0 (Cert.assign (by conv => lhs; whnf)) rfl ?_
       refine AOps.nil ?_
       exact hK10 _ (n10, (s5_11 + 1)) Weak.toA hE (Nat.lt_succ_self _)
     ·have hE := condF hc15 hE
      try dsimp only at hc15
      refine AWp.exit ?_
      exact hK7 _ () Weak.toA hE
  ·rintro _ hE
   try dsimp only at hE
   unfold r06_membersRight_j7 at hE
   refine AWp.seqK fun K8 hK8 => ?_
   refine AWp.region ?_
   refine AOps.s0 (Cert.assign (by conv => lhs; whnf)) rfl ?_
   refine AOps.nil ?_
   refine hK8 _ ?_
   clear hK8 K8
   refine AWp.ret ?_
   repeat (first | refine xBlock_ret ?_ | refine xThen_ret ?_)
   obtain rfl := Option.some.inj hE
   refine retQ.retF H rfl ⟨rfl, rfl⟩ ?_
   exact (fun _ _ h => h)
def r06_defRight_j8 (a0 : TDef) (x4 : Bool) (x5 : Bool)   : Option Bool := bif (decide (a0.FKind = (1 : Int))) then ((r06_fieldsRight a0.FFields).bind fun x15 => some ((x15 && (decide (((a0.FMembers.l.length : Nat) : Int) = (0 : Int)))) && (decide (((a0.FInputs.l.length : Nat) : Int) = (0 : Int))))) else (bif (decide (a0.FKind = (2 : Int))) then (guardO ((decide (((a0.FImplements.l.length : Nat) : Int) = (0 : Int)))) (r06_fieldsRight a0.FFields) false fun x19 => some ((((decide (((a0.FImplements.l.length : Nat) : Int) = (0 : Int))) && x19) && (decide (((a0.FMembers.l.length : Nat) : Int) = (0 : Int)))) && (decide (((a0.FInputs.l.length : Nat) : Int) = (0 : Int))))) else (bif (decide (a0.FKind = (3 : Int))) then (guardO (((decide (((a0.FImplements.l.length : Nat) : Int) = (0 : Int))) && (decide (((a0.FFields.l.length : Nat) : Int) = (0 : Int))))) (r06_membersRight a0.FMembers true) false fun x23 => some ((((decide (((a0.FImplements.l.length : Nat) : Int) = (0 : Int))) && (decide (((a0.FFields.l.length : Nat) : Int) = (0 : Int)))) && x23) && (decide (((a0.FInputs.l.length : Nat) : Int) = (0 : Int))))) else (bif (decide (a0.FKind = (4 : Int))) then (guardO (((decide (((a0.FImplements.l.length : Nat) : Int) = (0 : Int))) && (decide (((a0.FFields.l.length : Nat) : Int) = (0 : Int))))) (r06_membersRight a0.FMembers false) false fun x27 => some ((((decide (((a0.FImplements.l.length : Nat) : Int) = (0 : Int))) && (decide (((a0.FFields.l.length : Nat) : Int) = (0 : Int)))) && x27) && (decide (((a0.FInputs.l.length : Nat) : Int) = (0 : Int))))) else (bif (decide (a0.FKind = (5 : Int))) then (guardO (((((decide (((a0.FImplements.l.length : Nat) : Int) = (0 : Int))) && (decide (((a0.FFields.l.length : Nat) : Int) = (0 : Int)))) && (decide (((a0.FMembers.l.length : Nat) : Int) = (0 : Int)))) && (decide ((0 : Int) < ((a0.FInputs.l.length : Nat) : Int))))) (r06_inputsRight a0.FInputs) false fun x31 => some (((((decide (((a0.FImplements.l.length : Nat) : Int) = (0 : Int))) && (decide (((a0.FFields.l.length : Nat) : Int) = (0 : Int)))) && (decide (((a0.FMembers.l.length : Nat) : Int) = (0 : Int)))) && (decide ((0 : Int) < ((a0.FInputs.l.length : Nat) : Int)))) && x31)) else (some false)))))
def r06_defRight_l34 (a0 : TDef) (x4 : Bool) (x5 : Bool)  : Nat → Nat → Option Bool
 | 0, _ => none
 | n34 + 1, s3_35 => bif (decide (((s3_35 : Nat) : Int) < ((a0.FImplements.l.length : Nat) : Int))) then ((a0.FImplements.l[s3_35]?).bind fun x42 => (r01_Name x42).bind fun x43 => bif (!x43) then (some false) else ((r06_defRight_l34 a0 x4 x5 n34) (s3_35 + 1))) else (r06_defRight_j8 a0 x4 x5  )
def r06_defRight (a0 : TDef) : Option Bool := (r01_Name a0.FName).bind fun x4 => guardO (!(!x4)) (r06_dirsRight a0.FDirs) false fun x5 => bif (((!x4) || (!x5)) || (decide ((64 : Int) < ((a0.FImplements.l.length : Nat) : Int)))) then (some false) else (r06_defRight_l34 a0 x4 x5 (a0.FImplements.l.length + 1) 0)
set_option maxRecDepth 100000 in
set_option maxHeartbeats 2000000 in
theorem r06_defRight_walk {a0 : TDef}   {r : Bool} (hE : r06_defRight a0 = some r) (H : Heap)  : ACalls Try.prog 40 [.agg (TDef.c a0)] H fun v h' => v = .a (.d (.bool r)) ∧ h' = H := by
 unfold r06_defRight at hE
 refine ACalls.of_wp (fn := Try.f40) (c := _) Try.tab_ok (fun _ _ => Try.call40 _ _) Try.func40 rfl (n := 129) rfl (rs := [.tmp 2]) rfl rfl ?_
 refine AWp.seqK fun K1 hK1 => ?_
 refine AWp.region ?_
 refine AOps.s0 (Cert.boxV rfl) rfl ?_
 refine AOps.s0 (Cert.assign (by conv => lhs; whnf)) rfl ?_
 refine AOps.nil ?_
 refine hK1 _ ?_
 clear hK1 K1
 refine AWp.seqK fun K2 hK2 => ?_
 refine AWp.seqK fun K3 hK3 => ?_
 refine AWp.region ?_
 refine AOps.s0 (Cert.fieldV (Try.tab_ok _ _ rfl) rfl rfl (Try.tab_ok _ _ rfl) rfl rfl (by conv => lhs; whnf)) rfl ?_
 refine AOps.s0 (Cert.loadV (Try.tab_ok _ _ rfl) rfl rfl rfl) rfl ?_
 obtain ⟨x4, gx4, hE⟩ := bindO_some hE
 refine AOps.s0 (Cert.callP rfl rfl (fun H => r01_Name_walk gx4 H)) rfl ?_
 refine AOps.s0 (Cert.notB rfl) rfl ?_
 refine AOps.s0 (Cert.move (by conv => lhs; whnf)) rfl ?_
 refine AOps.gC rfl rfl (fun hC => Cert.fieldV (Try.tab_ok _ _ rfl) rfl rfl (Try.tab_ok _ _ rfl) rfl rfl (by conv => lhs; whnf)) rfl ?_
 refine AOps.gC rfl rfl (fun hC => Cert.ungd (k := 13) rfl (by first | exact hC | exact andL hC | exact andL (andL hC) | exact andL (andL (andL hC)) | exact andR hC | simp_all) (Cert.loadV (Try.tab_ok _ _ rfl) rfl rfl rfl)) rfl ?_
 obtain ⟨x5, gx5, hE⟩ := guardO_some hE
 refine AOps.gC rfl rfl (fun hC => Cert.ungd (k := 14) rfl (by first | exact hC | exact andL hC | exact andL (andL hC) | exact andL (andL (andL hC)) | exact andR hC | simp_all) (Cert.callP rfl rfl (fun H => r06_dirsRight_walk (gx5 hC) H))) rfl ?_
 refine AOps.gC rfl rfl (fun hC => Cert.ungd (k := 15) rfl (by first | exact hC | exact andL hC | exact andL (andL hC) | exact andL (andL (andL hC)) | exact andR hC | simp_all) (Cert.notB rfl)) rfl ?_
 refine AOps.s0 (Cert.pickOr rfl rfl rfl (fun h => by first | exact h | exact notT h | exact andI hC h | exact andI hC (notT h) | simp_all)) rfl ?_
 refine AOps.s0 (Cert.move (by conv => lhs; whnf)) rfl ?_
 refine AOps.gC rfl rfl (fun hC => Cert.fieldV (Try.tab_ok _ _ rfl) rfl rfl (Try.tab_ok _ _ rfl) rfl rfl (by conv => lhs; whnf)) rfl ?_
 refine AOps.gC rfl rfl (fun hC => Cert.ungd (k := 19) rfl (by first | exact hC | exact andL hC | exact andL (andL hC) | exact andL (andL (andL hC)) | exact andR hC | simp_all) (Cert.loadV (Try.tab_ok _ _ rfl) rfl rfl rfl)) rfl ?_
 refine AOps.gC rfl rfl (fun hC => Cert.ungd (k := 20) rfl (by first | exact hC | exact andL hC | exact andL (andL hC) | exact andL (andL (andL hC)) | exact andR hC | simp_all) (Cert.lenM' (f := strE) (s := a0.FImplements) (Try.tab_ok _ _ rfl) rfl rfl rfl)) rfl ?_
 refine AOps.gC rfl rfl (fun hC => Cert.ungd (k := 21) rfl (by first | exact hC | exact andL hC | exact andL (andL hC) | exact andL (andL (andL hC)) | exact andR hC | simp_all) (Cert.binI rfl rfl rfl)) rfl ?_
 refine AOps.s0 (Cert.pickOr rfl rfl rfl (fun h => by first | exact h | exact notT h | exact andI hC h | exact andI hC (notT h) | simp_all)) rfl ?_
 refine AOps.nil ?_
 refine hK3 _ ?_
 clear hK3 K3
 refine AWp.cond rfl (fun hc6 => ?_) (fun hc6 => ?_)
 ·have hE := condT hc6 hE
  try dsimp only at hc6
  refine AWp.seqK fun K7 hK7 => ?_
  refine AWp.region ?_
  refine AOps.s0 (Cert.assign (by conv => lhs; whnf)) rfl ?_
  refine AOps.nil ?_
  refine hK7 _ ?_
  clear hK7 K7
  refine AWp.ret ?_
  repeat (first | refine xBlock_ret ?_ | refine xThen_ret ?_)
  obtain rfl := Option.some.inj hE
  refine retQ.retF H rfl ⟨rfl, rfl⟩ ?_
  exact (fun _ _ h => h)
 ·have hE := condF hc6 hE
  try dsimp only at hc6
  refine AWp.skip ?_
  refine hK2 _ ?_
  clear hK2 K2
  refine AWp.seqJH (KeepsT.cons (k := 1) (by conv => lhs; whnf) KeepsT.nil) (fun (z : Unit) => []) (fun z => H) (fun z => r06_defRight_j8 a0 x4 x5  = some r) ?_ ?_
  ·intro K8 hK8
   refine AWp.seqK fun K33 hK33 => ?_
   refine AWp.region ?_
   refine AOps.s0 (Cert.assign (by conv => lhs; whnf)) rfl ?_
   refine AOps.nil ?_
   refine hK33 _ ?_
   clear hK33 K33
   refine AWp.block ?_
   refine AWp.loopH (KeepsT.cons (k := 1) (by conv => lhs; whnf) KeepsT.nil) (fun (z : Nat × Nat) => [(3, .a (.d (.int .i64 ((z.2 : Nat) : Int))))]) (fun z => H) (fun z => z.1) (fun z => r06_defRight_l34 a0 x4 x5 z.1 z.2 = some r) ((a0.FImplements.l.length + 1), 0) hE Weak.toA ?_
   rintro ⟨n34, s3_35⟩ hE K34 hK34
   try dsimp only at hE
   cases n34 with
   | zero => cases hE
   | succ n34 =>
     rw [r06_defRight_l34] at hE
     refine AWp.seqK fun K36 hK36 => ?_
     refine AWp.seqK fun K37 hK37 => ?_
     refine AWp.region ?_
     refine AOps.s0 (Cert.move (by conv => lhs; whnf)) rfl ?_
     refine AOps.s0 (Cert.fieldV (Try.tab_ok _ _ rfl) rfl rfl (Try.tab_ok _ _ rfl) rfl rfl (by conv => lhs; whnf)) rfl ?_
     refine AOps.s0 (Cert.loadV (Try.tab_ok _ _ rfl) rfl rfl rfl) rfl ?_
     refine AOps.sLen (f := strE) (s := a0.FImplements) (Try.tab_ok _ _ rfl) rfl rfl rfl rfl fun hL38 => ?_
     refine AOps.s0 (Cert.binI rfl rfl rfl) rfl ?_
     refine AOps.nil ?_
     refine hK37 _ ?_
     clear hK37 K37
     refine AWp.cond rfl (fun hc39 => ?_) (fun hc39 => ?_)
     ·have hE := condT hc39 hE
      try dsimp only at hc39
      have hf39 := of_decide_eq_true hc39
      refine AWp.skip ?_
      refine hK36 _ ?_
      clear hK36 K36
      refine AWp.seqK fun K40 hK40 => ?_
      refine AWp.block ?_
      refine AWp.seqK fun K41 hK41 => ?_
      refine AWp.region ?_
      refine AOps.s0 (Cert.fieldV (Try.tab_ok _ _ rfl) rfl rfl (Try.tab_ok _ _ rfl) rfl rfl (by conv => lhs; whnf)) rfl ?_
      refine AOps.s0 (Cert.loadV (Try.tab_ok _ _ rfl) rfl rfl rfl) rfl ?_
      refine AOps.s0 (Cert.move (by conv => lhs; whnf)) rfl ?_
      obtain ⟨x42, gx42, hE⟩ := bindO_some hE
      refine AOps.s0 (Cert.idxMn (f := strE) (n := s3_35) (Try.tab_ok _ _ rfl) rfl (Try.tab_ok _ _ rfl) rfl rfl rfl gx42) rfl ?_
      refine AOps.s0 (Cert.loadV (Try.tab_ok _ _ rfl) rfl rfl rfl) rfl ?_
      obtain ⟨x43, gx43, hE⟩ := bindO_some hE
      refine AOps.s0 (Cert.callP rfl rfl (fun H => r01_Name_walk gx43 H)) rfl ?_
      refine AOps.s0 (Cert.notB rfl) rfl ?_
      refine AOps.nil ?_
      refine hK41 _ ?_
      clear hK41 K41
      refine AWp.cond rfl (fun hc44 => ?_) (fun hc44 => ?_)
      ·have hE := condT hc44 hE
       try dsimp only at hc44
       refine AWp.seqK fun K45 hK45 => ?_
       refine AWp.region ?_
       refine AOps.s0 (Cert.assign (by conv => lhs; whnf)) rfl ?_
       refine AOps.nil ?_
       refine hK45 _ ?_
       clear hK45 K45
       refine AWp.ret ?_
       repeat (first | refine xBlock_ret ?_ | refine xThen_ret ?_)
       obtain rfl := Option.some.inj hE
       refine retQ.retF H rfl ⟨rfl, rfl⟩ ?_
       exact (fun _ _ h => h)
      ·have hE := condF hc44 hE
       try dsimp only at hc44
       refine AWp.skip ?_
       refine hK40 _ ?_
       clear hK40 K40
       refine AWp.region ?_
       refine AOps.s0 (Cert.move (by conv => lhs; whnf)) rfl ?_
       refine AOps.s0 (Cert.addI rfl rfl (by first | omega | (dsimp only; omega)) (by first | omega | (dsimp only; omega))) rfl ?_
       refine AOps.s0 (Cert.assign (by conv => lhs; whnf)) rfl ?_
       refine AOps.nil ?_
       exact hK34 _ (n34, (s3_35 + 1)) Weak.toA hE (Nat.lt_succ_self _)
     ·have hE := condF hc39 hE
      try dsimp only at hc39
      refine AWp.exit ?_
      exact hK8 _ () Weak.toA hE
  ·rintro _ hE
   try dsimp only at hE
   unfold r06_defRight_j8 at hE
   refine AWp.seqK fun K9 hK9 => ?_
   refine AWp.draw rfl ?_
   refine DOps.s0 (Cert.fieldV (Try.tab_ok _ _ rfl) rfl rfl (Try.tab_ok _ _ rfl) rfl rfl (by conv => lhs; whnf)) rfl ?_
   refine DOps.s0 (Cert.loadV (Try.tab_ok _ _ rfl) rfl rfl rfl) rfl ?_
   refine DOps.s0 (Cert.lenM' (f := strE) (s := a0.FImplements) (Try.tab_ok _ _ rfl) rfl rfl rfl) rfl ?_
   refine DOps.s0 (Cert.binI rfl rfl rfl) rfl ?_
   refine DOps.s0 (Cert.fieldV (Try.tab_ok _ _ rfl) rfl rfl (Try.tab_ok _ _ rfl) rfl rfl (by conv => lhs; whnf)) rfl ?_
   refine DOps.s0 (Cert.loadV (Try.tab_ok _ _ rfl) rfl rfl rfl) rfl ?_
   refine DOps.s0 (Cert.lenM' (f := TField.c) (s := a0.FFields) (Try.tab_ok _ _ rfl) rfl rfl rfl) rfl ?_
   refine DOps.s0 (Cert.binI rfl rfl rfl) rfl ?_
   refine DOps.s0 (Cert.fieldV (Try.tab_ok _ _ rfl) rfl rfl (Try.tab_ok _ _ rfl) rfl rfl (by conv => lhs; whnf)) rfl ?_
   refine DOps.s0 (Cert.loadV (Try.tab_ok _ _ rfl) rfl rfl rfl) rfl ?_
   refine DOps.s0 (Cert.lenM' (f := TMember.c) (s := a0.FMembers) (Try.tab_ok _ _ rfl) rfl rfl rfl) rfl ?_
   refine DOps.s0 (Cert.binI rfl rfl rfl) rfl ?_
   refine DOps.s0 (Cert.fieldV (Try.tab_ok _ _ rfl) rfl rfl (Try.tab_ok _ _ rfl) rfl rfl (by conv => lhs; whnf)) rfl ?_
   refine DOps.s0 (Cert.loadV (Try.tab_ok _ _ rfl) rfl rfl rfl) rfl ?_
   refine DOps.s0 (Cert.lenM' (f := TInput.c) (s := a0.FInputs) (Try.tab_ok _ _ rfl) rfl rfl rfl) rfl ?_
   refine DOps.s0 (Cert.binI rfl rfl rfl) rfl ?_
   refine DOps.s0 (Cert.assign (by conv => lhs; whnf)) rfl ?_
   refine DOps.s0 (Cert.assign (by conv => lhs; whnf)) rfl ?_
   refine DOps.s0 (Cert.assign (by conv => lhs; whnf)) rfl ?_
   refine DOps.s0 (Cert.assign (by conv => lhs; whnf)) rfl ?_
   refine DOps.nil (by decide +kernel) ?_
   refine hK9 _ ?_
   clear hK9 K9
   refine AWp.seqK fun K10 hK10 => ?_
   refine AWp.seqK fun K11 hK11 => ?_
   refine AWp.region ?_
   refine AOps.s0 (Cert.fieldV (Try.tab_ok _ _ rfl) rfl rfl (Try.tab_ok _ _ rfl) rfl rfl (by conv => lhs; whnf)) rfl ?_
   refine AOps.s0 (Cert.loadV (Try.tab_ok _ _ rfl) rfl rfl rfl) rfl ?_
   refine AOps.nil ?_
   refine hK11 _ ?_
   clear hK11 K11
   refine AWp.block ?_
   refine AWp.seqK fun K12 hK12 => ?_
   refine AWp.region ?_
   refine AOps.s0 (Cert.binI rfl rfl rfl) rfl ?_
   refine AOps.s0 (Cert.assign (by conv => lhs; whnf)) rfl ?_
   refine AOps.nil ?_
   refine hK12 _ ?_
   clear hK12 K12
   refine AWp.cond rfl (fun hc13 => ?_) (fun hc13 => ?_)
   ·have hE := condT hc13 hE
    try dsimp only at hc13
    refine AWp.seqK fun K14 hK14 => ?_
    refine AWp.region ?_
    refine AOps.s0 (Cert.fieldV (Try.tab_ok _ _ rfl) rfl rfl (Try.tab_ok _ _ rfl) rfl rfl (by conv => lhs; whnf)) rfl ?_
    refine AOps.s0 (Cert.loadV (Try.tab_ok _ _ rfl) rfl rfl rfl) rfl ?_
    obtain ⟨x15, gx15, hE⟩ := bindO_some hE
    refine AOps.s0 (Cert.callP rfl rfl (fun H => r06_fieldsRight_walk gx15 H)) rfl ?_
    refine AOps.s0 (Cert.move (by conv => lhs; whnf)) rfl ?_
    refine AOps.gC rfl rfl (fun hC => Cert.move (by conv => lhs; whnf)) rfl ?_
    refine AOps.s0 (Cert.pickAnd rfl rfl (fun h => by first | exact h | exact notT h | exact andI hC h | exact andI hC (notT h) | simp_all) rfl) rfl ?_
    refine AOps.s0 (Cert.move (by conv => lhs; whnf)) rfl ?_
    refine AOps.gC rfl rfl (fun hC => Cert.move (by conv => lhs; whnf)) rfl ?_
    refine AOps.s0 (Cert.pickAnd rfl rfl (fun h => by first | exact h | exact notT h | exact andI hC h | exact andI hC (notT h) | simp_all) rfl) rfl ?_
    refine AOps.s0 (Cert.assign (by conv => lhs; whnf)) rfl ?_
    refine AOps.nil ?_
    refine hK14 _ ?_
    clear hK14 K14
    refine AWp.ret ?_
    repeat (first | refine xBlock_ret ?_ | refine xThen_ret ?_)
    obtain rfl := Option.some.inj hE
    refine retQ.retF H rfl ⟨rfl, rfl⟩ ?_
    exact (fun _ _ h => h)
   ·have hE := condF hc13 hE
    try dsimp only at hc13
    refine AWp.seqK fun K16 hK16 => ?_
    refine AWp.region ?_
    refine AOps.s0 (Cert.binI rfl rfl rfl) rfl ?_
    refine AOps.s0 (Cert.assign (by conv => lhs; whnf)) rfl ?_
    refine AOps.nil ?_
    refine hK16 _ ?_
    clear hK16 K16
    refine AWp.cond rfl (fun hc17 => ?_) (fun hc17 => ?_)
    ·have hE := condT hc17 hE
     try dsimp only at hc17
     refine AWp.seqK fun K18 hK18 => ?_
     refine AWp.region ?_
     refine AOps.s0 (Cert.move (by conv => lhs; whnf)) rfl ?_
     refine AOps.s0 (Cert.move (by conv => lhs; whnf)) rfl ?_
     refine AOps.gC rfl rfl (fun hC => Cert.fieldV (Try.tab_ok _ _ rfl) rfl rfl (Try.tab_ok _ _ rfl) rfl rfl (by conv => lhs; whnf)) rfl ?_
     refine AOps.gC rfl rfl (fun hC => Cert.ungd (k := 71) rfl (by first | exact hC | exact andL hC | exact andL (andL hC) | exact andL (andL (andL hC)) | exact andR hC | simp_all) (Cert.loadV (Try.tab_ok _ _ rfl) rfl rfl rfl)) rfl ?_
     obtain ⟨x19, gx19, hE⟩ := guardO_some hE
     refine AOps.gC rfl rfl (fun hC => Cert.ungd (k := 72) rfl (by first | exact hC | exact andL hC | exact andL (andL hC) | exact andL (andL (andL hC)) | exact andR hC | simp_all) (Cert.callP rfl rfl (fun H => r06_fieldsRight_walk (gx19 hC) H))) rfl ?_
     refine AOps.s0 (Cert.pickAnd rfl rfl (fun h => by first | exact h | exact notT h | exact andI hC h | exact andI hC (notT h) | simp_all) rfl) rfl ?_
     refine AOps.s0 (Cert.move (by conv => lhs; whnf)) rfl ?_
     refine AOps.gC rfl rfl (fun hC => Cert.move (by conv => lhs; whnf)) rfl ?_
     refine AOps.s0 (Cert.pickAnd rfl rfl (fun h => by first | exact h | exact notT h | exact andI hC h | exact andI hC (notT h) | simp_all) rfl) rfl ?_
     refine AOps.s0 (Cert.move (by conv => lhs; whnf)) rfl ?_
     refine AOps.gC rfl rfl (fun hC => Cert.move (by conv => lhs; whnf)) rfl ?_
     refine AOps.s0 (Cert.pickAnd rfl rfl (fun h => by first | exact h | exact notT h | exact andI hC h | exact andI hC (notT h) | simp_all) rfl) rfl ?_
     refine AOps.s0 (Cert.assign (by conv => lhs; whnf)) rfl ?_
     refine AOps.nil ?_
     refine hK18 _ ?_
     clear hK18 K18
     refine AWp.ret ?_
     repeat (first | refine xBlock_ret ?_ | refine xThen_ret ?_)
     obtain rfl := Option.some.inj hE
     refine retQ.retF H rfl ⟨rfl, rfl⟩ ?_
     exact (fun _ _ h => h)
    ·have hE := condF hc17 hE
     try dsimp only at hc17
     refine AWp.seqK fun K20 hK20 => ?_
     refine AWp.region ?_
     refine AOps.s0 (Cert.binI rfl rfl rfl) rfl ?_
     refine AOps.s0 (Cert.assign (by conv => lhs; whnf)) rfl ?_
     refine AOps.nil ?_
     refine hK20 _ ?_
     clear hK20 K20
     refine AWp.cond rfl (fun hc21 => ?_) (fun hc21 => ?_)
     ·have hE := condT hc21 hE
      try dsimp only at hc21
      refine AWp.seqK fun K22 hK22 => ?_
      refine AWp.region ?_
      refine AOps.s0 (Cert.move (by conv => lhs; whnf)) rfl ?_
      refine AOps.s0 (Cert.move (by conv => lhs; whnf)) rfl ?_
      refine AOps.gC rfl rfl (fun hC => Cert.move (by conv => lhs; whnf)) rfl ?_
      refine AOps.s0 (Cert.pickAnd rfl rfl (fun h => by first | exact h | exact notT h | exact andI hC h | exact andI hC (notT h) | simp_all) rfl) rfl ?_
      refine AOps.s0 (Cert.move (by conv => lhs; whnf)) rfl ?_
      refine AOps.gC rfl rfl (fun hC => Cert.fieldV (Try.tab_ok _ _ rfl) rfl rfl (Try.tab_ok _ _ rfl) rfl rfl (by conv => lhs; whnf)) rfl ?_
      refine AOps.gC rfl rfl (fun hC => Cert.ungd (k := 88) rfl (by first | exact hC | exact andL hC | exact andL (andL hC) | exact andL (andL (andL hC)) | exact andR hC | simp_all) (Cert.loadV (Try.tab_ok _ _ rfl) rfl rfl rfl)) rfl ?_
      obtain ⟨x23, gx23, hE⟩ := guardO_some hE
      refine AOps.gC rfl rfl (fun hC => Cert.ungd (k := 89) rfl (by first | exact hC | exact andL hC | exact andL (andL hC) | exact andL (andL (andL hC)) | exact andR hC | simp_all) (Cert.callP rfl rfl (fun H => r06_membersRight_walk (gx23 hC) H))) rfl ?_
      refine AOps.s0 (Cert.pickAnd rfl rfl (fun h => by first | exact h | exact notT h | exact andI hC h | exact andI hC (notT h) | simp_all) rfl) rfl ?_
      refine AOps.s0 (Cert.move (by conv => lhs; whnf)) rfl ?_
      refine AOps.gC rfl rfl (fun hC => Cert.move (by conv => lhs; whnf)) rfl ?_
      refine AOps.s0 (Cert.pickAnd rfl rfl (fun h => by first | exact h | exact notT h | exact andI hC h | exact andI hC (notT h) | simp_all) rfl) rfl ?_
      refine AOps.s0 (Cert.assign (by conv => lhs; whnf)) rfl ?_
      refine AOps.nil ?_
      refine hK22 _ ?_
      clear hK22 K22
      refine AWp.ret ?_
      repeat (first | refine xBlock_ret ?_ | refine xThen_ret ?_)
      obtain rfl := Option.some.inj hE
      refine retQ.retF H rfl ⟨rfl, rfl⟩ ?_
      exact (fun _ _ h => h)
     ·have hE := condF hc21 hE
      try dsimp only at hc21
      refine AWp.seqK fun K24 hK24 => ?_
      refine AWp.region ?_
      refine AOps.s0 (Cert.binI rfl rfl rfl) rfl ?_
      refine AOps.s0 (Cert.assign (by conv => lhs; whnf)) rfl ?_
      refine AOps.nil ?_
      refine hK24 _ ?_
      clear hK24 K24
      refine AWp.cond rfl (fun hc25 => ?_) (fun hc25 => ?_)
      ·have hE := condT hc25 hE
       try dsimp only at hc25
       refine AWp.seqK fun K26 hK26 => ?_
       refine AWp.region ?_
       refine AOps.s0 (Cert.move (by conv => lhs; whnf)) rfl ?_
       refine AOps.s0 (Cert.move (by conv => lhs; whnf)) rfl ?_
       refine AOps.gC rfl rfl (fun hC => Cert.move (by conv => lhs; whnf)) rfl ?_
       refine AOps.s0 (Cert.pickAnd rfl rfl (fun h => by first | exact h | exact notT h | exact andI hC h | exact andI hC (notT h) | simp_all) rfl) rfl ?_
       refine AOps.s0 (Cert.move (by conv => lhs; whnf)) rfl ?_
       refine AOps.gC rfl rfl (fun hC => Cert.fieldV (Try.tab_ok _ _ rfl) rfl rfl (Try.tab_ok _ _ rfl) rfl rfl (by conv => lhs; whnf)) rfl ?_
       refine AOps.gC rfl rfl (fun hC => Cert.ungd (k := 102) rfl (by first | exact hC | exact andL hC | exact andL (andL hC) | exact andL (andL (andL hC)) | exact andR hC | simp_all) (Cert.loadV (Try.tab_ok _ _ rfl) rfl rfl rfl)) rfl ?_
       obtain ⟨x27, gx27, hE⟩ := guardO_some hE
       refine AOps.gC rfl rfl (fun hC => Cert.ungd (k := 103) rfl (by first | exact hC | exact andL hC | exact andL (andL hC) | exact andL (andL (andL hC)) | exact andR hC | simp_all) (Cert.callP rfl rfl (fun H => r06_membersRight_walk (gx27 hC) H))) rfl ?_
       refine AOps.s0 (Cert.pickAnd rfl rfl (fun h => by first | exact h | exact notT h | exact andI hC h | exact andI hC (notT h) | simp_all) rfl) rfl ?_
       refine AOps.s0 (Cert.move (by conv => lhs; whnf)) rfl ?_
       refine AOps.gC rfl rfl (fun hC => Cert.move (by conv => lhs; whnf)) rfl ?_
       refine AOps.s0 (Cert.pickAnd rfl rfl (fun h => by first | exact h | exact notT h | exact andI hC h | exact andI hC (notT h) | simp_all) rfl) rfl ?_
       refine AOps.s0 (Cert.assign (by conv => lhs; whnf)) rfl ?_
       refine AOps.nil ?_
       refine hK26 _ ?_
       clear hK26 K26
       refine AWp.ret ?_
       repeat (first | refine xBlock_ret ?_ | refine xThen_ret ?_)
       obtain rfl := Option.some.inj hE
       refine retQ.retF H rfl ⟨rfl, rfl⟩ ?_
       exact (fun _ _ h => h)
      ·have hE := condF hc25 hE
       try dsimp only at hc25
       refine AWp.seqK fun K28 hK28 => ?_
       refine AWp.region ?_
       refine AOps.s0 (Cert.binI rfl rfl rfl) rfl ?_
       refine AOps.s0 (Cert.assign (by conv => lhs; whnf)) rfl ?_
       refine AOps.nil ?_
       refine hK28 _ ?_
       clear hK28 K28
       refine AWp.cond rfl (fun hc29 => ?_) (fun hc29 => ?_)
       ·have hE := condT hc29 hE
        try dsimp only at hc29
        refine AWp.seqK fun K30 hK30 => ?_
        refine AWp.region ?_
        refine AOps.s0 (Cert.move (by conv => lhs; whnf)) rfl ?_
        refine AOps.s0 (Cert.move (by conv => lhs; whnf)) rfl ?_
        refine AOps.gC rfl rfl (fun hC => Cert.move (by conv => lhs; whnf)) rfl ?_
        refine AOps.s0 (Cert.pickAnd rfl rfl (fun h => by first | exact h | exact notT h | exact andI hC h | exact andI hC (notT h) | simp_all) rfl) rfl ?_
        refine AOps.s0 (Cert.move (by conv => lhs; whnf)) rfl ?_
        refine AOps.gC rfl rfl (fun hC => Cert.move (by conv => lhs; whnf)) rfl ?_
        refine AOps.s0 (Cert.pickAnd rfl rfl (fun h => by first | exact h | exact notT h | exact andI hC h | exact andI hC (notT h) | simp_all) rfl) rfl ?_
        refine AOps.s0 (Cert.move (by conv => lhs; whnf)) rfl ?_
        refine AOps.gC rfl rfl (fun hC => Cert.fieldV (Try.tab_ok _ _ rfl) rfl rfl (Try.tab_ok _ _ rfl) rfl rfl (by conv => lhs; whnf)) rfl ?_
        refine AOps.gC rfl rfl (fun hC => Cert.ungd (k := 119) rfl (by first | exact hC | exact andL hC | exact andL (andL hC) | exact andL (andL (andL hC)) | exact andR hC | simp_all) (Cert.loadV (Try.tab_ok _ _ rfl) rfl rfl rfl)) rfl ?_
        refine AOps.gC rfl rfl (fun hC => Cert.ungd (k := 120) rfl (by first | exact hC | exact andL hC | exact andL (andL hC) | exact andL (andL (andL hC)) | exact andR hC | simp_all) (Cert.lenM' (f := TInput.c) (s := a0.FInputs) (Try.tab_ok _ _ rfl) rfl rfl rfl)) rfl ?_
        refine AOps.gC rfl rfl (fun hC => Cert.ungd (k := 121) rfl (by first | exact hC | exact andL hC | exact andL (andL hC) | exact andL (andL (andL hC)) | exact andR hC | simp_all) (Cert.binI rfl rfl rfl)) rfl ?_
        refine AOps.s0 (Cert.pickAnd rfl rfl (fun h => by first | exact h | exact notT h | exact andI hC h | exact andI hC (notT h) | simp_all) rfl) rfl ?_
        refine AOps.s0 (Cert.move (by conv => lhs; whnf)) rfl ?_
        refine AOps.gC rfl rfl (fun hC => Cert.fieldV (Try.tab_ok _ _ rfl) rfl rfl (Try.tab_ok _ _ rfl) rfl rfl (by conv => lhs; whnf)) rfl ?_
        refine AOps.gC rfl rfl (fun hC => Cert.ungd (k := 125) rfl (by first | exact hC | exact andL hC | exact andL (andL hC) | exact andL (andL (andL hC)) | exact andR hC | simp_all) (Cert.loadV (Try.tab_ok _ _ rfl) rfl rfl rfl)) rfl ?_
        obtain ⟨x31, gx31, hE⟩ := guardO_some hE
        refine AOps.gC rfl rfl (fun hC => Cert.ungd (k := 126) rfl (by first | exact hC | exact andL hC | exact andL (andL hC) | exact andL (andL (andL hC)) | exact andR hC | simp_all) (Cert.callP rfl rfl (fun H => r06_inputsRight_walk (gx31 hC) H))) rfl ?_
        refine AOps.s0 (Cert.pickAnd rfl rfl (fun h => by first | exact h | exact notT h | exact andI hC h | exact andI hC (notT h) | simp_all) rfl) rfl ?_
        refine AOps.s0 (Cert.assign (by conv => lhs; whnf)) rfl ?_
        refine AOps.nil ?_
        refine hK30 _ ?_
        clear hK30 K30
        refine AWp.ret ?_
        repeat (first | refine xBlock_ret ?_ | refine xThen_ret ?_)
        obtain rfl := Option.some.inj hE
        refine retQ.retF H rfl ⟨rfl, rfl⟩ ?_
        exact (fun _ _ h => h)
       ·have hE := condF hc29 hE
        try dsimp only at hc29
        refine AWp.skip ?_
        refine hK10 _ ?_
        clear hK10 K10
        refine AWp.seqK fun K32 hK32 => ?_
        refine AWp.region ?_
        refine AOps.s0 (Cert.assign (by conv => lhs; whnf)) rfl ?_
        refine AOps.nil ?_
        refine hK32 _ ?_
        clear hK32 K32
        refine AWp.ret ?_
        repeat (first | refine xBlock_ret ?_ | refine xThen_ret ?_)
        obtain rfl := Option.some.inj hE
        refine retQ.retF H rfl ⟨rfl, rfl⟩ ?_
        exact (fun _ _ h => h)
def r06_Right_j7 (a0 : TDoc)   : Option Bool := some true
def r06_Right_l10 (a0 : TDoc)  : Nat → Nat → Option Bool
 | 0, _ => none
 | n10 + 1, s3_11 => bif (decide (((s3_11 : Nat) : Int) < ((a0.FDefs.l.length : Nat) : Int))) then ((a0.FDefs.l[s3_11]?).bind fun x18 => (r06_defRight x18).bind fun x19 => bif (!x19) then (some false) else ((r06_Right_l10 a0 n10) (s3_11 + 1))) else (r06_Right_j7 a0  )
def r06_Right (a0 : TDoc) : Option Bool := bif ((decide (((a0.FDefs.l.length : Nat) : Int) < (1 : Int))) || (decide ((64 : Int) < ((a0.FDefs.l.length : Nat) : Int)))) then (some false) else (r06_Right_l10 a0 (a0.FDefs.l.length + 1) 0)
set_option maxRecDepth 100000 in
set_option maxHeartbeats 2000000 in
theorem r06_Right_walk {a0 : TDoc}   {r : Bool} (hE : r06_Right a0 = some r) (H : Heap)  : ACalls Try.prog 27 [.agg (TDoc.c a0)] H fun v h' => v = .a (.d (.bool r)) ∧ h' = H := by
 unfold r06_Right at hE
 refine ACalls.of_wp (fn := Try.f27) (c := _) Try.tab_ok (fun _ _ => Try.call27 _ _) Try.func27 rfl (n := 28) rfl (rs := [.tmp 2]) rfl rfl ?_
 refine AWp.seqK fun K1 hK1 => ?_
 refine AWp.region ?_
 refine AOps.s0 (Cert.boxV rfl) rfl ?_
 refine AOps.s0 (Cert.assign (by conv => lhs; whnf)) rfl ?_
 refine AOps.nil ?_
 refine hK1 _ ?_
 clear hK1 K1
 refine AWp.seqK fun K2 hK2 => ?_
 refine AWp.seqK fun K3 hK3 => ?_
 refine AWp.region ?_
 refine AOps.s0 (Cert.fieldV (Try.tab_ok _ _ rfl) rfl rfl (Try.tab_ok _ _ rfl) rfl rfl (by conv => lhs; whnf)) rfl ?_
 refine AOps.s0 (Cert.loadV (Try.tab_ok _ _ rfl) rfl rfl rfl) rfl ?_
 refine AOps.sLen (f := TDef.c) (s := a0.FDefs) (Try.tab_ok _ _ rfl) rfl rfl rfl rfl fun hL4 => ?_
 refine AOps.s0 (Cert.binI rfl rfl rfl) rfl ?_
 refine AOps.s0 (Cert.move (by conv => lhs; whnf)) rfl ?_
 refine AOps.gC rfl rfl (fun hC => Cert.fieldV (Try.tab_ok _ _ rfl) rfl rfl (Try.tab_ok _ _ rfl) rfl rfl (by conv => lhs; whnf)) rfl ?_
 refine AOps.gC rfl rfl (fun hC => Cert.ungd (k := 9) rfl (by first | exact hC | exact andL hC | exact andL (andL hC) | exact andL (andL (andL hC)) | exact andR hC | simp_all) (Cert.loadV (Try.tab_ok _ _ rfl) rfl rfl rfl)) rfl ?_
 refine AOps.gC rfl rfl (fun hC => Cert.ungd (k := 10) rfl (by first | exact hC | exact andL hC | exact andL (andL hC) | exact andL (andL (andL hC)) | exact andR hC | simp_all) (Cert.lenM' (f := TDef.c) (s := a0.FDefs) (Try.tab_ok _ _ rfl) rfl rfl rfl)) rfl ?_
 refine AOps.gC rfl rfl (fun hC => Cert.ungd (k := 11) rfl (by first | exact hC | exact andL hC | exact andL (andL hC) | exact andL (andL (andL hC)) | exact andR hC | simp_all) (Cert.binI rfl rfl rfl)) rfl ?_
 refine AOps.s0 (Cert.pickOr rfl rfl rfl (fun h => by first | exact h | exact notT h | exact andI hC h | exact andI hC (notT h) | simp_all)) rfl ?_
 refine AOps.nil ?_
 refine hK3 _ ?_
 clear hK3 K3
 refine AWp.cond rfl (fun hc5 => ?_) (fun hc5 => ?_)
 ·have hE := condT hc5 hE
  try dsimp only at hc5
  refine AWp.seqK fun K6 hK6 => ?_
  refine AWp.region ?_
  refine AOps.s0 (Cert.assign (by conv => lhs; whnf)) rfl ?_
  refine AOps.nil ?_
  refine hK6 _ ?_
  clear hK6 K6
  refine AWp.ret ?_
  repeat (first | refine xBlock_ret ?_ | refine xThen_ret ?_)
  obtain rfl := Option.some.inj hE
  refine retQ.retF H rfl ⟨rfl, rfl⟩ ?_
  exact (fun _ _ h => h)
 ·have hE := condF hc5 hE
  try dsimp only at hc5
  refine AWp.skip ?_
  refine hK2 _ ?_
  clear hK2 K2
  refine AWp.seqJH KeepsT.nil (fun (z : Unit) => []) (fun z => H) (fun z => r06_Right_j7 a0  = some r) ?_ ?_
  ·intro K7 hK7
   refine AWp.seqK fun K9 hK9 => ?_
   refine AWp.region ?_
   refine AOps.s0 (Cert.assign (by conv => lhs; whnf)) rfl ?_
   refine AOps.nil ?_
   refine hK9 _ ?_
   clear hK9 K9
   refine AWp.block ?_
   refine AWp.loopH (KeepsT.cons (k := 1) (by conv => lhs; whnf) KeepsT.nil) (fun (z : Nat × Nat) => [(3, .a (.d (.int .i64 ((z.2 : Nat) : Int))))]) (fun z => H) (fun z => z.1) (fun z => r06_Right_l10 a0 z.1 z.2 = some r) ((a0.FDefs.l.length + 1), 0) hE Weak.toA ?_
   rintro ⟨n10, s3_11⟩ hE K10 hK10
   try dsimp only at hE
   cases n10 with
   | zero => cases hE
   | succ n10 =>
     rw [r06_Right_l10] at hE
     refine AWp.seqK fun K12 hK12 => ?_
     refine AWp.seqK fun K13 hK13 => ?_
     refine AWp.region ?_
     refine AOps.s0 (Cert.move (by conv => lhs; whnf)) rfl ?_
     refine AOps.s0 (Cert.fieldV (Try.tab_ok _ _ rfl) rfl rfl (Try.tab_ok _ _ rfl) rfl rfl (by conv => lhs; whnf)) rfl ?_
     refine AOps.s0 (Cert.loadV (Try.tab_ok _ _ rfl) rfl rfl rfl) rfl ?_
     refine AOps.sLen (f := TDef.c) (s := a0.FDefs) (Try.tab_ok _ _ rfl) rfl rfl rfl rfl fun hL14 => ?_
     refine AOps.s0 (Cert.binI rfl rfl rfl) rfl ?_
     refine AOps.nil ?_
     refine hK13 _ ?_
     clear hK13 K13
     refine AWp.cond rfl (fun hc15 => ?_) (fun hc15 => ?_)
     ·have hE := condT hc15 hE
      try dsimp only at hc15
      have hf15 := of_decide_eq_true hc15
      refine AWp.skip ?_
      refine hK12 _ ?_
      clear hK12 K12
      refine AWp.seqK fun K16 hK16 => ?_
      refine AWp.block ?_
      refine AWp.seqK fun K17 hK17 => ?_
      refine AWp.region ?_
      refine AOps.s0 (Cert.fieldV (Try.tab_ok _ _ rfl) rfl rfl (Try.tab_ok _ _ rfl) rfl rfl (by conv => lhs; whnf)) rfl ?_
      refine AOps.s0 (Cert.loadV (Try.tab_ok _ _ rfl) rfl rfl rfl) rfl ?_
      refine AOps.s0 (Cert.move (by conv => lhs; whnf)) rfl ?_
      obtain ⟨x18, gx18, hE⟩ := bindO_some hE
      refine AOps.s0 (Cert.idxMn (f := TDef.c) (n := s3_11) (Try.tab_ok _ _ rfl) rfl (Try.tab_ok _ _ rfl) rfl rfl rfl gx18) rfl ?_
      refine AOps.s0 (Cert.loadV (Try.tab_ok _ _ rfl) rfl rfl rfl) rfl ?_
      obtain ⟨x19, gx19, hE⟩ := bindO_some hE
      refine AOps.s0 (Cert.callP rfl rfl (fun H => r06_defRight_walk gx19 H)) rfl ?_
      refine AOps.s0 (Cert.notB rfl) rfl ?_
      refine AOps.nil ?_
      refine hK17 _ ?_
      clear hK17 K17
      refine AWp.cond rfl (fun hc20 => ?_) (fun hc20 => ?_)
      ·have hE := condT hc20 hE
       try dsimp only at hc20
       refine AWp.seqK fun K21 hK21 => ?_
       refine AWp.region ?_
       refine AOps.s0 (Cert.assign (by conv => lhs; whnf)) rfl ?_
       refine AOps.nil ?_
       refine hK21 _ ?_
       clear hK21 K21
       refine AWp.ret ?_
       repeat (first | refine xBlock_ret ?_ | refine xThen_ret ?_)
       obtain rfl := Option.some.inj hE
       refine retQ.retF H rfl ⟨rfl, rfl⟩ ?_
       exact (fun _ _ h => h)
      ·have hE := condF hc20 hE
       try dsimp only at hc20
       refine AWp.skip ?_
       refine hK16 _ ?_
       clear hK16 K16
       refine AWp.region ?_
       refine AOps.s0 (Cert.move (by conv => lhs; whnf)) rfl ?_
       refine AOps.s0 (Cert.addI rfl rfl (by first | omega | (dsimp only; omega)) (by first | omega | (dsimp only; omega))) rfl ?_
       refine AOps.s0 (Cert.assign (by conv => lhs; whnf)) rfl ?_
       refine AOps.nil ?_
       exact hK10 _ (n10, (s3_11 + 1)) Weak.toA hE (Nat.lt_succ_self _)
     ·have hE := condF hc15 hE
      try dsimp only at hc15
      refine AWp.exit ?_
      exact hK7 _ () Weak.toA hE
  ·rintro _ hE
   try dsimp only at hE
   unfold r06_Right_j7 at hE
   refine AWp.seqK fun K8 hK8 => ?_
   refine AWp.region ?_
   refine AOps.s0 (Cert.assign (by conv => lhs; whnf)) rfl ?_
   refine AOps.nil ?_
   refine hK8 _ ?_
   clear hK8 K8
   refine AWp.ret ?_
   repeat (first | refine xBlock_ret ?_ | refine xThen_ret ?_)
   obtain rfl := Option.some.inj hE
   refine retQ.retF H rfl ⟨rfl, rfl⟩ ?_
   exact (fun _ _ h => h)
def r08_constant_j2 (a0 : TValue)   : Option Bool := some (!decide (a0.FKind = (7 : Int)))
def r08_constant_l5 (a0 : TValue) (k_rec_56 : TValue → Option Bool) : Nat → Nat → Option Bool
 | 0, _ => none
 | n5 + 1, s3_6 => bif (decide (((s3_6 : Nat) : Int) < ((a0.FItems.l.length : Nat) : Int))) then ((a0.FItems.l[s3_6]?).bind fun x13 => (k_rec_56 x13).bind fun x14 => bif (!x14) then (some false) else ((r08_constant_l5 a0 k_rec_56 n5) (s3_6 + 1))) else (r08_constant_j2 a0  )
def r08_constant_n : Nat → TValue → Option Bool
 | 0, _ => none
 | n + 1, a0 => r08_constant_l5 a0 (r08_constant_n n) (a0.FItems.l.length + 1) 0
set_option maxRecDepth 100000 in
set_option maxHeartbeats 2000000 in
theorem r08_constant_step (n : Nat) (ih_56 : ∀ {a0 : TValue}   {r : Bool}, r08_constant_n n a0 = some r → ∀ (H : Heap), ACalls Try.prog 56 [.agg (TValue.c a0)] H fun v h' => v = .a (.d (.bool r)) ∧ h' = H) : ∀ {a0 : TValue}   {r : Bool}, r08_constant_n (n + 1) a0 = some r → ∀ (H : Heap), ACalls Try.prog 56 [.agg (TValue.c a0)] H fun v h' => v = .a (.d (.bool r)) ∧ h' = H := by
 intro a0   r hE H 
 rw [r08_constant_n] at hE
 refine ACalls.of_wp (fn := Try.f56) (c := _) Try.tab_ok (fun _ _ => Try.call56 _ _) Try.func56 rfl (n := 21) rfl (rs := [.tmp 2]) rfl rfl ?_
 refine AWp.seqK fun K1 hK1 => ?_
 refine AWp.region ?_
 refine AOps.s0 (Cert.boxV rfl) rfl ?_
 refine AOps.s0 (Cert.assign (by conv => lhs; whnf)) rfl ?_
 refine AOps.nil ?_
 refine hK1 _ ?_
 clear hK1 K1
 refine AWp.seqJH (KeepsT.cons (k := 1) (by conv => lhs; whnf) KeepsT.nil) (fun (z : Unit) => []) (fun z => H) (fun z => r08_constant_j2 a0  = some r) ?_ ?_
 ·intro K2 hK2
  refine AWp.seqK fun K4 hK4 => ?_
  refine AWp.region ?_
  refine AOps.s0 (Cert.assign (by conv => lhs; whnf)) rfl ?_
  refine AOps.nil ?_
  refine hK4 _ ?_
  clear hK4 K4
  refine AWp.block ?_
  refine AWp.loopH (KeepsT.cons (k := 1) (by conv => lhs; whnf) KeepsT.nil) (fun (z : Nat × Nat) => [(3, .a (.d (.int .i64 ((z.2 : Nat) : Int))))]) (fun z => H) (fun z => z.1) (fun z => r08_constant_l5 a0 (r08_constant_n n) z.1 z.2 = some r) ((a0.FItems.l.length + 1), 0) hE Weak.toA ?_
  rintro ⟨n5, s3_6⟩ hE K5 hK5
  try dsimp only at hE
  cases n5 with
  | zero => cases hE
  | succ n5 =>
    rw [r08_constant_l5] at hE
    refine AWp.seqK fun K7 hK7 => ?_
    refine AWp.seqK fun K8 hK8 => ?_
    refine AWp.region ?_
    refine AOps.s0 (Cert.move (by conv => lhs; whnf)) rfl ?_
    refine AOps.s0 (Cert.fieldV (Try.tab_ok _ _ rfl) rfl rfl (Try.tab_ok _ _ rfl) rfl rfl (by conv => lhs; whnf)) rfl ?_
    refine AOps.s0 (Cert.loadV (Try.tab_ok _ _ rfl) rfl rfl (congrArg (fun x => some (A.d x)) (TValue.FItemsD_eq _))) rfl ?_
    refine AOps.sLen (f := TValue.c) (s := a0.FItems) (Try.tab_ok _ _ rfl) rfl rfl rfl rfl fun hL9 => ?_
    refine AOps.s0 (Cert.binI rfl rfl rfl) rfl ?_
    refine AOps.nil ?_
    refine hK8 _ ?_
    clear hK8 K8
    refine AWp.cond rfl (fun hc10 => ?_) (fun hc10 => ?_)
    ·have hE := condT hc10 hE
     try dsimp only at hc10
     have hf10 := of_decide_eq_true hc10
     refine AWp.skip ?_
     refine hK7 _ ?_
     clear hK7 K7
     refine AWp.seqK fun K11 hK11 => ?_
     refine AWp.block ?_
     refine AWp.seqK fun K12 hK12 => ?_
     refine AWp.region ?_
     refine AOps.s0 (Cert.fieldV (Try.tab_ok _ _ rfl) rfl rfl (Try.tab_ok _ _ rfl) rfl rfl (by conv => lhs; whnf)) rfl ?_
     refine AOps.s0 (Cert.loadV (Try.tab_ok _ _ rfl) rfl rfl (congrArg (fun x => some (A.d x)) (TValue.FItemsD_eq _))) rfl ?_
     refine AOps.s0 (Cert.move (by conv => lhs; whnf)) rfl ?_
     obtain ⟨x13, gx13, hE⟩ := bindO_some hE
     refine AOps.s0 (Cert.idxMn (f := TValue.c) (n := s3_6) (Try.tab_ok _ _ rfl) rfl (Try.tab_ok _ _ rfl) rfl rfl rfl gx13) rfl ?_
     refine AOps.s0 (Cert.loadV (Try.tab_ok _ _ rfl) rfl rfl rfl) rfl ?_
     obtain ⟨x14, gx14, hE⟩ := bindO_some hE
     refine AOps.s0 (Cert.callP rfl rfl (fun H => ih_56 gx14 H)) rfl ?_
     refine AOps.s0 (Cert.notB rfl) rfl ?_
     refine AOps.nil ?_
     refine hK12 _ ?_
     clear hK12 K12
     refine AWp.cond rfl (fun hc15 => ?_) (fun hc15 => ?_)
     ·have hE := condT hc15 hE
      try dsimp only at hc15
      refine AWp.seqK fun K16 hK16 => ?_
      refine AWp.region ?_
      refine AOps.s0 (Cert.assign (by conv => lhs; whnf)) rfl ?_
      refine AOps.nil ?_
      refine hK16 _ ?_
      clear hK16 K16
      refine AWp.ret ?_
      repeat (first | refine xBlock_ret ?_ | refine xThen_ret ?_)
      obtain rfl := Option.some.inj hE
      refine retQ.retF H rfl ⟨rfl, rfl⟩ ?_
      exact (fun _ _ h => h)
     ·have hE := condF hc15 hE
      try dsimp only at hc15
      refine AWp.skip ?_
      refine hK11 _ ?_
      clear hK11 K11
      refine AWp.region ?_
      refine AOps.s0 (Cert.move (by conv => lhs; whnf)) rfl ?_
      refine AOps.s0 (Cert.addI rfl rfl (by first | omega | (dsimp only; omega)) (by first | omega | (dsimp only; omega))) rfl ?_
      refine AOps.s0 (Cert.assign (by conv => lhs; whnf)) rfl ?_
      refine AOps.nil ?_
      exact hK5 _ (n5, (s3_6 + 1)) Weak.toA hE (Nat.lt_succ_self _)
    ·have hE := condF hc10 hE
     try dsimp only at hc10
     refine AWp.exit ?_
     exact hK2 _ () Weak.toA hE
 ·rintro _ hE
  try dsimp only at hE
  unfold r08_constant_j2 at hE
  refine AWp.seqK fun K3 hK3 => ?_
  refine AWp.region ?_
  refine AOps.s0 (Cert.fieldV (Try.tab_ok _ _ rfl) rfl rfl (Try.tab_ok _ _ rfl) rfl rfl (by conv => lhs; whnf)) rfl ?_
  refine AOps.s0 (Cert.loadV (Try.tab_ok _ _ rfl) rfl rfl rfl) rfl ?_
  refine AOps.s0 (Cert.binI rfl rfl rfl) rfl ?_
  refine AOps.s0 (Cert.assign (by conv => lhs; whnf)) rfl ?_
  refine AOps.nil ?_
  refine hK3 _ ?_
  clear hK3 K3
  refine AWp.ret ?_
  repeat (first | refine xBlock_ret ?_ | refine xThen_ret ?_)
  obtain rfl := Option.some.inj hE
  refine retQ.retF H rfl ⟨rfl, rfl⟩ ?_
  exact (fun _ _ h => h)
theorem r08_constant_all : ∀ (n : Nat), (∀ {a0 : TValue}   {r : Bool}, r08_constant_n n a0 = some r → ∀ (H : Heap), ACalls Try.prog 56 [.agg (TValue.c a0)] H fun v h' => v = .a (.d (.bool r)) ∧ h' = H)
 | 0 => fun hE => by first | cases hE | (rw [r08_constant_n] at hE; cases hE)
 | n + 1 => r08_constant_step n (r08_constant_all n)
def r08_constant (a0 : TValue) : Option Bool := r08_constant_n F0 a0
theorem r08_constant_walk {a0 : TValue}   {r : Bool} (hE : r08_constant a0 = some r) (H : Heap)  : ACalls Try.prog 56 [.agg (TValue.c a0)] H fun v h' => v = .a (.d (.bool r)) ∧ h' = H := (r08_constant_all F0) hE H 
end Go.Proofs

namespace Go.Proofs
open Go Go.Ab
def r08_varsRight_j2 (a0 : (Sl TVar))   : Option Bool := some (decide (((a0.l.length : Nat) : Int) ≤ (16 : Int)))
def r08_varsRight_l6 (a0 : (Sl TVar))  : Nat → Nat → Option Bool
 | 0, _ => none
 | n6 + 1, s3_7 => bif (decide (((s3_7 : Nat) : Int) < ((a0.l.length : Nat) : Int))) then ((a0.l[s3_7]?).bind fun x14 => (r01_Name x14.FName).bind fun x17 => guardO (!(!x17)) (r05_Right x14.FType) false fun x18 => guardO (!((!x17) || (!x18))) (r02_Literal x14.FDefault) false fun x19 => guardO (!(((!x17) || (!x18)) || (!x19))) (r08_constant x14.FDefault) false fun x20 => bif ((((!x17) || (!x18)) || (!x19)) || (!x20)) then (some false) else (bif ((!x14.FHas) && (!decide (x14.FDefault.FKind = (0 : Int)))) then (some false) else ((r08_varsRight_l6 a0 n6) (s3_7 + 1)))) else (r08_varsRight_j2 a0  )
def r08_varsRight (a0 : (Sl TVar)) : Option Bool := r08_varsRight_l6 a0 (a0.l.length + 1) 0
set_option maxRecDepth 100000 in
set_option maxHeartbeats 2000000 in
theorem r08_varsRight_walk {a0 : (Sl TVar)} {w0 : Option Nat}  {r : Bool} (hE : r08_varsRight a0 = some r) (H : Heap)  : ACalls Try.prog 42 [.d (Sl.d 9 TVar.c w0 a0)] H fun v h' => v = .a (.d (.bool r)) ∧ h' = H := by
 unfold r08_varsRight at hE
 refine ACalls.of_wp (fn := Try.f42) (c := _) Try.tab_ok (fun _ _ => Try.call42 _ _) Try.func42 rfl (n := 49) rfl (rs := [.tmp 2]) rfl rfl ?_
 refine AWp.seqK fun K1 hK1 => ?_
 refine AWp.region ?_
 refine AOps.s0 (Cert.assign (by conv => lhs; whnf)) rfl ?_
 refine AOps.nil ?_
 refine hK1 _ ?_
 clear hK1 K1
 refine AWp.seqJH (KeepsT.cons (k := 0) (by conv => lhs; whnf) KeepsT.nil) (fun (z : Unit) => []) (fun z => H) (fun z => r08_varsRight_j2 a0  = some r) ?_ ?_
 ·intro K2 hK2
  refine AWp.seqK fun K5 hK5 => ?_
  refine AWp.region ?_
  refine AOps.s0 (Cert.assign (by conv => lhs; whnf)) rfl ?_
  refine AOps.nil ?_
  refine hK5 _ ?_
  clear hK5 K5
  refine AWp.block ?_
  refine AWp.loopH (KeepsT.cons (k := 0) (by conv => lhs; whnf) KeepsT.nil) (fun (z : Nat × Nat) => [(3, .a (.d (.int .i64 ((z.2 : Nat) : Int))))]) (fun z => H) (fun z => z.1) (fun z => r08_varsRight_l6 a0 z.1 z.2 = some r) ((a0.l.length + 1), 0) hE Weak.toA ?_
  rintro ⟨n6, s3_7⟩ hE K6 hK6
  try dsimp only at hE
  cases n6 with
  | zero => cases hE
  | succ n6 =>
    rw [r08_varsRight_l6] at hE
    refine AWp.seqK fun K8 hK8 => ?_
    refine AWp.seqK fun K9 hK9 => ?_
    refine AWp.region ?_
    refine AOps.s0 (Cert.move (by conv => lhs; whnf)) rfl ?_
    refine AOps.s0 (Cert.move (by conv => lhs; whnf)) rfl ?_
    refine AOps.sLen (f := TVar.c) (s := a0) (Try.tab_ok _ _ rfl) rfl rfl rfl rfl fun hL10 => ?_
    refine AOps.s0 (Cert.binI rfl rfl rfl) rfl ?_
    refine AOps.nil ?_
    refine hK9 _ ?_
    clear hK9 K9
    refine AWp.cond rfl (fun hc11 => ?_) (fun hc11 => ?_)
    ·have hE := condT hc11 hE
     try dsimp only at hc11
     have hf11 := of_decide_eq_true hc11
     refine AWp.skip ?_
     refine hK8 _ ?_
     clear hK8 K8
     refine AWp.seqK fun K12 hK12 => ?_
     refine AWp.block ?_
     refine AWp.seqK fun K13 hK13 => ?_
     refine AWp.region ?_
     refine AOps.s0 (Cert.move (by conv => lhs; whnf)) rfl ?_
     refine AOps.s0 (Cert.move (by conv => lhs; whnf)) rfl ?_
     obtain ⟨x14, gx14, hE⟩ := bindO_some hE
     refine AOps.s0 (Cert.idxMn (f := TVar.c) (n := s3_7) (Try.tab_ok _ _ rfl) rfl (Try.tab_ok _ _ rfl) rfl rfl rfl gx14) rfl ?_
     refine AOps.s0 (Cert.loadV (Try.tab_ok _ _ rfl) rfl rfl rfl) rfl ?_
     refine AOps.sL (Cert.allocL (Try.tab_ok _ _ rfl) rfl (by repeat (first | exact Snoc.nil | apply Snoc.cons))) rfl ?_
     refine AOps.sLn (Cert.storeLF (Try.tab_ok _ _ rfl) rfl rfl rfl rfl rfl (by repeat (first | exact SetAt.zero | apply SetAt.succ))) ?_
     refine AOps.nil ?_
     refine hK13 _ ?_
     clear hK13 K13
     refine AWp.freeze 4 _ rfl (by repeat (first | exact Snoc.nil | apply Snoc.cons)) (Keeps.c (k := 0) (by conv => lhs; whnf) (by rfl) (Keeps.c (k := 3) (by conv => lhs; whnf) (by rfl) Keeps.nil)) ?_
     refine AWp.seqK fun K15 hK15 => ?_
     refine AWp.seqK fun K16 hK16 => ?_
     refine AWp.region ?_
     refine AOps.s0 (Cert.fieldV (Try.tab_ok _ _ rfl) rfl rfl (Try.tab_ok _ _ rfl) rfl rfl (by conv => lhs; whnf)) rfl ?_
     refine AOps.s0 (Cert.loadV (Try.tab_ok _ _ rfl) rfl rfl rfl) rfl ?_
     obtain ⟨x17, gx17, hE⟩ := bindO_some hE
     refine AOps.s0 (Cert.callP rfl rfl (fun H => r01_Name_walk gx17 H)) rfl ?_
     refine AOps.s0 (Cert.notB rfl) rfl ?_
     refine AOps.s0 (Cert.move (by conv => lhs; whnf)) rfl ?_
     refine AOps.gC rfl rfl (fun hC => Cert.fieldV (Try.tab_ok _ _ rfl) rfl rfl (Try.tab_ok _ _ rfl) rfl rfl (by conv => lhs; whnf)) rfl ?_
     refine AOps.gC rfl rfl (fun hC => Cert.ungd (k := 20) rfl (by first | exact hC | exact andL hC | exact andL (andL hC) | exact andL (andL (andL hC)) | exact andR hC | simp_all) (Cert.loadV (Try.tab_ok _ _ rfl) rfl rfl rfl)) rfl ?_
     obtain ⟨x18, gx18, hE⟩ := guardO_some hE
     refine AOps.gC rfl rfl (fun hC => Cert.ungd (k := 21) rfl (by first | exact hC | exact andL hC | exact andL (andL hC) | exact andL (andL (andL hC)) | exact andR hC | simp_all) (Cert.callP rfl rfl (fun H => r05_Right_walk (gx18 hC) H))) rfl ?_
     refine AOps.gC rfl rfl (fun hC => Cert.ungd (k := 22) rfl (by first | exact hC | exact andL hC | exact andL (andL hC) | exact andL (andL (andL hC)) | exact andR hC | simp_all) (Cert.notB rfl)) rfl ?_
     refine AOps.s0 (Cert.pickOr rfl rfl rfl (fun h => by first | exact h | exact notT h | exact andI hC h | exact andI hC (notT h) | simp_all)) rfl ?_
     refine AOps.s0 (Cert.move (by conv => lhs; whnf)) rfl ?_
     refine AOps.gC rfl rfl (fun hC => Cert.fieldV (Try.tab_ok _ _ rfl) rfl rfl (Try.tab_ok _ _ rfl) rfl rfl (by conv => lhs; whnf)) rfl ?_
     refine AOps.gC rfl rfl (fun hC => Cert.ungd (k := 26) rfl (by first | exact hC | exact andL hC | exact andL (andL hC) | exact andL (andL (andL hC)) | exact andR hC | simp_all) (Cert.loadV (Try.tab_ok _ _ rfl) rfl rfl rfl)) rfl ?_
     obtain ⟨x19, gx19, hE⟩ := guardO_some hE
     refine AOps.gC rfl rfl (fun hC => Cert.ungd (k := 27) rfl (by first | exact hC | exact andL hC | exact andL (andL hC) | exact andL (andL (andL hC)) | exact andR hC | simp_all) (Cert.callP rfl rfl (fun H => r02_Literal_walk (gx19 hC) H))) rfl ?_
     refine AOps.gC rfl rfl (fun hC => Cert.ungd (k := 28) rfl (by first | exact hC | exact andL hC | exact andL (andL hC) | exact andL (andL (andL hC)) | exact andR hC | simp_all) (Cert.notB rfl)) rfl ?_
     refine AOps.s0 (Cert.pickOr rfl rfl rfl (fun h => by first | exact h | exact notT h | exact andI hC h | exact andI hC (notT h) | simp_all)) rfl ?_
     refine AOps.s0 (Cert.move (by conv => lhs; whnf)) rfl ?_
     refine AOps.gC rfl rfl (fun hC => Cert.fieldV (Try.tab_ok _ _ rfl) rfl rfl (Try.tab_ok _ _ rfl) rfl rfl (by conv => lhs; whnf)) rfl ?_
     refine AOps.gC rfl rfl (fun hC => Cert.ungd (k := 32) rfl (by first | exact hC | exact andL hC | exact andL (andL hC) | exact andL (andL (andL hC)) | exact andR hC | simp_all) (Cert.loadV (Try.tab_ok _ _ rfl) rfl rfl rfl)) rfl ?_
     obtain ⟨x20, gx20, hE⟩ := guardO_some hE
     refine AOps.gC rfl rfl (fun hC => Cert.ungd (k := 33) rfl (by first | exact hC | exact andL hC | exact andL (andL hC) | exact andL (andL (andL hC)) | exact andR hC | simp_all) (Cert.callP rfl rfl (fun H => r08_constant_walk (gx20 hC) H))) rfl ?_
     refine AOps.gC rfl rfl (fun hC => Cert.ungd (k := 34) rfl (by first | exact hC | exact andL hC | exact andL (andL hC) | exact andL (andL (andL hC)) | exact andR hC | simp_all) (Cert.notB rfl)) rfl ?_
     refine AOps.s0 (Cert.pickOr rfl rfl rfl (fun h => by first | exact h | exact notT h | exact andI hC h | exact andI hC (notT h) | simp_all)) rfl ?_
     refine AOps.nil ?_
     refine hK16 _ ?_
     clear hK16 K16
     refine AWp.cond rfl (fun hc21 => ?_) (fun hc21 => ?_)
     ·have hE := condT hc21 hE
      try dsimp only at hc21
      refine AWp.seqK fun K22 hK22 => ?_
      refine AWp.region ?_
      refine AOps.s0 (Cert.assign (by conv => lhs; whnf)) rfl ?_
      refine AOps.nil ?_
      refine hK22 _ ?_
      clear hK22 K22
      refine AWp.ret ?_
      repeat (first | refine xBlock_ret ?_ | refine xThen_ret ?_)
      obtain rfl := Option.some.inj hE
      refine retQ.retF H rfl ⟨rfl, rfl⟩ ?_
      exact (fun _ _ h => h)
     ·have hE := condF hc21 hE
      try dsimp only at hc21
      refine AWp.skip ?_
      refine hK15 _ ?_
      clear hK15 K15
      refine AWp.seqK fun K23 hK23 => ?_
      refine AWp.region ?_
      refine AOps.s0 (Cert.fieldV (Try.tab_ok _ _ rfl) rfl rfl (Try.tab_ok _ _ rfl) rfl rfl (by conv => lhs; whnf)) rfl ?_
      refine AOps.s0 (Cert.loadV (Try.tab_ok _ _ rfl) rfl rfl rfl) rfl ?_
      refine AOps.s0 (Cert.notB rfl) rfl ?_
      refine AOps.s0 (Cert.move (by conv => lhs; whnf)) rfl ?_
      refine AOps.gC rfl rfl (fun hC => Cert.fieldV (Try.tab_ok _ _ rfl) rfl rfl (Try.tab_ok _ _ rfl) rfl rfl (by conv => lhs; whnf)) rfl ?_
      refine AOps.gC rfl rfl (fun hC => Cert.ungd (k := 41) rfl (by first | exact hC | exact andL hC | exact andL (andL hC) | exact andL (andL (andL hC)) | exact andR hC | simp_all) (Cert.fieldV (Try.tab_ok _ _ rfl) rfl rfl (Try.tab_ok _ _ rfl) rfl rfl (by conv => lhs; whnf))) rfl ?_
      refine AOps.gC rfl rfl (fun hC => Cert.ungd (k := 42) rfl (by first | exact hC | exact andL hC | exact andL (andL hC) | exact andL (andL (andL hC)) | exact andR hC | simp_all) (Cert.loadV (Try.tab_ok _ _ rfl) rfl rfl rfl)) rfl ?_
      refine AOps.gC rfl rfl (fun hC => Cert.ungd (k := 43) rfl (by first | exact hC | exact andL hC | exact andL (andL hC) | exact andL (andL (andL hC)) | exact andR hC | simp_all) (Cert.binI rfl rfl rfl)) rfl ?_
      refine AOps.s0 (Cert.pickAnd rfl rfl (fun h => by first | exact h | exact notT h | exact andI hC h | exact andI hC (notT h) | simp_all) rfl) rfl ?_
      refine AOps.nil ?_
      refine hK23 _ ?_
      clear hK23 K23
      refine AWp.cond rfl (fun hc24 => ?_) (fun hc24 => ?_)
      ·have hE := condT hc24 hE
       try dsimp only at hc24
       refine AWp.seqK fun K25 hK25 => ?_
       refine AWp.region ?_
       refine AOps.s0 (Cert.assign (by conv => lhs; whnf)) rfl ?_
       refine AOps.nil ?_
       refine hK25 _ ?_
       clear hK25 K25
       refine AWp.ret ?_
       repeat (first | refine xBlock_ret ?_ | refine xThen_ret ?_)
       obtain rfl := Option.some.inj hE
       refine retQ.retF H rfl ⟨rfl, rfl⟩ ?_
       exact (fun _ _ h => h)
      ·have hE := condF hc24 hE
       try dsimp only at hc24
       refine AWp.skip ?_
       refine hK12 _ ?_
       clear hK12 K12
       refine AWp.region ?_
       refine AOps.s0 (Cert.move (by conv => lhs; whnf)) rfl ?_
       refine AOps.s0 (Cert.addI rfl rfl (by first | omega | (dsimp only; omega)) (by first | omega | (dsimp only; omega))) rfl ?_
       refine AOps.s0 (Cert.assign (by conv => lhs; whnf)) rfl ?_
       refine AOps.nil ?_
       exact hK6 _ (n6, (s3_7 + 1)) Weak.toA hE (Nat.lt_succ_self _)
    ·have hE := condF hc11 hE
     try dsimp only at hc11
     refine AWp.exit ?_
     exact hK2 _ () Weak.toA hE
 ·rintro _ hE
  try dsimp only at hE
  unfold r08_varsRight_j2 at hE
  refine AWp.seqK fun K3 hK3 => ?_
  refine AWp.region ?_
  refine AOps.s0 (Cert.move (by conv => lhs; whnf)) rfl ?_
  refine AOps.sLen (f := TVar.c) (s := a0) (Try.tab_ok _ _ rfl) rfl rfl rfl rfl fun hL4 => ?_
  refine AOps.s0 (Cert.binI rfl rfl rfl) rfl ?_
  refine AOps.s0 (Cert.assign (by conv => lhs; whnf)) rfl ?_
  refine AOps.nil ?_
  refine hK3 _ ?_
  clear hK3 K3
  refine AWp.ret ?_
  repeat (first | refine xBlock_ret ?_ | refine xThen_ret ?_)
  obtain rfl := Option.some.inj hE
  refine retQ.retF H rfl ⟨rfl, rfl⟩ ?_
  exact (fun _ _ h => h)
def r08_title (a0 : Bs) : Option Bool := (r01_Name a0).bind fun x3 => some (x3 && (!(a0 == ([111, 110] : Bs))))
set_option maxRecDepth 100000 in
set_option maxHeartbeats 2000000 in
theorem r08_title_walk {a0 : Bs}   {r : Bool} (hE : r08_title a0 = some r) (H : Heap)  : ACalls Try.prog 44 [.d (.str a0)] H fun v h' => v = .a (.d (.bool r)) ∧ h' = H := by
 unfold r08_title at hE
 refine ACalls.of_wp (fn := Try.f44) (c := _) Try.tab_ok (fun _ _ => Try.call44 _ _) Try.func44 rfl (n := 9) rfl (rs := [.tmp 2]) rfl rfl ?_
 refine AWp.seqK fun K1 hK1 => ?_
 refine AWp.region ?_
 refine AOps.s0 (Cert.assign (by conv => lhs; whnf)) rfl ?_
 refine AOps.nil ?_
 refine hK1 _ ?_
 clear hK1 K1
 refine AWp.seqK fun K2 hK2 => ?_
 refine AWp.region ?_
 refine AOps.s0 (Cert.move (by conv => lhs; whnf)) rfl ?_
 obtain ⟨x3, gx3, hE⟩ := bindO_some hE
 refine AOps.s0 (Cert.callP rfl rfl (fun H => r01_Name_walk gx3 H)) rfl ?_
 refine AOps.s0 (Cert.move (by conv => lhs; whnf)) rfl ?_
 refine AOps.gC rfl rfl (fun hC => Cert.move (by conv => lhs; whnf)) rfl ?_
 refine AOps.gC rfl rfl (fun hC => Cert.ungd (k := 6) rfl (by first | exact hC | exact andL hC | exact andL (andL hC) | exact andL (andL (andL hC)) | exact andR hC | simp_all) (Cert.binS rfl rfl rfl)) rfl ?_
 refine AOps.s0 (Cert.pickAnd rfl rfl (fun h => by first | exact h | exact notT h | exact andI hC h | exact andI hC (notT h) | simp_all) rfl) rfl ?_
 refine AOps.s0 (Cert.assign (by conv => lhs; whnf)) rfl ?_
 refine AOps.nil ?_
 refine hK2 _ ?_
 clear hK2 K2
 refine AWp.ret ?_
 repeat (first | refine xBlock_ret ?_ | refine xThen_ret ?_)
 obtain rfl := Option.some.inj hE
 refine retQ.retF H rfl ⟨rfl, rfl⟩ ?_
 exact (fun _ _ h => h)
def r08_argsRight_j2 (a0 : (Sl TArg))   : Option Bool := some (decide (((a0.l.length : Nat) : Int) ≤ (16 : Int)))
def r08_argsRight_l6 (a0 : (Sl TArg))  : Nat → Nat → Option Bool
 | 0, _ => none
 | n6 + 1, s3_7 => bif (decide (((s3_7 : Nat) : Int) < ((a0.l.length : Nat) : Int))) then ((a0.l[s3_7]?).bind fun x14 => (r01_Name x14.FName).bind fun x15 => guardO (!(!x15)) (a0.l[s3_7]?) TArg.zero fun x16 => guardO (!(!x15)) (r02_Literal x16.FValue) false fun x17 => bif ((!x15) || (!x17)) then (some false) else ((r08_argsRight_l6 a0 n6) (s3_7 + 1))) else (r08_argsRight_j2 a0  )
def r08_argsRight (a0 : (Sl TArg)) : Option Bool := r08_argsRight_l6 a0 (a0.l.length + 1) 0
set_option maxRecDepth 100000 in
set_option maxHeartbeats 2000000 in
theorem r08_argsRight_walk {a0 : (Sl TArg)} {w0 : Option Nat}  {r : Bool} (hE : r08_argsRight a0 = some r) (H : Heap)  : ACalls Try.prog 71 [.d (Sl.d 6 TArg.c w0 a0)] H fun v h' => v = .a (.d (.bool r)) ∧ h' = H := by
 unfold r08_argsRight at hE
 refine ACalls.of_wp (fn := Try.f71) (c := _) Try.tab_ok (fun _ _ => Try.call71 _ _) Try.func71 rfl (n := 29) rfl (rs := [.tmp 2]) rfl rfl ?_
 refine AWp.seqK fun K1 hK1 => ?_
 refine AWp.region ?_
 refine AOps.s0 (Cert.assign (by conv => lhs; whnf)) rfl ?_
 refine AOps.nil ?_
 refine hK1 _ ?_
 clear hK1 K1
 refine AWp.seqJH (KeepsT.cons (k := 0) (by conv => lhs; whnf) KeepsT.nil) (fun (z : Unit) => []) (fun z => H) (fun z => r08_argsRight_j2 a0  = some r) ?_ ?_
 ·intro K2 hK2
  refine AWp.seqK fun K5 hK5 => ?_
  refine AWp.region ?_
  refine AOps.s0 (Cert.assign (by conv => lhs; whnf)) rfl ?_
  refine AOps.nil ?_
  refine hK5 _ ?_
  clear hK5 K5
  refine AWp.block ?_
  refine AWp.loopH (KeepsT.cons (k := 0) (by conv => lhs; whnf) KeepsT.nil) (fun (z : Nat × Nat) => [(3, .a (.d (.int .i64 ((z.2 : Nat) : Int))))]) (fun z => H) (fun z => z.1) (fun z => r08_argsRight_l6 a0 z.1 z.2 = some r) ((a0.l.length + 1), 0) hE Weak.toA ?_
  rintro ⟨n6, s3_7⟩ hE K6 hK6
  try dsimp only at hE
  cases n6 with
  | zero => cases hE
  | succ n6 =>
    rw [r08_argsRight_l6] at hE
    refine AWp.seqK fun K8 hK8 => ?_
    refine AWp.seqK fun K9 hK9 => ?_
    refine AWp.region ?_
    refine AOps.s0 (Cert.move (by conv => lhs; whnf)) rfl ?_
    refine AOps.s0 (Cert.move (by conv => lhs; whnf)) rfl ?_
    refine AOps.sLen (f := TArg.c) (s := a0) (Try.tab_ok _ _ rfl) rfl rfl rfl rfl fun hL10 => ?_
    refine AOps.s0 (Cert.binI rfl rfl rfl) rfl ?_
    refine AOps.nil ?_
    refine hK9 _ ?_
    clear hK9 K9
    refine AWp.cond rfl (fun hc11 => ?_) (fun hc11 => ?_)
    ·have hE := condT hc11 hE
     try dsimp only at hc11
     have hf11 := of_decide_eq_true hc11
     refine AWp.skip ?_
     refine hK8 _ ?_
     clear hK8 K8
     refine AWp.seqK fun K12 hK12 => ?_
     refine AWp.block ?_
     refine AWp.seqK fun K13 hK13 => ?_
     refine AWp.region ?_
     refine AOps.s0 (Cert.move (by conv => lhs; whnf)) rfl ?_
     refine AOps.s0 (Cert.move (by conv => lhs; whnf)) rfl ?_
     obtain ⟨x14, gx14, hE⟩ := bindO_some hE
     refine AOps.s0 (Cert.idxMn (f := TArg.c) (n := s3_7) (Try.tab_ok _ _ rfl) rfl (Try.tab_ok _ _ rfl) rfl rfl rfl gx14) rfl ?_
     refine AOps.s0 (Cert.fieldV (Try.tab_ok _ _ rfl) rfl rfl (Try.tab_ok _ _ rfl) rfl rfl (by conv => lhs; whnf)) rfl ?_
     refine AOps.s0 (Cert.loadV (Try.tab_ok _ _ rfl) rfl rfl rfl) rfl ?_
     obtain ⟨x15, gx15, hE⟩ := bindO_some hE
     refine AOps.s0 (Cert.callP rfl rfl (fun H => r01_Name_walk gx15 H)) rfl ?_
     refine AOps.s0 (Cert.notB rfl) rfl ?_
     refine AOps.s0 (Cert.move (by conv => lhs; whnf)) rfl ?_
     refine AOps.gC rfl rfl (fun hC => Cert.move (by conv => lhs; whnf)) rfl ?_
     refine AOps.gC rfl rfl (fun hC => Cert.move (by conv => lhs; whnf)) rfl ?_
     obtain ⟨x16, gx16, hE⟩ := guardO_some hE
     refine AOps.gC rfl rfl (fun hC => Cert.ungd (k := 18) rfl (by first | exact hC | exact andL hC | exact andL (andL hC) | exact andL (andL (andL hC)) | exact andR hC | simp_all) (Cert.ungd (k := 19) rfl (by first | exact hC | exact andL hC | exact andL (andL hC) | exact andL (andL (andL hC)) | exact andR hC | simp_all) (Cert.idxMn (f := TArg.c) (n := s3_7) (Try.tab_ok _ _ rfl) rfl (Try.tab_ok _ _ rfl) rfl rfl rfl (gx16 hC)))) rfl ?_
     refine AOps.gC rfl rfl (fun hC => Cert.ungd (k := 20) rfl (by first | exact hC | exact andL hC | exact andL (andL hC) | exact andL (andL (andL hC)) | exact andR hC | simp_all) (Cert.fieldV (Try.tab_ok _ _ rfl) rfl rfl (Try.tab_ok _ _ rfl) rfl rfl (by conv => lhs; whnf))) rfl ?_
     refine AOps.gC rfl rfl (fun hC => Cert.ungd (k := 21) rfl (by first | exact hC | exact andL hC | exact andL (andL hC) | exact andL (andL (andL hC)) | exact andR hC | simp_all) (Cert.loadV (Try.tab_ok _ _ rfl) rfl rfl rfl)) rfl ?_
     obtain ⟨x17, gx17, hE⟩ := guardO_some hE
     refine AOps.gC rfl rfl (fun hC => Cert.ungd (k := 22) rfl (by first | exact hC | exact andL hC | exact andL (andL hC) | exact andL (andL (andL hC)) | exact andR hC | simp_all) (Cert.callP rfl rfl (fun H => r02_Literal_walk (gx17 hC) H))) rfl ?_
     refine AOps.gC rfl rfl (fun hC => Cert.ungd (k := 23) rfl (by first | exact hC | exact andL hC | exact andL (andL hC) | exact andL (andL (andL hC)) | exact andR hC | simp_all) (Cert.notB rfl)) rfl ?_
     refine AOps.s0 (Cert.pickOr rfl rfl rfl (fun h => by first | exact h | exact notT h | exact andI hC h | exact andI hC (notT h) | simp_all)) rfl ?_
     refine AOps.nil ?_
     refine hK13 _ ?_
     clear hK13 K13
     refine AWp.cond rfl (fun hc18 => ?_) (fun hc18 => ?_)
     ·have hE := condT hc18 hE
      try dsimp only at hc18
      refine AWp.seqK fun K19 hK19 => ?_
      refine AWp.region ?_
      refine AOps.s0 (Cert.assign (by conv => lhs; whnf)) rfl ?_
      refine AOps.nil ?_
      refine hK19 _ ?_
      clear hK19 K19
      refine AWp.ret ?_
      repeat (first | refine xBlock_ret ?_ | refine xThen_ret ?_)
      obtain rfl := Option.some.inj hE
      refine retQ.retF H rfl ⟨rfl, rfl⟩ ?_
      exact (fun _ _ h => h)
     ·have hE := condF hc18 hE
      try dsimp only at hc18
      refine AWp.skip ?_
      refine hK12 _ ?_
      clear hK12 K12
      refine AWp.region ?_
      refine AOps.s0 (Cert.move (by conv => lhs; whnf)) rfl ?_
      refine AOps.s0 (Cert.addI rfl rfl (by first | omega | (dsimp only; omega)) (by first | omega | (dsimp only; omega))) rfl ?_
      refine AOps.s0 (Cert.assign (by conv => lhs; whnf)) rfl ?_
      refine AOps.nil ?_
      exact hK6 _ (n6, (s3_7 + 1)) Weak.toA hE (Nat.lt_succ_self _)
    ·have hE := condF hc11 hE
     try dsimp only at hc11
     refine AWp.exit ?_
     exact hK2 _ () Weak.toA hE
 ·rintro _ hE
  try dsimp only at hE
  unfold r08_argsRight_j2 at hE
  refine AWp.seqK fun K3 hK3 => ?_
  refine AWp.region ?_
  refine AOps.s0 (Cert.move (by conv => lhs; whnf)) rfl ?_
  refine AOps.sLen (f := TArg.c) (s := a0) (Try.tab_ok _ _ rfl) rfl rfl rfl rfl fun hL4 => ?_
  refine AOps.s0 (Cert.binI rfl rfl rfl) rfl ?_
  refine AOps.s0 (Cert.assign (by conv => lhs; whnf)) rfl ?_
  refine AOps.nil ?_
  refine hK3 _ ?_
  clear hK3 K3
  refine AWp.ret ?_
  repeat (first | refine xBlock_ret ?_ | refine xThen_ret ?_)
  obtain rfl := Option.some.inj hE
  refine retQ.retF H rfl ⟨rfl, rfl⟩ ?_
  exact (fun _ _ h => h)
def r08_dirsRight_j2 (a0 : (Sl TDir))   : Option Bool := some (decide (((a0.l.length : Nat) : Int) ≤ (16 : Int)))
def r08_dirsRight_l6 (a0 : (Sl TDir))  : Nat → Nat → Option Bool
 | 0, _ => none
 | n6 + 1, s3_7 => bif (decide (((s3_7 : Nat) : Int) < ((a0.l.length : Nat) : Int))) then ((a0.l[s3_7]?).bind fun x14 => (r01_Name x14.FName).bind fun x15 => guardO (!(!x15)) (a0.l[s3_7]?) TDir.zero fun x16 => guardO (!(!x15)) (r08_argsRight x16.FArgs) false fun x17 => bif ((!x15) || (!x17)) then (some false) else ((r08_dirsRight_l6 a0 n6) (s3_7 + 1))) else (r08_dirsRight_j2 a0  )
def r08_dirsRight (a0 : (Sl TDir)) : Option Bool := r08_dirsRight_l6 a0 (a0.l.length + 1) 0
set_option maxRecDepth 100000 in
set_option maxHeartbeats 2000000 in
theorem r08_dirsRight_walk {a0 : (Sl TDir)} {w0 : Option Nat}  {r : Bool} (hE : r08_dirsRight a0 = some r) (H : Heap)  : ACalls Try.prog 70 [.d (Sl.d 2 TDir.c w0 a0)] H fun v h' => v = .a (.d (.bool r)) ∧ h' = H := by
 unfold r08_dirsRight at hE
 refine ACalls.of_wp (fn := Try.f70) (c := _) Try.tab_ok (fun _ _ => Try.call70 _ _) Try.func70 rfl (n := 29) rfl (rs := [.tmp 2]) rfl rfl ?_
 refine AWp.seqK fun K1 hK1 => ?_
 refine AWp.region ?_
 refine AOps.s0 (Cert.assign (by conv => lhs; whnf)) rfl ?_
 refine AOps.nil ?_
 refine hK1 _ ?_
 clear hK1 K1
 refine AWp.seqJH (KeepsT.cons (k := 0) (by conv => lhs; whnf) KeepsT.nil) (fun (z : Unit) => []) (fun z => H) (fun z => r08_dirsRight_j2 a0  = some r) ?_ ?_
 ·intro K2 hK2
  refine AWp.seqK fun K5 hK5 => ?_
  refine AWp.region ?_
  refine AOps.s0 (Cert.assign (by conv => lhs; whnf)) rfl ?_
  refine AOps.nil ?_
  refine hK5 _ ?_
  clear hK5 K5
  refine AWp.block ?_
  refine AWp.loopH (KeepsT.cons (k := 0) (by conv => lhs; whnf) KeepsT.nil) (fun (z : Nat × Nat) => [(3, .a (.d (.int .i64 ((z.2 : Nat) : Int))))]) (fun z => H) (fun z => z.1) (fun z => r08_dirsRight_l6 a0 z.1 z.2 = some r) ((a0.l.length + 1), 0) hE Weak.toA ?_
  rintro ⟨n6, s3_7⟩ hE K6 hK6
  try dsimp only at hE
  cases n6 with
  | zero => cases hE
  | succ n6 =>
    rw [r08_dirsRight_l6] at hE
    refine AWp.seqK fun K8 hK8 => ?_
    refine AWp.seqK fun K9 hK9 => ?_
    refine AWp.region ?_
    refine AOps.s0 (Cert.move (by conv => lhs; whnf)) rfl ?_
    refine AOps.s0 (Cert.move (by conv => lhs; whnf)) rfl ?_
    refine AOps.sLen (f := TDir.c) (s := a0) (Try.tab_ok _ _ rfl) rfl rfl rfl rfl fun hL10 => ?_
    refine AOps.s0 (Cert.binI rfl rfl rfl) rfl ?_
    refine AOps.nil ?_
    refine hK9 _ ?_
    clear hK9 K9
    refine AWp.cond rfl (fun hc11 => ?_) (fun hc11 => ?_)
    ·have hE := condT hc11 hE
     try dsimp only at hc11
     have hf11 := of_decide_eq_true hc11
     refine AWp.skip ?_
     refine hK8 _ ?_
     clear hK8 K8
     refine AWp.seqK fun K12 hK12 => ?_
     refine AWp.block ?_
     refine AWp.seqK fun K13 hK13 => ?_
     refine AWp.region ?_
     refine AOps.s0 (Cert.move (by conv => lhs; whnf)) rfl ?_
     refine AOps.s0 (Cert.move (by conv => lhs; whnf)) rfl ?_
     obtain ⟨x14, gx14, hE⟩ := bindO_some hE
     refine AOps.s0 (Cert.idxMn (f := TDir.c) (n := s3_7) (Try.tab_ok _ _ rfl) rfl (Try.tab_ok _ _ rfl) rfl rfl rfl gx14) rfl ?_
     refine AOps.s0 (Cert.fieldV (Try.tab_ok _ _ rfl) rfl rfl (Try.tab_ok _ _ rfl) rfl rfl (by conv => lhs; whnf)) rfl ?_
     refine AOps.s0 (Cert.loadV (Try.tab_ok _ _ rfl) rfl rfl rfl) rfl ?_
     obtain ⟨x15, gx15, hE⟩ := bindO_some hE
     refine AOps.s0 (Cert.callP rfl rfl (fun H => r01_Name_walk gx15 H)) rfl ?_
     refine AOps.s0 (Cert.notB rfl) rfl ?_
     refine AOps.s0 (Cert.move (by conv => lhs; whnf)) rfl ?_
     refine AOps.gC rfl rfl (fun hC => Cert.move (by conv => lhs; whnf)) rfl ?_
     refine AOps.gC rfl rfl (fun hC => Cert.move (by conv => lhs; whnf)) rfl ?_
     obtain ⟨x16, gx16, hE⟩ := guardO_some hE
     refine AOps.gC rfl rfl (fun hC => Cert.ungd (k := 18) rfl (by first | exact hC | exact andL hC | exact andL (andL hC) | exact andL (andL (andL hC)) | exact andR hC | simp_all) (Cert.ungd (k := 19) rfl (by first | exact hC | exact andL hC | exact andL (andL hC) | exact andL (andL (andL hC)) | exact andR hC | simp_all) (Cert.idxMn (f := TDir.c) (n := s3_7) (Try.tab_ok _ _ rfl) rfl (Try.tab_ok _ _ rfl) rfl rfl rfl (gx16 hC)))) rfl ?_
     refine AOps.gC rfl rfl (fun hC => Cert.ungd (k := 20) rfl (by first | exact hC | exact andL hC | exact andL (andL hC) | exact andL (andL (andL hC)) | exact andR hC | simp_all) (Cert.fieldV (Try.tab_ok _ _ rfl) rfl rfl (Try.tab_ok _ _ rfl) rfl rfl (by conv => lhs; whnf))) rfl ?_
     refine AOps.gC rfl rfl (fun hC => Cert.ungd (k := 21) rfl (by first | exact hC | exact andL hC | exact andL (andL hC) | exact andL (andL (andL hC)) | exact andR hC | simp_all) (Cert.loadV (Try.tab_ok _ _ rfl) rfl rfl rfl)) rfl ?_
     obtain ⟨x17, gx17, hE⟩ := guardO_some hE
     refine AOps.gC rfl rfl (fun hC => Cert.ungd (k := 22) rfl (by first | exact hC | exact andL hC | exact andL (andL hC) | exact andL (andL (andL hC)) | exact andR hC | simp_all) (Cert.callP rfl rfl (fun H => r08_argsRight_walk (gx17 hC) H))) rfl ?_
     refine AOps.gC rfl rfl (fun hC => Cert.ungd (k := 23) rfl (by first | exact hC | exact andL hC | exact andL (andL hC) | exact andL (andL (andL hC)) | exact andR hC | simp_all) (Cert.notB rfl)) rfl ?_
     refine AOps.s0 (Cert.pickOr rfl rfl rfl (fun h => by first | exact h | exact notT h | exact andI hC h | exact andI hC (notT h) | simp_all)) rfl ?_
     refine AOps.nil ?_
     refine hK13 _ ?_
     clear hK13 K13
     refine AWp.cond rfl (fun hc18 => ?_) (fun hc18 => ?_)
     ·have hE := condT hc18 hE
      try dsimp only at hc18
      refine AWp.seqK fun K19 hK19 => ?_
      refine AWp.region ?_
      refine AOps.s0 (Cert.assign (by conv => lhs; whnf)) rfl ?_
      refine AOps.nil ?_
      refine hK19 _ ?_
      clear hK19 K19
      refine AWp.ret ?_
      repeat (first | refine xBlock_ret ?_ | refine xThen_ret ?_)
      obtain rfl := Option.some.inj hE
      refine retQ.retF H rfl ⟨rfl, rfl⟩ ?_
      exact (fun _ _ h => h)
     ·have hE := condF hc18 hE
      try dsimp only at hc18
      refine AWp.skip ?_
      refine hK12 _ ?_
      clear hK12 K12
      refine AWp.region ?_
      refine AOps.s0 (Cert.move (by conv => lhs; whnf)) rfl ?_
      refine AOps.s0 (Cert.addI rfl rfl (by first | omega | (dsimp only; omega)) (by first | omega | (dsimp only; omega))) rfl ?_
      refine AOps.s0 (Cert.assign (by conv => lhs; whnf)) rfl ?_
      refine AOps.nil ?_
      exact hK6 _ (n6, (s3_7 + 1)) Weak.toA hE (Nat.lt_succ_self _)
    ·have hE := condF hc11 hE
     try dsimp only at hc11
     refine AWp.exit ?_
     exact hK2 _ () Weak.toA hE
 ·rintro _ hE
  try dsimp only at hE
  unfold r08_dirsRight_j2 at hE
  refine AWp.seqK fun K3 hK3 => ?_
  refine AWp.region ?_
  refine AOps.s0 (Cert.move (by conv => lhs; whnf)) rfl ?_
  refine AOps.sLen (f := TDir.c) (s := a0) (Try.tab_ok _ _ rfl) rfl rfl rfl rfl fun hL4 => ?_
  refine AOps.s0 (Cert.binI rfl rfl rfl) rfl ?_
  refine AOps.s0 (Cert.assign (by conv => lhs; whnf)) rfl ?_
  refine AOps.nil ?_
  refine hK3 _ ?_
  clear hK3 K3
  refine AWp.ret ?_
  repeat (first | refine xBlock_ret ?_ | refine xThen_ret ?_)
  obtain rfl := Option.some.inj hE
  refine retQ.retF H rfl ⟨rfl, rfl⟩ ?_
  exact (fun _ _ h => h)
def r08_selsRight_j7 (a0 : (Sl TSel)) (a1 : Int)   : Option Bool := some true
def r08_selsRight_l10 (a0 : (Sl TSel)) (a1 : Int) (k_rec_57 : TSel → Int → Option Bool) : Nat → Nat → Option Bool
 | 0, _ => none
 | n10 + 1, s5_11 => bif (decide (((s5_11 : Nat) : Int) < ((a0.l.length : Nat) : Int))) then ((a0.l[s5_11]?).bind fun x18 => (k_rec_57 x18 a1).bind fun x19 => bif (!x19) then (some false) else ((r08_selsRight_l10 a0 a1 k_rec_57 n10) (s5_11 + 1))) else (r08_selsRight_j7 a0 a1  )
mutual
def r08_selsRight_n : Nat → (Sl TSel) → Int → Option Bool
 | 0, _, _ => none
 | n + 1, a0, a1 => bif (((decide (((a0.l.length : Nat) : Int) = (0 : Int))) || (decide ((64 : Int) < ((a0.l.length : Nat) : Int)))) || (decide ((24 : Int) < a1))) then (some false) else (r08_selsRight_l10 a0 a1 (r08_selRight_n n) (a0.l.length + 1) 0)
def r08_selRight_n : Nat → TSel → Int → Option Bool
 | 0, _, _ => none
 | n + 1, a0, a1 => (r08_dirsRight a0.FDirs).bind fun x4 => guardO (!(!x4)) (r08_argsRight a0.FArgs) false fun x5 => bif ((!x4) || (!x5)) then (some false) else (bif (decide (a0.FKind = (1 : Int))) then ((r01_Name a0.FName).bind fun x13 => guardO ((x13 && !((a0.FAlias == ([] : Bs))))) (r01_Name a0.FAlias) false fun x14 => guardO ((((x13 && (((a0.FAlias == ([] : Bs))) || x14)) && ((a0.FOn == ([] : Bs)))) && !(decide (((a0.FSels.l.length : Nat) : Int) = (0 : Int))))) (addC a1 (1 : Int)) (0 : Int) fun x15 => guardO ((((x13 && (((a0.FAlias == ([] : Bs))) || x14)) && ((a0.FOn == ([] : Bs)))) && !(decide (((a0.FSels.l.length : Nat) : Int) = (0 : Int))))) ((r08_selsRight_n n) a0.FSels x15) false fun x16 => some (((x13 && (((a0.FAlias == ([] : Bs))) || x14)) && ((a0.FOn == ([] : Bs)))) && ((decide (((a0.FSels.l.length : Nat) : Int) = (0 : Int))) || x16))) else (bif (decide (a0.FKind = (2 : Int))) then ((r08_title a0.FName).bind fun x20 => some ((((x20 && ((a0.FAlias == ([] : Bs)))) && ((a0.FOn == ([] : Bs)))) && (decide (((a0.FArgs.l.length : Nat) : Int) = (0 : Int)))) && (decide (((a0.FSels.l.length : Nat) : Int) = (0 : Int))))) else (bif (decide (a0.FKind = (3 : Int))) then (guardO (((((a0.FName == ([] : Bs))) && ((a0.FAlias == ([] : Bs)))) && !((a0.FOn == ([] : Bs))))) (r01_Name a0.FOn) false fun x24 => guardO ((((((a0.FName == ([] : Bs))) && ((a0.FAlias == ([] : Bs)))) && (((a0.FOn == ([] : Bs))) || x24)) && (decide (((a0.FArgs.l.length : Nat) : Int) = (0 : Int))))) (addC a1 (1 : Int)) (0 : Int) fun x25 => guardO ((((((a0.FName == ([] : Bs))) && ((a0.FAlias == ([] : Bs)))) && (((a0.FOn == ([] : Bs))) || x24)) && (decide (((a0.FArgs.l.length : Nat) : Int) = (0 : Int))))) ((r08_selsRight_n n) a0.FSels x25) false fun x26 => some ((((((a0.FName == ([] : Bs))) && ((a0.FAlias == ([] : Bs)))) && (((a0.FOn == ([] : Bs))) || x24)) && (decide (((a0.FArgs.l.length : Nat) : Int) = (0 : Int)))) && x26)) else (some false))))
end
set_option maxRecDepth 100000 in
set_option maxHeartbeats 2000000 in
theorem r08_selsRight_step (n : Nat) (ih_43 : ∀ {a0 : (Sl TSel)} {a1 : Int} {w0 : Option Nat}  {r : Bool}, r08_selsRight_n n a0 a1 = some r → ∀ (H : Heap), ACalls Try.prog 43 [.d (Sl.d 7 TSel.c w0 a0), .d (.int .i64 a1)] H fun v h' => v = .a (.d (.bool r)) ∧ h' = H) (ih_57 : ∀ {a0 : TSel} {a1 : Int}   {r : Bool}, r08_selRight_n n a0 a1 = some r → ∀ (H : Heap), ACalls Try.prog 57 [.agg (TSel.c a0), .d (.int .i64 a1)] H fun v h' => v = .a (.d (.bool r)) ∧ h' = H) : ∀ {a0 : (Sl TSel)} {a1 : Int} {w0 : Option Nat}  {r : Bool}, r08_selsRight_n (n + 1) a0 a1 = some r → ∀ (H : Heap), ACalls Try.prog 43 [.d (Sl.d 7 TSel.c w0 a0), .d (.int .i64 a1)] H fun v h' => v = .a (.d (.bool r)) ∧ h' = H := by
 intro a0 a1 w0  r hE H 
 rw [r08_selsRight_n] at hE
 refine ACalls.of_wp (fn := Try.f43) (c := _) Try.tab_ok (fun _ _ => Try.call43 _ _) Try.func43 rfl (n := 31) rfl (rs := [.tmp 4]) rfl rfl ?_
 refine AWp.seqK fun K1 hK1 => ?_
 refine AWp.region ?_
 refine AOps.s0 (Cert.assign (by conv => lhs; whnf)) rfl ?_
 refine AOps.nil ?_
 refine hK1 _ ?_
 clear hK1 K1
 refine AWp.seqK fun K2 hK2 => ?_
 refine AWp.seqK fun K3 hK3 => ?_
 refine AWp.region ?_
 refine AOps.s0 (Cert.move (by conv => lhs; whnf)) rfl ?_
 refine AOps.sLen (f := TSel.c) (s := a0) (Try.tab_ok _ _ rfl) rfl rfl rfl rfl fun hL4 => ?_
 refine AOps.s0 (Cert.binI rfl rfl rfl) rfl ?_
 refine AOps.s0 (Cert.move (by conv => lhs; whnf)) rfl ?_
 refine AOps.gC rfl rfl (fun hC => Cert.move (by conv => lhs; whnf)) rfl ?_
 refine AOps.gC rfl rfl (fun hC => Cert.ungd (k := 10) rfl (by first | exact hC | exact andL hC | exact andL (andL hC) | exact andL (andL (andL hC)) | exact andR hC | simp_all) (Cert.lenM' (f := TSel.c) (s := a0) (Try.tab_ok _ _ rfl) rfl rfl rfl)) rfl ?_
 refine AOps.gC rfl rfl (fun hC => Cert.ungd (k := 11) rfl (by first | exact hC | exact andL hC | exact andL (andL hC) | exact andL (andL (andL hC)) | exact andR hC | simp_all) (Cert.binI rfl rfl rfl)) rfl ?_
 refine AOps.s0 (Cert.pickOr rfl rfl rfl (fun h => by first | exact h | exact notT h | exact andI hC h | exact andI hC (notT h) | simp_all)) rfl ?_
 refine AOps.s0 (Cert.move (by conv => lhs; whnf)) rfl ?_
 refine AOps.gC rfl rfl (fun hC => Cert.move (by conv => lhs; whnf)) rfl ?_
 refine AOps.gC rfl rfl (fun hC => Cert.ungd (k := 15) rfl (by first | exact hC | exact andL hC | exact andL (andL hC) | exact andL (andL (andL hC)) | exact andR hC | simp_all) (Cert.binI rfl rfl rfl)) rfl ?_
 refine AOps.s0 (Cert.pickOr rfl rfl rfl (fun h => by first | exact h | exact notT h | exact andI hC h | exact andI hC (notT h) | simp_all)) rfl ?_
 refine AOps.nil ?_
 refine hK3 _ ?_
 clear hK3 K3
 refine AWp.cond rfl (fun hc5 => ?_) (fun hc5 => ?_)
 ·have hE := condT hc5 hE
  try dsimp only at hc5
  refine AWp.seqK fun K6 hK6 => ?_
  refine AWp.region ?_
  refine AOps.s0 (Cert.assign (by conv => lhs; whnf)) rfl ?_
  refine AOps.nil ?_
  refine hK6 _ ?_
  clear hK6 K6
  refine AWp.ret ?_
  repeat (first | refine xBlock_ret ?_ | refine xThen_ret ?_)
  obtain rfl := Option.some.inj hE
  refine retQ.retF H rfl ⟨rfl, rfl⟩ ?_
  exact (fun _ _ h => h)
 ·have hE := condF hc5 hE
  try dsimp only at hc5
  refine AWp.skip ?_
  refine hK2 _ ?_
  clear hK2 K2
  refine AWp.seqJH KeepsT.nil (fun (z : Unit) => []) (fun z => H) (fun z => r08_selsRight_j7 a0 a1  = some r) ?_ ?_
  ·intro K7 hK7
   refine AWp.seqK fun K9 hK9 => ?_
   refine AWp.region ?_
   refine AOps.s0 (Cert.assign (by conv => lhs; whnf)) rfl ?_
   refine AOps.nil ?_
   refine hK9 _ ?_
   clear hK9 K9
   refine AWp.block ?_
   refine AWp.loopH (KeepsT.cons (k := 0) (by conv => lhs; whnf) (KeepsT.cons (k := 1) (by conv => lhs; whnf) KeepsT.nil)) (fun (z : Nat × Nat) => [(5, .a (.d (.int .i64 ((z.2 : Nat) : Int))))]) (fun z => H) (fun z => z.1) (fun z => r08_selsRight_l10 a0 a1 (r08_selRight_n n) z.1 z.2 = some r) ((a0.l.length + 1), 0) hE Weak.toA ?_
   rintro ⟨n10, s5_11⟩ hE K10 hK10
   try dsimp only at hE
   cases n10 with
   | zero => cases hE
   | succ n10 =>
     rw [r08_selsRight_l10] at hE
     refine AWp.seqK fun K12 hK12 => ?_
     refine AWp.seqK fun K13 hK13 => ?_
     refine AWp.region ?_
     refine AOps.s0 (Cert.move (by conv => lhs; whnf)) rfl ?_
     refine AOps.s0 (Cert.move (by conv => lhs; whnf)) rfl ?_
     refine AOps.sLen (f := TSel.c) (s := a0) (Try.tab_ok _ _ rfl) rfl rfl rfl rfl fun hL14 => ?_
     refine AOps.s0 (Cert.binI rfl rfl rfl) rfl ?_
     refine AOps.nil ?_
     refine hK13 _ ?_
     clear hK13 K13
     refine AWp.cond rfl (fun hc15 => ?_) (fun hc15 => ?_)
     ·have hE := condT hc15 hE
      try dsimp only at hc15
      have hf15 := of_decide_eq_true hc15
      refine AWp.skip ?_
      refine hK12 _ ?_
      clear hK12 K12
      refine AWp.seqK fun K16 hK16 => ?_
      refine AWp.block ?_
      refine AWp.seqK fun K17 hK17 => ?_
      refine AWp.region ?_
      refine AOps.s0 (Cert.move (by conv => lhs; whnf)) rfl ?_
      refine AOps.s0 (Cert.move (by conv => lhs; whnf)) rfl ?_
      obtain ⟨x18, gx18, hE⟩ := bindO_some hE
      refine AOps.s0 (Cert.idxMn (f := TSel.c) (n := s5_11) (Try.tab_ok _ _ rfl) rfl (Try.tab_ok _ _ rfl) rfl rfl rfl gx18) rfl ?_
      refine AOps.s0 (Cert.loadV (Try.tab_ok _ _ rfl) rfl rfl rfl) rfl ?_
      refine AOps.s0 (Cert.move (by conv => lhs; whnf)) rfl ?_
      obtain ⟨x19, gx19, hE⟩ := bindO_some hE
      refine AOps.s0 (Cert.callP rfl rfl (fun H => ih_57 gx19 H)) rfl ?_
      refine AOps.s0 (Cert.notB rfl) rfl ?_
      refine AOps.nil ?_
      refine hK17 _ ?_
      clear hK17 K17
      refine AWp.cond rfl (fun hc20 => ?_) (fun hc20 => ?_)
      ·have hE := condT hc20 hE
       try dsimp only at hc20
       refine AWp.seqK fun K21 hK21 => ?_
       refine AWp.region ?_
       refine AOps.s0 (Cert.assign (by conv => lhs; whnf)) rfl ?_
       refine AOps.nil ?_
       refine hK21 _ ?_
       clear hK21 K21
       refine AWp.ret ?_
       repeat (first | refine xBlock_ret ?_ | refine xThen_ret ?_)
       obtain rfl := Option.some.inj hE
       refine retQ.retF H rfl ⟨rfl, rfl⟩ ?_
       exact (fun _ _ h => h)
      ·have hE := condF hc20 hE
       try dsimp only at hc20
       refine AWp.skip ?_
       refine hK16 _ ?_
       clear hK16 K16
       refine AWp.region ?_
       refine AOps.s0 (Cert.move (by conv => lhs; whnf)) rfl ?_
       refine AOps.s0 (Cert.addI rfl rfl (by first | omega | (dsimp only; omega)) (by first | omega | (dsimp only; omega))) rfl ?_
       refine AOps.s0 (Cert.assign (by conv => lhs; whnf)) rfl ?_
       refine AOps.nil ?_
       exact hK10 _ (n10, (s5_11 + 1)) Weak.toA hE (Nat.lt_succ_self _)
     ·have hE := condF hc15 hE
      try dsimp only at hc15
      refine AWp.exit ?_
      exact hK7 _ () Weak.toA hE
  ·rintro _ hE
   try dsimp only at hE
   unfold r08_selsRight_j7 at hE
   refine AWp.seqK fun K8 hK8 => ?_
   refine AWp.region ?_
   refine AOps.s0 (Cert.assign (by conv => lhs; whnf)) rfl ?_
   refine AOps.nil ?_
   refine hK8 _ ?_
   clear hK8 K8
   refine AWp.ret ?_
   repeat (first | refine xBlock_ret ?_ | refine xThen_ret ?_)
   obtain rfl := Option.some.inj hE
   refine retQ.retF H rfl ⟨rfl, rfl⟩ ?_
   exact (fun _ _ h => h)
set_option maxRecDepth 100000 in
set_option maxHeartbeats 2000000 in
theorem r08_selRight_step (n : Nat) (ih_43 : ∀ {a0 : (Sl TSel)} {a1 : Int} {w0 : Option Nat}  {r : Bool}, r08_selsRight_n n a0 a1 = some r → ∀ (H : Heap), ACalls Try.prog 43 [.d (Sl.d 7 TSel.c w0 a0), .d (.int .i64 a1)] H fun v h' => v = .a (.d (.bool r)) ∧ h' = H) (ih_57 : ∀ {a0 : TSel} {a1 : Int}   {r : Bool}, r08_selRight_n n a0 a1 = some r → ∀ (H : Heap), ACalls Try.prog 57 [.agg (TSel.c a0), .d (.int .i64 a1)] H fun v h' => v = .a (.d (.bool r)) ∧ h' = H) : ∀ {a0 : TSel} {a1 : Int}   {r : Bool}, r08_selRight_n (n + 1) a0 a1 = some r → ∀ (H : Heap), ACalls Try.prog 57 [.agg (TSel.c a0), .d (.int .i64 a1)] H fun v h' => v = .a (.d (.bool r)) ∧ h' = H := by
 intro a0 a1   r hE H 
 rw [r08_selRight_n] at hE
 refine ACalls.of_wp (fn := Try.f57) (c := _) Try.tab_ok (fun _ _ => Try.call57 _ _) Try.func57 rfl (n := 110) rfl (rs := [.tmp 4]) rfl rfl ?_
 refine AWp.seqK fun K1 hK1 => ?_
 refine AWp.region ?_
 refine AOps.s0 (Cert.boxV rfl) rfl ?_
 refine AOps.s0 (Cert.assign (by conv => lhs; whnf)) rfl ?_
 refine AOps.nil ?_
 refine hK1 _ ?_
 clear hK1 K1
 refine AWp.seqK fun K2 hK2 => ?_
 refine AWp.seqK fun K3 hK3 => ?_
 refine AWp.region ?_
 refine AOps.s0 (Cert.fieldV (Try.tab_ok _ _ rfl) rfl rfl (Try.tab_ok _ _ rfl) rfl rfl (by conv => lhs; whnf)) rfl ?_
 refine AOps.s0 (Cert.loadV (Try.tab_ok _ _ rfl) rfl rfl rfl) rfl ?_
 obtain ⟨x4, gx4, hE⟩ := bindO_some hE
 refine AOps.s0 (Cert.callP rfl rfl (fun H => r08_dirsRight_walk gx4 H)) rfl ?_
 refine AOps.s0 (Cert.notB rfl) rfl ?_
 refine AOps.s0 (Cert.move (by conv => lhs; whnf)) rfl ?_
 refine AOps.gC rfl rfl (fun hC => Cert.fieldV (Try.tab_ok _ _ rfl) rfl rfl (Try.tab_ok _ _ rfl) rfl rfl (by conv => lhs; whnf)) rfl ?_
 refine AOps.gC rfl rfl (fun hC => Cert.ungd (k := 10) rfl (by first | exact hC | exact andL hC | exact andL (andL hC) | exact andL (andL (andL hC)) | exact andR hC | simp_all) (Cert.loadV (Try.tab_ok _ _ rfl) rfl rfl rfl)) rfl ?_
 obtain ⟨x5, gx5, hE⟩ := guardO_some hE
 refine AOps.gC rfl rfl (fun hC => Cert.ungd (k := 11) rfl (by first | exact hC | exact andL hC | exact andL (andL hC) | exact andL (andL (andL hC)) | exact andR hC | simp_all) (Cert.callP rfl rfl (fun H => r08_argsRight_walk (gx5 hC) H))) rfl ?_
 refine AOps.gC rfl rfl (fun hC => Cert.ungd (k := 12) rfl (by first | exact hC | exact andL hC | exact andL (andL hC) | exact andL (andL (andL hC)) | exact andR hC | simp_all) (Cert.notB rfl)) rfl ?_
 refine AOps.s0 (Cert.pickOr rfl rfl rfl (fun h => by first | exact h | exact notT h | exact andI hC h | exact andI hC (notT h) | simp_all)) rfl ?_
 refine AOps.nil ?_
 refine hK3 _ ?_
 clear hK3 K3
 refine AWp.cond rfl (fun hc6 => ?_) (fun hc6 => ?_)
 ·have hE := condT hc6 hE
  try dsimp only at hc6
  refine AWp.seqK fun K7 hK7 => ?_
  refine AWp.region ?_
  refine AOps.s0 (Cert.assign (by conv => lhs; whnf)) rfl ?_
  refine AOps.nil ?_
  refine hK7 _ ?_
  clear hK7 K7
  refine AWp.ret ?_
  repeat (first | refine xBlock_ret ?_ | refine xThen_ret ?_)
  obtain rfl := Option.some.inj hE
  refine retQ.retF H rfl ⟨rfl, rfl⟩ ?_
  exact (fun _ _ h => h)
 ·have hE := condF hc6 hE
  try dsimp only at hc6
  refine AWp.skip ?_
  refine hK2 _ ?_
  clear hK2 K2
  refine AWp.seqK fun K8 hK8 => ?_
  refine AWp.seqK fun K9 hK9 => ?_
  refine AWp.region ?_
  refine AOps.s0 (Cert.fieldV (Try.tab_ok _ _ rfl) rfl rfl (Try.tab_ok _ _ rfl) rfl rfl (by conv => lhs; whnf)) rfl ?_
  refine AOps.s0 (Cert.loadV (Try.tab_ok _ _ rfl) rfl rfl rfl) rfl ?_
  refine AOps.nil ?_
  refine hK9 _ ?_
  clear hK9 K9
  refine AWp.block ?_
  refine AWp.seqK fun K10 hK10 => ?_
  refine AWp.region ?_
  refine AOps.s0 (Cert.binI rfl rfl rfl) rfl ?_
  refine AOps.s0 (Cert.assign (by conv => lhs; whnf)) rfl ?_
  refine AOps.nil ?_
  refine hK10 _ ?_
  clear hK10 K10
  refine AWp.cond rfl (fun hc11 => ?_) (fun hc11 => ?_)
  ·have hE := condT hc11 hE
   try dsimp only at hc11
   refine AWp.seqK fun K12 hK12 => ?_
   refine AWp.region ?_
   refine AOps.s0 (Cert.fieldV (Try.tab_ok _ _ rfl) rfl rfl (Try.tab_ok _ _ rfl) rfl rfl (by conv => lhs; whnf)) rfl ?_
   refine AOps.s0 (Cert.loadV (Try.tab_ok _ _ rfl) rfl rfl rfl) rfl ?_
   obtain ⟨x13, gx13, hE⟩ := bindO_some hE
   refine AOps.s0 (Cert.callP rfl rfl (fun H => r01_Name_walk gx13 H)) rfl ?_
   refine AOps.s0 (Cert.move (by conv => lhs; whnf)) rfl ?_
   refine AOps.gC rfl rfl (fun hC => Cert.fieldV (Try.tab_ok _ _ rfl) rfl rfl (Try.tab_ok _ _ rfl) rfl rfl (by conv => lhs; whnf)) rfl ?_
   refine AOps.gC rfl rfl (fun hC => Cert.ungd (k := 23) rfl (by first | exact hC | exact andL hC | exact andL (andL hC) | exact andL (andL (andL hC)) | exact andR hC | simp_all) (Cert.loadV (Try.tab_ok _ _ rfl) rfl rfl rfl)) rfl ?_
   refine AOps.gC rfl rfl (fun hC => Cert.ungd (k := 24) rfl (by first | exact hC | exact andL hC | exact andL (andL hC) | exact andL (andL (andL hC)) | exact andR hC | simp_all) (Cert.binS rfl rfl rfl)) rfl ?_
   refine AOps.gC rfl rfl (fun hC => Cert.ungd (k := 25) rfl (by first | exact hC | exact andL hC | exact andL (andL hC) | exact andL (andL (andL hC)) | exact andR hC | simp_all) (Cert.move (by conv => lhs; whnf))) rfl ?_
   refine AOps.gC rfl rfl (fun hC => Cert.fieldV (Try.tab_ok _ _ rfl) rfl rfl (Try.tab_ok _ _ rfl) rfl rfl (by conv => lhs; whnf)) rfl ?_
   refine AOps.gC rfl rfl (fun hC => Cert.ungd (k := 27) rfl (by first | exact hC | exact andL hC | exact andL (andL hC) | exact andL (andL (andL hC)) | exact andR hC | simp_all) (Cert.loadV (Try.tab_ok _ _ rfl) rfl rfl rfl)) rfl ?_
   obtain ⟨x14, gx14, hE⟩ := guardO_some hE
   refine AOps.gC rfl rfl (fun hC => Cert.ungd (k := 28) rfl (by first | exact hC | exact andL hC | exact andL (andL hC) | exact andL (andL (andL hC)) | exact andR hC | simp_all) (Cert.callP rfl rfl (fun H => r01_Name_walk (gx14 hC) H))) rfl ?_
   refine AOps.gC rfl rfl (fun hC => Cert.ungd (k := 26) rfl (by first | exact hC | exact andL hC | exact andL (andL hC) | exact andL (andL (andL hC)) | exact andR hC | simp_all) (Cert.pickOr rfl rfl rfl (fun h => by first | exact h | exact notT h | exact andI hC h | exact andI hC (notT h) | simp_all))) rfl ?_
   refine AOps.s0 (Cert.pickAnd rfl rfl (fun h => by first | exact h | exact notT h | exact andI hC h | exact andI hC (notT h) | simp_all) rfl) rfl ?_
   refine AOps.s0 (Cert.move (by conv => lhs; whnf)) rfl ?_
   refine AOps.gC rfl rfl (fun hC => Cert.fieldV (Try.tab_ok _ _ rfl) rfl rfl (Try.tab_ok _ _ rfl) rfl rfl (by conv => lhs; whnf)) rfl ?_
   refine AOps.gC rfl rfl (fun hC => Cert.ungd (k := 33) rfl (by first | exact hC | exact andL hC | exact andL (andL hC) | exact andL (andL (andL hC)) | exact andR hC | simp_all) (Cert.loadV (Try.tab_ok _ _ rfl) rfl rfl rfl)) rfl ?_
   refine AOps.gC rfl rfl (fun hC => Cert.ungd (k := 34) rfl (by first | exact hC | exact andL hC | exact andL (andL hC) | exact andL (andL (andL hC)) | exact andR hC | simp_all) (Cert.binS rfl rfl rfl)) rfl ?_
   refine AOps.s0 (Cert.pickAnd rfl rfl (fun h => by first | exact h | exact notT h | exact andI hC h | exact andI hC (notT h) | simp_all) rfl) rfl ?_
   refine AOps.s0 (Cert.move (by conv => lhs; whnf)) rfl ?_
   refine AOps.gC rfl rfl (fun hC => Cert.fieldV (Try.tab_ok _ _ rfl) rfl rfl (Try.tab_ok _ _ rfl) rfl rfl (by conv => lhs; whnf)) rfl ?_
   refine AOps.gC rfl rfl (fun hC => Cert.ungd (k := 38) rfl (by first | exact hC | exact andL hC | exact andL (andL hC) | exact andL (andL (andL hC)) | exact andR hC | simp_all) (Cert.loadV (Try.tab_ok _ _ rfl) rfl rfl (congrArg (fun x => some (A.d x)) (TSel.FSelsD_eq _)))) rfl ?_
   refine AOps.gC rfl rfl (fun hC => Cert.ungd (k := 39) rfl (by first | exact hC | exact andL hC | exact andL (andL hC) | exact andL (andL (andL hC)) | exact andR hC | simp_all) (Cert.lenM' (f := TSel.c) (s := a0.FSels) (Try.tab_ok _ _ rfl) rfl rfl rfl)) rfl ?_
   refine AOps.gC rfl rfl (fun hC => Cert.ungd (k := 40) rfl (by first | exact hC | exact andL hC | exact andL (andL hC) | exact andL (andL (andL hC)) | exact andR hC | simp_all) (Cert.binI rfl rfl rfl)) rfl ?_
   refine AOps.gC rfl rfl (fun hC => Cert.ungd (k := 41) rfl (by first | exact hC | exact andL hC | exact andL (andL hC) | exact andL (andL (andL hC)) | exact andR hC | simp_all) (Cert.move (by conv => lhs; whnf))) rfl ?_
   refine AOps.gC rfl rfl (fun hC => Cert.fieldV (Try.tab_ok _ _ rfl) rfl rfl (Try.tab_ok _ _ rfl) rfl rfl (by conv => lhs; whnf)) rfl ?_
   refine AOps.gC rfl rfl (fun hC => Cert.ungd (k := 43) rfl (by first | exact hC | exact andL hC | exact andL (andL hC) | exact andL (andL (andL hC)) | exact andR hC | simp_all) (Cert.loadV (Try.tab_ok _ _ rfl) rfl rfl (congrArg (fun x => some (A.d x)) (TSel.FSelsD_eq _)))) rfl ?_
   refine AOps.gC rfl rfl (fun hC => Cert.move (by conv => lhs; whnf)) rfl ?_
   obtain ⟨x15, gx15, hE⟩ := guardO_some hE
   refine AOps.gC rfl rfl (fun hC => Cert.ungd (k := 45) rfl (by first | exact hC | exact andL hC | exact andL (andL hC) | exact andL (andL (andL hC)) | exact andR hC | simp_all) (Cert.addM rfl rfl (gx15 hC))) rfl ?_
   obtain ⟨x16, gx16, hE⟩ := guardO_some hE
   refine AOps.gC rfl rfl (fun hC => Cert.ungd (k := 44) rfl (by first | exact hC | exact andL hC | exact andL (andL hC) | exact andL (andL (andL hC)) | exact andR hC | simp_all) (Cert.ungd (k := 46) rfl (by first | exact hC | exact andL hC | exact andL (andL hC) | exact andL (andL (andL hC)) | exact andR hC | simp_all) (Cert.callP rfl rfl (fun H => ih_43 (gx16 hC) H)))) rfl ?_
   refine AOps.gC rfl rfl (fun hC => Cert.ungd (k := 42) rfl (by first | exact hC | exact andL hC | exact andL (andL hC) | exact andL (andL (andL hC)) | exact andR hC | simp_all) (Cert.pickOr rfl rfl rfl (fun h => by first | exact h | exact notT h | exact andI hC h | exact andI hC (notT h) | simp_all))) rfl ?_
   refine AOps.s0 (Cert.pickAnd rfl rfl (fun h => by first | exact h | exact notT h | exact andI hC h | exact andI hC (notT h) | simp_all) rfl) rfl ?_
   refine AOps.s0 (Cert.assign (by conv => lhs; whnf)) rfl ?_
   refine AOps.nil ?_
   refine hK12 _ ?_
   clear hK12 K12
   refine AWp.ret ?_
   repeat (first | refine xBlock_ret ?_ | refine xThen_ret ?_)
   obtain rfl := Option.some.inj hE
   refine retQ.retF H rfl ⟨rfl, rfl⟩ ?_
   exact (fun _ _ h => h)
  ·have hE := condF hc11 hE
   try dsimp only at hc11
   refine AWp.seqK fun K17 hK17 => ?_
   refine AWp.region ?_
   refine AOps.s0 (Cert.binI rfl rfl rfl) rfl ?_
   refine AOps.s0 (Cert.assign (by conv => lhs; whnf)) rfl ?_
   refine AOps.nil ?_
   refine hK17 _ ?_
   clear hK17 K17
   refine AWp.cond rfl (fun hc18 => ?_) (fun hc18 => ?_)
   ·have hE := condT hc18 hE
    try dsimp only at hc18
    refine AWp.seqK fun K19 hK19 => ?_
    refine AWp.region ?_
    refine AOps.s0 (Cert.fieldV (Try.tab_ok _ _ rfl) rfl rfl (Try.tab_ok _ _ rfl) rfl rfl (by conv => lhs; whnf)) rfl ?_
    refine AOps.s0 (Cert.loadV (Try.tab_ok _ _ rfl) rfl rfl rfl) rfl ?_
    obtain ⟨x20, gx20, hE⟩ := bindO_some hE
    refine AOps.s0 (Cert.callP rfl rfl (fun H => r08_title_walk gx20 H)) rfl ?_
    refine AOps.s0 (Cert.move (by conv => lhs; whnf)) rfl ?_
    refine AOps.gC rfl rfl (fun hC => Cert.fieldV (Try.tab_ok _ _ rfl) rfl rfl (Try.tab_ok _ _ rfl) rfl rfl (by conv => lhs; whnf)) rfl ?_
    refine AOps.gC rfl rfl (fun hC => Cert.ungd (k := 56) rfl (by first | exact hC | exact andL hC | exact andL (andL hC) | exact andL (andL (andL hC)) | exact andR hC | simp_all) (Cert.loadV (Try.tab_ok _ _ rfl) rfl rfl rfl)) rfl ?_
    refine AOps.gC rfl rfl (fun hC => Cert.ungd (k := 57) rfl (by first | exact hC | exact andL hC | exact andL (andL hC) | exact andL (andL (andL hC)) | exact andR hC | simp_all) (Cert.binS rfl rfl rfl)) rfl ?_
    refine AOps.s0 (Cert.pickAnd rfl rfl (fun h => by first | exact h | exact notT h | exact andI hC h | exact andI hC (notT h) | simp_all) rfl) rfl ?_
    refine AOps.s0 (Cert.move (by conv => lhs; whnf)) rfl ?_
    refine AOps.gC rfl rfl (fun hC => Cert.fieldV (Try.tab_ok _ _ rfl) rfl rfl (Try.tab_ok _ _ rfl) rfl rfl (by conv => lhs; whnf)) rfl ?_
    refine AOps.gC rfl rfl (fun hC => Cert.ungd (k := 61) rfl (by first | exact hC | exact andL hC | exact andL (andL hC) | exact andL (andL (andL hC)) | exact andR hC | simp_all) (Cert.loadV (Try.tab_ok _ _ rfl) rfl rfl rfl)) rfl ?_
    refine AOps.gC rfl rfl (fun hC => Cert.ungd (k := 62) rfl (by first | exact hC | exact andL hC | exact andL (andL hC) | exact andL (andL (andL hC)) | exact andR hC | simp_all) (Cert.binS rfl rfl rfl)) rfl ?_
    refine AOps.s0 (Cert.pickAnd rfl rfl (fun h => by first | exact h | exact notT h | exact andI hC h | exact andI hC (notT h) | simp_all) rfl) rfl ?_
    refine AOps.s0 (Cert.move (by conv => lhs; whnf)) rfl ?_
    refine AOps.gC rfl rfl (fun hC => Cert.fieldV (Try.tab_ok _ _ rfl) rfl rfl (Try.tab_ok _ _ rfl) rfl rfl (by conv => lhs; whnf)) rfl ?_
    refine AOps.gC rfl rfl (fun hC => Cert.ungd (k := 66) rfl (by first | exact hC | exact andL hC | exact andL (andL hC) | exact andL (andL (andL hC)) | exact andR hC | simp_all) (Cert.loadV (Try.tab_ok _ _ rfl) rfl rfl rfl)) rfl ?_
    refine AOps.gC rfl rfl (fun hC => Cert.ungd (k := 67) rfl (by first | exact hC | exact andL hC | exact andL (andL hC) | exact andL (andL (andL hC)) | exact andR hC | simp_all) (Cert.lenM' (f := TArg.c) (s := a0.FArgs) (Try.tab_ok _ _ rfl) rfl rfl rfl)) rfl ?_
    refine AOps.gC rfl rfl (fun hC => Cert.ungd (k := 68) rfl (by first | exact hC | exact andL hC | exact andL (andL hC) | exact andL (andL (andL hC)) | exact andR hC | simp_all) (Cert.binI rfl rfl rfl)) rfl ?_
    refine AOps.s0 (Cert.pickAnd rfl rfl (fun h => by first | exact h | exact notT h | exact andI hC h | exact andI hC (notT h) | simp_all) rfl) rfl ?_
    refine AOps.s0 (Cert.move (by conv => lhs; whnf)) rfl ?_
    refine AOps.gC rfl rfl (fun hC => Cert.fieldV (Try.tab_ok _ _ rfl) rfl rfl (Try.tab_ok _ _ rfl) rfl rfl (by conv => lhs; whnf)) rfl ?_
    refine AOps.gC rfl rfl (fun hC => Cert.ungd (k := 72) rfl (by first | exact hC | exact andL hC | exact andL (andL hC) | exact andL (andL (andL hC)) | exact andR hC | simp_all) (Cert.loadV (Try.tab_ok _ _ rfl) rfl rfl (congrArg (fun x => some (A.d x)) (TSel.FSelsD_eq _)))) rfl ?_
    refine AOps.gC rfl rfl (fun hC => Cert.ungd (k := 73) rfl (by first | exact hC | exact andL hC | exact andL (andL hC) | exact andL (andL (andL hC)) | exact andR hC | simp_all) (Cert.lenM' (f := TSel.c) (s := a0.FSels) (Try.tab_ok _ _ rfl) rfl rfl rfl)) rfl ?_
    refine AOps.gC rfl rfl (fun hC => Cert.ungd (k := 74) rfl (by first | exact hC | exact andL hC | exact andL (andL hC) | exact andL (andL (andL hC)) | exact andR hC | simp_all) (Cert.binI rfl rfl rfl)) rfl ?_
    refine AOps.s0 (Cert.pickAnd rfl rfl (fun h => by first | exact h | exact notT h | exact andI hC h | exact andI hC (notT h) | simp_all) rfl) rfl ?_
    refine AOps.s0 (Cert.assign (by conv => lhs; whnf)) rfl ?_
    refine AOps.nil ?_
    refine hK19 _ ?_
    clear hK19 K19
    refine AWp.ret ?_
    repeat (first | refine xBlock_ret ?_ | refine xThen_ret ?_)
    obtain rfl := Option.some.inj hE
    refine retQ.retF H rfl ⟨rfl, rfl⟩ ?_
    exact (fun _ _ h => h)
   ·have hE := condF hc18 hE
    try dsimp only at hc18
    refine AWp.seqK fun K21 hK21 => ?_
    refine AWp.region ?_
    refine AOps.s0 (Cert.binI rfl rfl rfl) rfl ?_
    refine AOps.s0 (Cert.assign (by conv => lhs; whnf)) rfl ?_
    refine AOps.nil ?_
    refine hK21 _ ?_
    clear hK21 K21
    refine AWp.cond rfl (fun hc22 => ?_) (fun hc22 => ?_)
    ·have hE := condT hc22 hE
     try dsimp only at hc22
     refine AWp.seqK fun K23 hK23 => ?_
     refine AWp.region ?_
     refine AOps.s0 (Cert.fieldV (Try.tab_ok _ _ rfl) rfl rfl (Try.tab_ok _ _ rfl) rfl rfl (by conv => lhs; whnf)) rfl ?_
     refine AOps.s0 (Cert.loadV (Try.tab_ok _ _ rfl) rfl rfl rfl) rfl ?_
     refine AOps.s0 (Cert.binS rfl rfl rfl) rfl ?_
     refine AOps.s0 (Cert.move (by conv => lhs; whnf)) rfl ?_
     refine AOps.gC rfl rfl (fun hC => Cert.fieldV (Try.tab_ok _ _ rfl) rfl rfl (Try.tab_ok _ _ rfl) rfl rfl (by conv => lhs; whnf)) rfl ?_
     refine AOps.gC rfl rfl (fun hC => Cert.ungd (k := 83) rfl (by first | exact hC | exact andL hC | exact andL (andL hC) | exact andL (andL (andL hC)) | exact andR hC | simp_all) (Cert.loadV (Try.tab_ok _ _ rfl) rfl rfl rfl)) rfl ?_
     refine AOps.gC rfl rfl (fun hC => Cert.ungd (k := 84) rfl (by first | exact hC | exact andL hC | exact andL (andL hC) | exact andL (andL (andL hC)) | exact andR hC | simp_all) (Cert.binS rfl rfl rfl)) rfl ?_
     refine AOps.s0 (Cert.pickAnd rfl rfl (fun h => by first | exact h | exact notT h | exact andI hC h | exact andI hC (notT h) | simp_all) rfl) rfl ?_
     refine AOps.s0 (Cert.move (by conv => lhs; whnf)) rfl ?_
     refine AOps.gC rfl rfl (fun hC => Cert.fieldV (Try.tab_ok _ _ rfl) rfl rfl (Try.tab_ok _ _ rfl) rfl rfl (by conv => lhs; whnf)) rfl ?_
     refine AOps.gC rfl rfl (fun hC => Cert.ungd (k := 88) rfl (by first | exact hC | exact andL hC | exact andL (andL hC) | exact andL (andL (andL hC)) | exact andR hC | simp_all) (Cert.loadV (Try.tab_ok _ _ rfl) rfl rfl rfl)) rfl ?_
     refine AOps.gC rfl rfl (fun hC => Cert.ungd (k := 89) rfl (by first | exact hC | exact andL hC | exact andL (andL hC) | exact andL (andL (andL hC)) | exact andR hC | simp_all) (Cert.binS rfl rfl rfl)) rfl ?_
     refine AOps.gC rfl rfl (fun hC => Cert.ungd (k := 90) rfl (by first | exact hC | exact andL hC | exact andL (andL hC) | exact andL (andL (andL hC)) | exact andR hC | simp_all) (Cert.move (by conv => lhs; whnf))) rfl ?_
     refine AOps.gC rfl rfl (fun hC => Cert.fieldV (Try.tab_ok _ _ rfl) rfl rfl (Try.tab_ok _ _ rfl) rfl rfl (by conv => lhs; whnf)) rfl ?_
     refine AOps.gC rfl rfl (fun hC => Cert.ungd (k := 92) rfl (by first | exact hC | exact andL hC | exact andL (andL hC) | exact andL (andL (andL hC)) | exact andR hC | simp_all) (Cert.loadV (Try.tab_ok _ _ rfl) rfl rfl rfl)) rfl ?_
     obtain ⟨x24, gx24, hE⟩ := guardO_some hE
     refine AOps.gC rfl rfl (fun hC => Cert.ungd (k := 93) rfl (by first | exact hC | exact andL hC | exact andL (andL hC) | exact andL (andL (andL hC)) | exact andR hC | simp_all) (Cert.callP rfl rfl (fun H => r01_Name_walk (gx24 hC) H))) rfl ?_
     refine AOps.gC rfl rfl (fun hC => Cert.ungd (k := 91) rfl (by first | exact hC | exact andL hC | exact andL (andL hC) | exact andL (andL (andL hC)) | exact andR hC | simp_all) (Cert.pickOr rfl rfl rfl (fun h => by first | exact h | exact notT h | exact andI hC h | exact andI hC (notT h) | simp_all))) rfl ?_
     refine AOps.s0 (Cert.pickAnd rfl rfl (fun h => by first | exact h | exact notT h | exact andI hC h | exact andI hC (notT h) | simp_all) rfl) rfl ?_
     refine AOps.s0 (Cert.move (by conv => lhs; whnf)) rfl ?_
     refine AOps.gC rfl rfl (fun hC => Cert.fieldV (Try.tab_ok _ _ rfl) rfl rfl (Try.tab_ok _ _ rfl) rfl rfl (by conv => lhs; whnf)) rfl ?_
     refine AOps.gC rfl rfl (fun hC => Cert.ungd (k := 98) rfl (by first | exact hC | exact andL hC | exact andL (andL hC) | exact andL (andL (andL hC)) | exact andR hC | simp_all) (Cert.loadV (Try.tab_ok _ _ rfl) rfl rfl rfl)) rfl ?_
     refine AOps.gC rfl rfl (fun hC => Cert.ungd (k := 99) rfl (by first | exact hC | exact andL hC | exact andL (andL hC) | exact andL (andL (andL hC)) | exact andR hC | simp_all) (Cert.lenM' (f := TArg.c) (s := a0.FArgs) (Try.tab_ok _ _ rfl) rfl rfl rfl)) rfl ?_
     refine AOps.gC rfl rfl (fun hC => Cert.ungd (k := 100) rfl (by first | exact hC | exact andL hC | exact andL (andL hC) | exact andL (andL (andL hC)) | exact andR hC | simp_all) (Cert.binI rfl rfl rfl)) rfl ?_
     refine AOps.s0 (Cert.pickAnd rfl rfl (fun h => by first | exact h | exact notT h | exact andI hC h | exact andI hC (notT h) | simp_all) rfl) rfl ?_
     refine AOps.s0 (Cert.move (by conv => lhs; whnf)) rfl ?_
     refine AOps.gC rfl rfl (fun hC => Cert.fieldV (Try.tab_ok _ _ rfl) rfl rfl (Try.tab_ok _ _ rfl) rfl rfl (by conv => lhs; whnf)) rfl ?_
     refine AOps.gC rfl rfl (fun hC => Cert.ungd (k := 104) rfl (by first | exact hC | exact andL hC | exact andL (andL hC) | exact andL (andL (andL hC)) | exact andR hC | simp_all) (Cert.loadV (Try.tab_ok _ _ rfl) rfl rfl (congrArg (fun x => some (A.d x)) (TSel.FSelsD_eq _)))) rfl ?_
     refine AOps.gC rfl rfl (fun hC => Cert.move (by conv => lhs; whnf)) rfl ?_
     obtain ⟨x25, gx25, hE⟩ := guardO_some hE
     refine AOps.gC rfl rfl (fun hC => Cert.ungd (k := 106) rfl (by first | exact hC | exact andL hC | exact andL (andL hC) | exact andL (andL (andL hC)) | exact andR hC | simp_all) (Cert.addM rfl rfl (gx25 hC))) rfl ?_
     obtain ⟨x26, gx26, hE⟩ := guardO_some hE
     refine AOps.gC rfl rfl (fun hC => Cert.ungd (k := 105) rfl (by first | exact hC | exact andL hC | exact andL (andL hC) | exact andL (andL (andL hC)) | exact andR hC | simp_all) (Cert.ungd (k := 107) rfl (by first | exact hC | exact andL hC | exact andL (andL hC) | exact andL (andL (andL hC)) | exact andR hC | simp_all) (Cert.callP rfl rfl (fun H => ih_43 (gx26 hC) H)))) rfl ?_
     refine AOps.s0 (Cert.pickAnd rfl rfl (fun h => by first | exact h | exact notT h | exact andI hC h | exact andI hC (notT h) | simp_all) rfl) rfl ?_
     refine AOps.s0 (Cert.assign (by conv => lhs; whnf)) rfl ?_
     refine AOps.nil ?_
     refine hK23 _ ?_
     clear hK23 K23
     refine AWp.ret ?_
     repeat (first | refine xBlock_ret ?_ | refine xThen_ret ?_)
     obtain rfl := Option.some.inj hE
     refine retQ.retF H rfl ⟨rfl, rfl⟩ ?_
     exact (fun _ _ h => h)
    ·have hE := condF hc22 hE
     try dsimp only at hc22
     refine AWp.skip ?_
     refine hK8 _ ?_
     clear hK8 K8
     refine AWp.seqK fun K27 hK27 => ?_
     refine AWp.region ?_
     refine AOps.s0 (Cert.assign (by conv => lhs; whnf)) rfl ?_
     refine AOps.nil ?_
     refine hK27 _ ?_
     clear hK27 K27
     refine AWp.ret ?_
     repeat (first | refine xBlock_ret ?_ | refine xThen_ret ?_)
     obtain rfl := Option.some.inj hE
     refine retQ.retF H rfl ⟨rfl, rfl⟩ ?_
     exact (fun _ _ h => h)
theorem r08_selsRight_all : ∀ (n : Nat), (∀ {a0 : (Sl TSel)} {a1 : Int} {w0 : Option Nat}  {r : Bool}, r08_selsRight_n n a0 a1 = some r → ∀ (H : Heap), ACalls Try.prog 43 [.d (Sl.d 7 TSel.c w0 a0), .d (.int .i64 a1)] H fun v h' => v = .a (.d (.bool r)) ∧ h' = H) ∧ (∀ {a0 : TSel} {a1 : Int}   {r : Bool}, r08_selRight_n n a0 a1 = some r → ∀ (H : Heap), ACalls Try.prog 57 [.agg (TSel.c a0), .d (.int .i64 a1)] H fun v h' => v = .a (.d (.bool r)) ∧ h' = H)
 | 0 => ⟨fun hE => by first | cases hE | (rw [r08_selsRight_n] at hE; cases hE), fun hE => by first | cases hE | (rw [r08_selRight_n] at hE; cases hE)⟩
 | n + 1 => ⟨r08_selsRight_step n (r08_selsRight_all n).1 (r08_selsRight_all n).2, r08_selRight_step n (r08_selsRight_all n).1 (r08_selsRight_all n).2⟩
def r08_selsRight (a0 : (Sl TSel)) (a1 : Int) : Option Bool := r08_selsRight_n F0 a0 a1
theorem r08_selsRight_walk {a0 : (Sl TSel)} {a1 : Int} {w0 : Option Nat}  {r : Bool} (hE : r08_selsRight a0 a1 = some r) (H : Heap)  : ACalls Try.prog 43 [.d (Sl.d 7 TSel.c w0 a0), .d (.int .i64 a1)] H fun v h' => v = .a (.d (.bool r)) ∧ h' = H := (r08_selsRight_all F0).1 hE H 
def r08_selRight (a0 : TSel) (a1 : Int) : Option Bool := r08_selRight_n F0 a0 a1
theorem r08_selRight_walk {a0 : TSel} {a1 : Int}   {r : Bool} (hE : r08_selRight a0 a1 = some r) (H : Heap)  : ACalls Try.prog 57 [.agg (TSel.c a0), .d (.int .i64 a1)] H fun v h' => v = .a (.d (.bool r)) ∧ h' = H := (r08_selsRight_all F0).2 hE H 
end Go.Proofs
