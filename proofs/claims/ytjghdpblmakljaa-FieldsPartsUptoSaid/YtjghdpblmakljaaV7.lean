import Derived.Test.YtjghdpblmakljaaV6
set_option linter.unusedVariables false
set_option linter.unusedSimpArgs false
namespace Go.Proofs
open Go Go.Ab
def r08_Right_j11 (a0 : TQuery) (x5 : Int)   : Option Bool := some true
def r08_Right_l14 (a0 : TQuery) (x5 : Int)  : Nat → Nat → Option Bool
 | 0, _ => none
 | n14 + 1, s6_15 => bif (decide (((s6_15 : Nat) : Int) < ((a0.FFrags.l.length : Nat) : Int))) then ((a0.FFrags.l[s6_15]?).bind fun x22 => (r08_title x22.FName).bind fun x24 => guardO (!(!x24)) (r01_Name x22.FOn) false fun x25 => guardO (!((!x24) || (!x25))) (r08_selsRight x22.FSels (1 : Int)) false fun x26 => bif (((!x24) || (!x25)) || (!x26)) then (some false) else ((r08_Right_l14 a0 x5 n14) (s6_15 + 1))) else (r08_Right_j11 a0 x5  )
def r08_Right_j10 (a0 : TQuery) (x5 : Int)   : Option Bool := r08_Right_l14 a0 x5 (a0.FFrags.l.length + 1) 0
def r08_Right_l30 (a0 : TQuery) (x5 : Int)  : Nat → Nat → Option Bool
 | 0, _ => none
 | n30 + 1, s4_31 => bif (decide (((s4_31 : Nat) : Int) < ((a0.FOps.l.length : Nat) : Int))) then ((a0.FOps.l[s4_31]?).bind fun x38 => guardO ((!((decide (x38.FKind < (1 : Int))) || (decide ((3 : Int) < x38.FKind))) && (!(x38.FName == ([] : Bs))))) (r01_Name x38.FName) false fun x40 => guardO (!(((decide (x38.FKind < (1 : Int))) || (decide ((3 : Int) < x38.FKind))) || ((!(x38.FName == ([] : Bs))) && (!x40)))) (r08_varsRight x38.FVars) false fun x41 => guardO (!((((decide (x38.FKind < (1 : Int))) || (decide ((3 : Int) < x38.FKind))) || ((!(x38.FName == ([] : Bs))) && (!x40))) || (!x41))) (r08_selsRight x38.FSels (1 : Int)) false fun x42 => bif (((((decide (x38.FKind < (1 : Int))) || (decide ((3 : Int) < x38.FKind))) || ((!(x38.FName == ([] : Bs))) && (!x40))) || (!x41)) || (!x42)) then (some false) else ((r08_Right_l30 a0 x5 n30) (s4_31 + 1))) else (r08_Right_j10 a0 x5  )
def r08_Right (a0 : TQuery) : Option Bool := (addC ((a0.FOps.l.length : Nat) : Int) ((a0.FFrags.l.length : Nat) : Int)).bind fun x5 => bif ((decide (x5 < (1 : Int))) || (decide ((64 : Int) < x5))) then (some false) else (r08_Right_l30 a0 x5 (a0.FOps.l.length + 1) 0)
set_option maxRecDepth 100000 in
set_option maxHeartbeats 2000000 in
theorem r08_Right_walk {a0 : TQuery}   {r : Bool} (hE : r08_Right a0 = some r) (H : Heap)  : ACalls Try.prog 28 [.agg (TQuery.c a0)] H fun v h' => v = .a (.d (.bool r)) ∧ h' = H := by
 unfold r08_Right at hE
 refine ACalls.of_wp (fn := Try.f28) (c := _) Try.tab_ok (fun _ _ => Try.call28 _ _) Try.func28 rfl (n := 92) rfl (rs := [.tmp 2]) rfl rfl ?_
 refine AWp.seqK fun K1 hK1 => ?_
 refine AWp.region ?_
 refine AOps.s0 (Cert.boxV rfl) rfl ?_
 refine AOps.s0 (Cert.assign (by conv => lhs; whnf)) rfl ?_
 refine AOps.nil ?_
 refine hK1 _ ?_
 clear hK1 K1
 refine AWp.seqK fun K2 hK2 => ?_
 refine AWp.region ?_
 refine AOps.s0 (Cert.fieldV (Try.tab_ok _ _ rfl) rfl rfl (Try.tab_ok _ _ rfl) rfl rfl (by conv => lhs; whnf)) rfl ?_
 refine AOps.s0 (Cert.loadV (Try.tab_ok _ _ rfl) rfl rfl rfl) rfl ?_
 refine AOps.sLen (f := TOp.c) (s := a0.FOps) (Try.tab_ok _ _ rfl) rfl rfl rfl rfl fun hL3 => ?_
 refine AOps.s0 (Cert.fieldV (Try.tab_ok _ _ rfl) rfl rfl (Try.tab_ok _ _ rfl) rfl rfl (by conv => lhs; whnf)) rfl ?_
 refine AOps.s0 (Cert.loadV (Try.tab_ok _ _ rfl) rfl rfl rfl) rfl ?_
 refine AOps.sLen (f := TFrag.c) (s := a0.FFrags) (Try.tab_ok _ _ rfl) rfl rfl rfl rfl fun hL4 => ?_
 obtain ⟨x5, gx5, hE⟩ := bindO_some hE
 refine AOps.s0 (Cert.addM rfl rfl gx5) rfl ?_
 refine AOps.s0 (Cert.assign (by conv => lhs; whnf)) rfl ?_
 refine AOps.nil ?_
 refine hK2 _ ?_
 clear hK2 K2
 refine AWp.seqK fun K6 hK6 => ?_
 refine AWp.seqK fun K7 hK7 => ?_
 refine AWp.region ?_
 refine AOps.s0 (Cert.move (by conv => lhs; whnf)) rfl ?_
 refine AOps.s0 (Cert.binI rfl rfl rfl) rfl ?_
 refine AOps.s0 (Cert.move (by conv => lhs; whnf)) rfl ?_
 refine AOps.gC rfl rfl (fun hC => Cert.move (by conv => lhs; whnf)) rfl ?_
 refine AOps.gC rfl rfl (fun hC => Cert.ungd (k := 18) rfl (by first | exact hC | exact andL hC | exact andL (andL hC) | exact andL (andL (andL hC)) | exact andR hC | simp_all) (Cert.binI rfl rfl rfl)) rfl ?_
 refine AOps.s0 (Cert.pickOr rfl rfl rfl (fun h => by first | exact h | exact notT h | exact andI hC h | exact andI hC (notT h) | simp_all)) rfl ?_
 refine AOps.nil ?_
 refine hK7 _ ?_
 clear hK7 K7
 refine AWp.cond rfl (fun hc8 => ?_) (fun hc8 => ?_)
 ·have hE := condT hc8 hE
  try dsimp only at hc8
  refine AWp.seqK fun K9 hK9 => ?_
  refine AWp.region ?_
  refine AOps.s0 (Cert.assign (by conv => lhs; whnf)) rfl ?_
  refine AOps.nil ?_
  refine hK9 _ ?_
  clear hK9 K9
  refine AWp.ret ?_
  repeat (first | refine xBlock_ret ?_ | refine xThen_ret ?_)
  obtain rfl := Option.some.inj hE
  refine retQ.retF H rfl ⟨rfl, rfl⟩ ?_
  exact (fun _ _ h => h)
 ·have hE := condF hc8 hE
  try dsimp only at hc8
  refine AWp.skip ?_
  refine hK6 _ ?_
  clear hK6 K6
  refine AWp.seqJH (KeepsT.cons (k := 1) (by conv => lhs; whnf) KeepsT.nil) (fun (z : Unit) => []) (fun z => H) (fun z => r08_Right_j10 a0 x5  = some r) ?_ ?_
  ·intro K10 hK10
   refine AWp.seqK fun K29 hK29 => ?_
   refine AWp.region ?_
   refine AOps.s0 (Cert.assign (by conv => lhs; whnf)) rfl ?_
   refine AOps.nil ?_
   refine hK29 _ ?_
   clear hK29 K29
   refine AWp.block ?_
   refine AWp.loopH (KeepsT.cons (k := 1) (by conv => lhs; whnf) KeepsT.nil) (fun (z : Nat × Nat) => [(4, .a (.d (.int .i64 ((z.2 : Nat) : Int))))]) (fun z => H) (fun z => z.1) (fun z => r08_Right_l30 a0 x5 z.1 z.2 = some r) ((a0.FOps.l.length + 1), 0) hE Weak.toA ?_
   rintro ⟨n30, s4_31⟩ hE K30 hK30
   try dsimp only at hE
   cases n30 with
   | zero => cases hE
   | succ n30 =>
     rw [r08_Right_l30] at hE
     refine AWp.seqK fun K32 hK32 => ?_
     refine AWp.seqK fun K33 hK33 => ?_
     refine AWp.region ?_
     refine AOps.s0 (Cert.move (by conv => lhs; whnf)) rfl ?_
     refine AOps.s0 (Cert.fieldV (Try.tab_ok _ _ rfl) rfl rfl (Try.tab_ok _ _ rfl) rfl rfl (by conv => lhs; whnf)) rfl ?_
     refine AOps.s0 (Cert.loadV (Try.tab_ok _ _ rfl) rfl rfl rfl) rfl ?_
     refine AOps.sLen (f := TOp.c) (s := a0.FOps) (Try.tab_ok _ _ rfl) rfl rfl rfl rfl fun hL34 => ?_
     refine AOps.s0 (Cert.binI rfl rfl rfl) rfl ?_
     refine AOps.nil ?_
     refine hK33 _ ?_
     clear hK33 K33
     refine AWp.cond rfl (fun hc35 => ?_) (fun hc35 => ?_)
     ·have hE := condT hc35 hE
      try dsimp only at hc35
      have hf35 := of_decide_eq_true hc35
      refine AWp.skip ?_
      refine hK32 _ ?_
      clear hK32 K32
      refine AWp.seqK fun K36 hK36 => ?_
      refine AWp.block ?_
      refine AWp.seqK fun K37 hK37 => ?_
      refine AWp.region ?_
      refine AOps.s0 (Cert.fieldV (Try.tab_ok _ _ rfl) rfl rfl (Try.tab_ok _ _ rfl) rfl rfl (by conv => lhs; whnf)) rfl ?_
      refine AOps.s0 (Cert.loadV (Try.tab_ok _ _ rfl) rfl rfl rfl) rfl ?_
      refine AOps.s0 (Cert.move (by conv => lhs; whnf)) rfl ?_
      obtain ⟨x38, gx38, hE⟩ := bindO_some hE
      refine AOps.s0 (Cert.idxMn (f := TOp.c) (n := s4_31) (Try.tab_ok _ _ rfl) rfl (Try.tab_ok _ _ rfl) rfl rfl rfl gx38) rfl ?_
      refine AOps.s0 (Cert.loadV (Try.tab_ok _ _ rfl) rfl rfl rfl) rfl ?_
      refine AOps.sL (Cert.allocL (Try.tab_ok _ _ rfl) rfl (by repeat (first | exact Snoc.nil | apply Snoc.cons))) rfl ?_
      refine AOps.sLn (Cert.storeLF (Try.tab_ok _ _ rfl) rfl rfl rfl rfl rfl (by repeat (first | exact SetAt.zero | apply SetAt.succ))) ?_
      refine AOps.nil ?_
      refine hK37 _ ?_
      clear hK37 K37
      refine AWp.freeze 5 _ rfl (by repeat (first | exact Snoc.nil | apply Snoc.cons)) (Keeps.c (k := 1) (by conv => lhs; whnf) (by rfl) (Keeps.c (k := 4) (by conv => lhs; whnf) (by rfl) Keeps.nil)) ?_
      refine AWp.seqK fun K39 hK39 => ?_
      refine AWp.region ?_
      refine AOps.s0 (Cert.fieldV (Try.tab_ok _ _ rfl) rfl rfl (Try.tab_ok _ _ rfl) rfl rfl (by conv => lhs; whnf)) rfl ?_
      refine AOps.s0 (Cert.loadV (Try.tab_ok _ _ rfl) rfl rfl rfl) rfl ?_
      refine AOps.s0 (Cert.binI rfl rfl rfl) rfl ?_
      refine AOps.s0 (Cert.move (by conv => lhs; whnf)) rfl ?_
      refine AOps.gC rfl rfl (fun hC => Cert.fieldV (Try.tab_ok _ _ rfl) rfl rfl (Try.tab_ok _ _ rfl) rfl rfl (by conv => lhs; whnf)) rfl ?_
      refine AOps.gC rfl rfl (fun hC => Cert.ungd (k := 37) rfl (by first | exact hC | exact andL hC | exact andL (andL hC) | exact andL (andL (andL hC)) | exact andR hC | simp_all) (Cert.loadV (Try.tab_ok _ _ rfl) rfl rfl rfl)) rfl ?_
      refine AOps.gC rfl rfl (fun hC => Cert.ungd (k := 38) rfl (by first | exact hC | exact andL hC | exact andL (andL hC) | exact andL (andL (andL hC)) | exact andR hC | simp_all) (Cert.binI rfl rfl rfl)) rfl ?_
      refine AOps.s0 (Cert.pickOr rfl rfl rfl (fun h => by first | exact h | exact notT h | exact andI hC h | exact andI hC (notT h) | simp_all)) rfl ?_
      refine AOps.s0 (Cert.move (by conv => lhs; whnf)) rfl ?_
      refine AOps.gC rfl rfl (fun hC => Cert.fieldV (Try.tab_ok _ _ rfl) rfl rfl (Try.tab_ok _ _ rfl) rfl rfl (by conv => lhs; whnf)) rfl ?_
      refine AOps.gC rfl rfl (fun hC => Cert.ungd (k := 42) rfl (by first | exact hC | exact andL hC | exact andL (andL hC) | exact andL (andL (andL hC)) | exact andR hC | simp_all) (Cert.loadV (Try.tab_ok _ _ rfl) rfl rfl rfl)) rfl ?_
      refine AOps.gC rfl rfl (fun hC => Cert.ungd (k := 43) rfl (by first | exact hC | exact andL hC | exact andL (andL hC) | exact andL (andL (andL hC)) | exact andR hC | simp_all) (Cert.binS rfl rfl rfl)) rfl ?_
      refine AOps.gC rfl rfl (fun hC => Cert.ungd (k := 44) rfl (by first | exact hC | exact andL hC | exact andL (andL hC) | exact andL (andL (andL hC)) | exact andR hC | simp_all) (Cert.move (by conv => lhs; whnf))) rfl ?_
      refine AOps.gC rfl rfl (fun hC => Cert.fieldV (Try.tab_ok _ _ rfl) rfl rfl (Try.tab_ok _ _ rfl) rfl rfl (by conv => lhs; whnf)) rfl ?_
      refine AOps.gC rfl rfl (fun hC => Cert.ungd (k := 46) rfl (by first | exact hC | exact andL hC | exact andL (andL hC) | exact andL (andL (andL hC)) | exact andR hC | simp_all) (Cert.loadV (Try.tab_ok _ _ rfl) rfl rfl rfl)) rfl ?_
      obtain ⟨x40, gx40, hE⟩ := guardO_some hE
      refine AOps.gC rfl rfl (fun hC => Cert.ungd (k := 47) rfl (by first | exact hC | exact andL hC | exact andL (andL hC) | exact andL (andL (andL hC)) | exact andR hC | simp_all) (Cert.callP rfl rfl (fun H => r01_Name_walk (gx40 hC) H))) rfl ?_
      refine AOps.gC rfl rfl (fun hC => Cert.ungd (k := 48) rfl (by first | exact hC | exact andL hC | exact andL (andL hC) | exact andL (andL (andL hC)) | exact andR hC | simp_all) (Cert.notB rfl)) rfl ?_
      refine AOps.gC rfl rfl (fun hC => Cert.ungd (k := 45) rfl (by first | exact hC | exact andL hC | exact andL (andL hC) | exact andL (andL (andL hC)) | exact andR hC | simp_all) (Cert.pickAnd rfl rfl (fun h => by first | exact h | exact notT h | exact andI hC h | exact andI hC (notT h) | simp_all) rfl)) rfl ?_
      refine AOps.s0 (Cert.pickOr rfl rfl rfl (fun h => by first | exact h | exact notT h | exact andI hC h | exact andI hC (notT h) | simp_all)) rfl ?_
      refine AOps.s0 (Cert.move (by conv => lhs; whnf)) rfl ?_
      refine AOps.gC rfl rfl (fun hC => Cert.fieldV (Try.tab_ok _ _ rfl) rfl rfl (Try.tab_ok _ _ rfl) rfl rfl (by conv => lhs; whnf)) rfl ?_
      refine AOps.gC rfl rfl (fun hC => Cert.ungd (k := 53) rfl (by first | exact hC | exact andL hC | exact andL (andL hC) | exact andL (andL (andL hC)) | exact andR hC | simp_all) (Cert.loadV (Try.tab_ok _ _ rfl) rfl rfl rfl)) rfl ?_
      obtain ⟨x41, gx41, hE⟩ := guardO_some hE
      refine AOps.gC rfl rfl (fun hC => Cert.ungd (k := 54) rfl (by first | exact hC | exact andL hC | exact andL (andL hC) | exact andL (andL (andL hC)) | exact andR hC | simp_all) (Cert.callP rfl rfl (fun H => r08_varsRight_walk (gx41 hC) H))) rfl ?_
      refine AOps.gC rfl rfl (fun hC => Cert.ungd (k := 55) rfl (by first | exact hC | exact andL hC | exact andL (andL hC) | exact andL (andL (andL hC)) | exact andR hC | simp_all) (Cert.notB rfl)) rfl ?_
      refine AOps.s0 (Cert.pickOr rfl rfl rfl (fun h => by first | exact h | exact notT h | exact andI hC h | exact andI hC (notT h) | simp_all)) rfl ?_
      refine AOps.s0 (Cert.move (by conv => lhs; whnf)) rfl ?_
      refine AOps.gC rfl rfl (fun hC => Cert.fieldV (Try.tab_ok _ _ rfl) rfl rfl (Try.tab_ok _ _ rfl) rfl rfl (by conv => lhs; whnf)) rfl ?_
      refine AOps.gC rfl rfl (fun hC => Cert.ungd (k := 59) rfl (by first | exact hC | exact andL hC | exact andL (andL hC) | exact andL (andL (andL hC)) | exact andR hC | simp_all) (Cert.loadV (Try.tab_ok _ _ rfl) rfl rfl rfl)) rfl ?_
      obtain ⟨x42, gx42, hE⟩ := guardO_some hE
      refine AOps.gC rfl rfl (fun hC => Cert.ungd (k := 60) rfl (by first | exact hC | exact andL hC | exact andL (andL hC) | exact andL (andL (andL hC)) | exact andR hC | simp_all) (Cert.callP rfl rfl (fun H => r08_selsRight_walk (gx42 hC) H))) rfl ?_
      refine AOps.gC rfl rfl (fun hC => Cert.ungd (k := 61) rfl (by first | exact hC | exact andL hC | exact andL (andL hC) | exact andL (andL (andL hC)) | exact andR hC | simp_all) (Cert.notB rfl)) rfl ?_
      refine AOps.s0 (Cert.pickOr rfl rfl rfl (fun h => by first | exact h | exact notT h | exact andI hC h | exact andI hC (notT h) | simp_all)) rfl ?_
      refine AOps.nil ?_
      refine hK39 _ ?_
      clear hK39 K39
      refine AWp.cond rfl (fun hc43 => ?_) (fun hc43 => ?_)
      ·have hE := condT hc43 hE
       try dsimp only at hc43
       refine AWp.seqK fun K44 hK44 => ?_
       refine AWp.region ?_
       refine AOps.s0 (Cert.assign (by conv => lhs; whnf)) rfl ?_
       refine AOps.nil ?_
       refine hK44 _ ?_
       clear hK44 K44
       refine AWp.ret ?_
       repeat (first | refine xBlock_ret ?_ | refine xThen_ret ?_)
       obtain rfl := Option.some.inj hE
       refine retQ.retF H rfl ⟨rfl, rfl⟩ ?_
       exact (fun _ _ h => h)
      ·have hE := condF hc43 hE
       try dsimp only at hc43
       refine AWp.skip ?_
       refine hK36 _ ?_
       clear hK36 K36
       refine AWp.region ?_
       refine AOps.s0 (Cert.move (by conv => lhs; whnf)) rfl ?_
       refine AOps.s0 (Cert.addI rfl rfl (by first | omega | (dsimp only; omega)) (by first | omega | (dsimp only; omega))) rfl ?_
       refine AOps.s0 (Cert.assign (by conv => lhs; whnf)) rfl ?_
       refine AOps.nil ?_
       exact hK30 _ (n30, (s4_31 + 1)) Weak.toA hE (Nat.lt_succ_self _)
     ·have hE := condF hc35 hE
      try dsimp only at hc35
      refine AWp.exit ?_
      exact hK10 _ () Weak.toA hE
  ·rintro _ hE
   try dsimp only at hE
   unfold r08_Right_j10 at hE
   refine AWp.seqJH KeepsT.nil (fun (z : Unit) => []) (fun z => H) (fun z => r08_Right_j11 a0 x5  = some r) ?_ ?_
   ·intro K11 hK11
    refine AWp.seqK fun K13 hK13 => ?_
    refine AWp.region ?_
    refine AOps.s0 (Cert.assign (by conv => lhs; whnf)) rfl ?_
    refine AOps.nil ?_
    refine hK13 _ ?_
    clear hK13 K13
    refine AWp.block ?_
    refine AWp.loopH (KeepsT.cons (k := 1) (by conv => lhs; whnf) KeepsT.nil) (fun (z : Nat × Nat) => [(6, .a (.d (.int .i64 ((z.2 : Nat) : Int))))]) (fun z => H) (fun z => z.1) (fun z => r08_Right_l14 a0 x5 z.1 z.2 = some r) ((a0.FFrags.l.length + 1), 0) hE Weak.toA ?_
    rintro ⟨n14, s6_15⟩ hE K14 hK14
    try dsimp only at hE
    cases n14 with
    | zero => cases hE
    | succ n14 =>
      rw [r08_Right_l14] at hE
      refine AWp.seqK fun K16 hK16 => ?_
      refine AWp.seqK fun K17 hK17 => ?_
      refine AWp.region ?_
      refine AOps.s0 (Cert.move (by conv => lhs; whnf)) rfl ?_
      refine AOps.s0 (Cert.fieldV (Try.tab_ok _ _ rfl) rfl rfl (Try.tab_ok _ _ rfl) rfl rfl (by conv => lhs; whnf)) rfl ?_
      refine AOps.s0 (Cert.loadV (Try.tab_ok _ _ rfl) rfl rfl rfl) rfl ?_
      refine AOps.sLen (f := TFrag.c) (s := a0.FFrags) (Try.tab_ok _ _ rfl) rfl rfl rfl rfl fun hL18 => ?_
      refine AOps.s0 (Cert.binI rfl rfl rfl) rfl ?_
      refine AOps.nil ?_
      refine hK17 _ ?_
      clear hK17 K17
      refine AWp.cond rfl (fun hc19 => ?_) (fun hc19 => ?_)
      ·have hE := condT hc19 hE
       try dsimp only at hc19
       have hf19 := of_decide_eq_true hc19
       refine AWp.skip ?_
       refine hK16 _ ?_
       clear hK16 K16
       refine AWp.seqK fun K20 hK20 => ?_
       refine AWp.block ?_
       refine AWp.seqK fun K21 hK21 => ?_
       refine AWp.region ?_
       refine AOps.s0 (Cert.fieldV (Try.tab_ok _ _ rfl) rfl rfl (Try.tab_ok _ _ rfl) rfl rfl (by conv => lhs; whnf)) rfl ?_
       refine AOps.s0 (Cert.loadV (Try.tab_ok _ _ rfl) rfl rfl rfl) rfl ?_
       refine AOps.s0 (Cert.move (by conv => lhs; whnf)) rfl ?_
       obtain ⟨x22, gx22, hE⟩ := bindO_some hE
       refine AOps.s0 (Cert.idxMn (f := TFrag.c) (n := s6_15) (Try.tab_ok _ _ rfl) rfl (Try.tab_ok _ _ rfl) rfl rfl rfl gx22) rfl ?_
       refine AOps.s0 (Cert.loadV (Try.tab_ok _ _ rfl) rfl rfl rfl) rfl ?_
       refine AOps.sL (Cert.allocL (Try.tab_ok _ _ rfl) rfl (by repeat (first | exact Snoc.nil | apply Snoc.cons))) rfl ?_
       refine AOps.sLn (Cert.storeLF (Try.tab_ok _ _ rfl) rfl rfl rfl rfl rfl (by repeat (first | exact SetAt.zero | apply SetAt.succ))) ?_
       refine AOps.nil ?_
       refine hK21 _ ?_
       clear hK21 K21
       refine AWp.freeze 7 _ rfl (by repeat (first | exact Snoc.nil | apply Snoc.cons)) (Keeps.c (k := 1) (by conv => lhs; whnf) (by rfl) (Keeps.c (k := 6) (by conv => lhs; whnf) (by rfl) Keeps.nil)) ?_
       refine AWp.seqK fun K23 hK23 => ?_
       refine AWp.region ?_
       refine AOps.s0 (Cert.fieldV (Try.tab_ok _ _ rfl) rfl rfl (Try.tab_ok _ _ rfl) rfl rfl (by conv => lhs; whnf)) rfl ?_
       refine AOps.s0 (Cert.loadV (Try.tab_ok _ _ rfl) rfl rfl rfl) rfl ?_
       obtain ⟨x24, gx24, hE⟩ := bindO_some hE
       refine AOps.s0 (Cert.callP rfl rfl (fun H => r08_title_walk gx24 H)) rfl ?_
       refine AOps.s0 (Cert.notB rfl) rfl ?_
       refine AOps.s0 (Cert.move (by conv => lhs; whnf)) rfl ?_
       refine AOps.gC rfl rfl (fun hC => Cert.fieldV (Try.tab_ok _ _ rfl) rfl rfl (Try.tab_ok _ _ rfl) rfl rfl (by conv => lhs; whnf)) rfl ?_
       refine AOps.gC rfl rfl (fun hC => Cert.ungd (k := 81) rfl (by first | exact hC | exact andL hC | exact andL (andL hC) | exact andL (andL (andL hC)) | exact andR hC | simp_all) (Cert.loadV (Try.tab_ok _ _ rfl) rfl rfl rfl)) rfl ?_
       obtain ⟨x25, gx25, hE⟩ := guardO_some hE
       refine AOps.gC rfl rfl (fun hC => Cert.ungd (k := 82) rfl (by first | exact hC | exact andL hC | exact andL (andL hC) | exact andL (andL (andL hC)) | exact andR hC | simp_all) (Cert.callP rfl rfl (fun H => r01_Name_walk (gx25 hC) H))) rfl ?_
       refine AOps.gC rfl rfl (fun hC => Cert.ungd (k := 83) rfl (by first | exact hC | exact andL hC | exact andL (andL hC) | exact andL (andL (andL hC)) | exact andR hC | simp_all) (Cert.notB rfl)) rfl ?_
       refine AOps.s0 (Cert.pickOr rfl rfl rfl (fun h => by first | exact h | exact notT h | exact andI hC h | exact andI hC (notT h) | simp_all)) rfl ?_
       refine AOps.s0 (Cert.move (by conv => lhs; whnf)) rfl ?_
       refine AOps.gC rfl rfl (fun hC => Cert.fieldV (Try.tab_ok _ _ rfl) rfl rfl (Try.tab_ok _ _ rfl) rfl rfl (by conv => lhs; whnf)) rfl ?_
       refine AOps.gC rfl rfl (fun hC => Cert.ungd (k := 87) rfl (by first | exact hC | exact andL hC | exact andL (andL hC) | exact andL (andL (andL hC)) | exact andR hC | simp_all) (Cert.loadV (Try.tab_ok _ _ rfl) rfl rfl rfl)) rfl ?_
       obtain ⟨x26, gx26, hE⟩ := guardO_some hE
       refine AOps.gC rfl rfl (fun hC => Cert.ungd (k := 88) rfl (by first | exact hC | exact andL hC | exact andL (andL hC) | exact andL (andL (andL hC)) | exact andR hC | simp_all) (Cert.callP rfl rfl (fun H => r08_selsRight_walk (gx26 hC) H))) rfl ?_
       refine AOps.gC rfl rfl (fun hC => Cert.ungd (k := 89) rfl (by first | exact hC | exact andL hC | exact andL (andL hC) | exact andL (andL (andL hC)) | exact andR hC | simp_all) (Cert.notB rfl)) rfl ?_
       refine AOps.s0 (Cert.pickOr rfl rfl rfl (fun h => by first | exact h | exact notT h | exact andI hC h | exact andI hC (notT h) | simp_all)) rfl ?_
       refine AOps.nil ?_
       refine hK23 _ ?_
       clear hK23 K23
       refine AWp.cond rfl (fun hc27 => ?_) (fun hc27 => ?_)
       ·have hE := condT hc27 hE
        try dsimp only at hc27
        refine AWp.seqK fun K28 hK28 => ?_
        refine AWp.region ?_
        refine AOps.s0 (Cert.assign (by conv => lhs; whnf)) rfl ?_
        refine AOps.nil ?_
        refine hK28 _ ?_
        clear hK28 K28
        refine AWp.ret ?_
        repeat (first | refine xBlock_ret ?_ | refine xThen_ret ?_)
        obtain rfl := Option.some.inj hE
        refine retQ.retF H rfl ⟨rfl, rfl⟩ ?_
        exact (fun _ _ h => h)
       ·have hE := condF hc27 hE
        try dsimp only at hc27
        refine AWp.skip ?_
        refine hK20 _ ?_
        clear hK20 K20
        refine AWp.region ?_
        refine AOps.s0 (Cert.move (by conv => lhs; whnf)) rfl ?_
        refine AOps.s0 (Cert.addI rfl rfl (by first | omega | (dsimp only; omega)) (by first | omega | (dsimp only; omega))) rfl ?_
        refine AOps.s0 (Cert.assign (by conv => lhs; whnf)) rfl ?_
        refine AOps.nil ?_
        exact hK14 _ (n14, (s6_15 + 1)) Weak.toA hE (Nat.lt_succ_self _)
      ·have hE := condF hc19 hE
       try dsimp only at hc19
       refine AWp.exit ?_
       exact hK11 _ () Weak.toA hE
   ·rintro _ hE
    try dsimp only at hE
    unfold r08_Right_j11 at hE
    refine AWp.seqK fun K12 hK12 => ?_
    refine AWp.region ?_
    refine AOps.s0 (Cert.assign (by conv => lhs; whnf)) rfl ?_
    refine AOps.nil ?_
    refine hK12 _ ?_
    clear hK12 K12
    refine AWp.ret ?_
    repeat (first | refine xBlock_ret ?_ | refine xThen_ret ?_)
    obtain rfl := Option.some.inj hE
    refine retQ.retF H rfl ⟨rfl, rfl⟩ ?_
    exact (fun _ _ h => h)
def law14_right (a0 : TDoc) (a1 : TQuery) : Option Bool := (r10_Large a0).bind fun x3 => guardO ((!x3)) (r08_Large a1) false fun x4 => guardO (((!x3) && (!x4))) (r06_Right a0) false fun x5 => guardO ((((!x3) && (!x4)) && x5)) (r08_Right a1) false fun x6 => some ((((!x3) && (!x4)) && x5) && x6)
set_option maxRecDepth 100000 in
set_option maxHeartbeats 2000000 in
theorem law14_right_walk {a0 : TDoc} {a1 : TQuery}   {r : Bool} (hE : law14_right a0 a1 = some r) (H : Heap)  : ACalls Try.prog 10 [.agg (TDoc.c a0), .agg (TQuery.c a1)] H fun v h' => v = .a (.d (.bool r)) ∧ h' = H := by
 unfold law14_right at hE
 refine ACalls.of_wp (fn := Try.f10) (c := _) Try.tab_ok (fun _ _ => Try.call10 _ _) Try.func10 rfl (n := 21) rfl (rs := [.tmp 4]) rfl rfl ?_
 refine AWp.seqK fun K1 hK1 => ?_
 refine AWp.region ?_
 refine AOps.s0 (Cert.boxV rfl) rfl ?_
 refine AOps.s0 (Cert.boxV rfl) rfl ?_
 refine AOps.s0 (Cert.assign (by conv => lhs; whnf)) rfl ?_
 refine AOps.nil ?_
 refine hK1 _ ?_
 clear hK1 K1
 refine AWp.seqK fun K2 hK2 => ?_
 refine AWp.region ?_
 refine AOps.s0 (Cert.loadV (Try.tab_ok _ _ rfl) rfl rfl rfl) rfl ?_
 obtain ⟨x3, gx3, hE⟩ := bindO_some hE
 refine AOps.s0 (Cert.callP rfl rfl (fun H => r10_Large_walk gx3 H)) rfl ?_
 refine AOps.s0 (Cert.notB rfl) rfl ?_
 refine AOps.s0 (Cert.move (by conv => lhs; whnf)) rfl ?_
 refine AOps.gC rfl rfl (fun hC => Cert.loadV (Try.tab_ok _ _ rfl) rfl rfl rfl) rfl ?_
 obtain ⟨x4, gx4, hE⟩ := guardO_some hE
 refine AOps.gC rfl rfl (fun hC => Cert.ungd (k := 9) rfl (by first | exact hC | exact andL hC | exact andL (andL hC) | exact andL (andL (andL hC)) | exact andR hC | simp_all) (Cert.callP rfl rfl (fun H => r08_Large_walk (gx4 hC) H))) rfl ?_
 refine AOps.gC rfl rfl (fun hC => Cert.ungd (k := 10) rfl (by first | exact hC | exact andL hC | exact andL (andL hC) | exact andL (andL (andL hC)) | exact andR hC | simp_all) (Cert.notB rfl)) rfl ?_
 refine AOps.s0 (Cert.pickAnd rfl rfl (fun h => by first | exact h | exact notT h | exact andI hC h | exact andI hC (notT h) | simp_all) rfl) rfl ?_
 refine AOps.s0 (Cert.move (by conv => lhs; whnf)) rfl ?_
 refine AOps.gC rfl rfl (fun hC => Cert.loadV (Try.tab_ok _ _ rfl) rfl rfl rfl) rfl ?_
 obtain ⟨x5, gx5, hE⟩ := guardO_some hE
 refine AOps.gC rfl rfl (fun hC => Cert.ungd (k := 14) rfl (by first | exact hC | exact andL hC | exact andL (andL hC) | exact andL (andL (andL hC)) | exact andR hC | simp_all) (Cert.callP rfl rfl (fun H => r06_Right_walk (gx5 hC) H))) rfl ?_
 refine AOps.s0 (Cert.pickAnd rfl rfl (fun h => by first | exact h | exact notT h | exact andI hC h | exact andI hC (notT h) | simp_all) rfl) rfl ?_
 refine AOps.s0 (Cert.move (by conv => lhs; whnf)) rfl ?_
 refine AOps.gC rfl rfl (fun hC => Cert.loadV (Try.tab_ok _ _ rfl) rfl rfl rfl) rfl ?_
 obtain ⟨x6, gx6, hE⟩ := guardO_some hE
 refine AOps.gC rfl rfl (fun hC => Cert.ungd (k := 18) rfl (by first | exact hC | exact andL hC | exact andL (andL hC) | exact andL (andL (andL hC)) | exact andR hC | simp_all) (Cert.callP rfl rfl (fun H => r08_Right_walk (gx6 hC) H))) rfl ?_
 refine AOps.s0 (Cert.pickAnd rfl rfl (fun h => by first | exact h | exact notT h | exact andI hC h | exact andI hC (notT h) | simp_all) rfl) rfl ?_
 refine AOps.s0 (Cert.assign (by conv => lhs; whnf)) rfl ?_
 refine AOps.nil ?_
 refine hK2 _ ?_
 clear hK2 K2
 refine AWp.ret ?_
 repeat (first | refine xBlock_ret ?_ | refine xThen_ret ?_)
 obtain rfl := Option.some.inj hE
 refine retQ.retF H rfl ⟨rfl, rfl⟩ ?_
 exact (fun _ _ h => h)
def law14_FieldsParts_j12 (a0 : TDoc) (a1 : TQuery) (x4 : Bool) (s5_10 : (Sl TFault))  (s6_13 : (Sl TFault)) : Option Bool := (fields_Check a0 a1).bind fun x15 => (appC 24 s6_13 s5_10).bind fun x16 => (r10_Faults x15 x16).bind fun x17 => guardO (x17) (law14_knows ) false fun x18 => some (x17 && x18)
def law14_FieldsParts_l20 (a0 : TDoc) (a1 : TQuery) (x4 : Bool) (s5_10 : (Sl TFault))  : Nat → (Sl TFault) → Nat → Option Bool
 | 0, _, _ => none
 | n20 + 1, s6_21, s7_22 => bif (decide (((s7_22 : Nat) : Int) < ((a1.FOps.l.length : Nat) : Int))) then ((partC a1.FOps (some ((s7_22 : Nat) : Int)) (some (((s7_22 + 1) : Nat) : Int))).bind fun x29 => (fields_Check a0 (TQuery.mk x29 a1.FFrags)).bind fun x30 => guardO (!(decide (((x30.l.length : Nat) : Int) < ((s5_10.l.length : Nat) : Int)))) (subC ((x30.l.length : Nat) : Int) ((s5_10.l.length : Nat) : Int)) (0 : Int) fun x35 => guardO (!(decide (((x30.l.length : Nat) : Int) < ((s5_10.l.length : Nat) : Int)))) (partC x30 (some x35) none) (Sl.nil : Sl TFault) fun x36 => guardO (!(decide (((x30.l.length : Nat) : Int) < ((s5_10.l.length : Nat) : Int)))) (r10_Faults x36 s5_10) false fun x37 => bif ((decide (((x30.l.length : Nat) : Int) < ((s5_10.l.length : Nat) : Int))) || (!x37)) then (some false) else ((subC ((x30.l.length : Nat) : Int) ((s5_10.l.length : Nat) : Int)).bind fun x42 => (partC x30 none (some x42)).bind fun x43 => (appC 24 s6_21 x43).bind fun x44 => (law14_FieldsParts_l20 a0 a1 x4 s5_10 n20) x44 (s7_22 + 1))) else (law14_FieldsParts_j12 a0 a1 x4 s5_10  s6_21)
def law14_FieldsParts_j9 (a0 : TDoc) (a1 : TQuery) (x4 : Bool)  (s5_10 : (Sl TFault)) : Option Bool := law14_FieldsParts_l20 a0 a1 x4 s5_10 (a1.FOps.l.length + 1) (Sl.nil : Sl TFault) 0
def law14_FieldsParts (a0 : TDoc) (a1 : TQuery) : Option Bool := (law14_right a0 a1).bind fun x4 => bif (!x4) then ((law14_knows ).bind fun x7 => some x7) else (bif (decide ((0 : Int) < ((a1.FFrags.l.length : Nat) : Int))) then ((fields_Check a0 (TQuery.mk (Sl.nil : Sl TOp) a1.FFrags)).bind fun x48 => law14_FieldsParts_j9 a0 a1 x4  x48) else (law14_FieldsParts_j9 a0 a1 x4  (Sl.nil : Sl TFault)))
set_option maxRecDepth 100000 in
set_option maxHeartbeats 2000000 in
theorem law14_FieldsParts_walk {a0 : TDoc} {a1 : TQuery}   {r : Bool} (hE : law14_FieldsParts a0 a1 = some r) (H : Heap)  : ACalls Try.prog 4 [.agg (TDoc.c a0), .agg (TQuery.c a1)] H fun v h' => v = .a (.d (.bool r)) ∧ h' = H := by
 unfold law14_FieldsParts at hE
 refine ACalls.of_wp (fn := Try.f4) (c := _) Try.tab_ok (fun _ _ => Try.call4 _ _) Try.func4 rfl (n := 77) rfl (rs := [.tmp 4]) rfl rfl ?_
 refine AWp.tok 2 fun tk1 htk1 => ?_
 refine AWp.seqK fun K1 hK1 => ?_
 refine AWp.region ?_
 refine AOps.s0 (Cert.boxV rfl) rfl ?_
 refine AOps.s0 (Cert.boxV rfl) rfl ?_
 refine AOps.s0 (Cert.assign (by conv => lhs; whnf)) rfl ?_
 refine AOps.nil ?_
 refine hK1 _ ?_
 clear hK1 K1
 refine AWp.seqK fun K2 hK2 => ?_
 refine AWp.seqK fun K3 hK3 => ?_
 refine AWp.region ?_
 refine AOps.s0 (Cert.loadV (Try.tab_ok _ _ rfl) rfl rfl rfl) rfl ?_
 refine AOps.s0 (Cert.loadV (Try.tab_ok _ _ rfl) rfl rfl rfl) rfl ?_
 obtain ⟨x4, gx4, hE⟩ := bindO_some hE
 refine AOps.s0 (Cert.callP rfl rfl (fun H => law14_right_walk gx4 H)) rfl ?_
 refine AOps.s0 (Cert.notB rfl) rfl ?_
 refine AOps.nil ?_
 refine hK3 _ ?_
 clear hK3 K3
 refine AWp.cond rfl (fun hc5 => ?_) (fun hc5 => ?_)
 ·have hE := condT hc5 hE
  try dsimp only at hc5
  refine AWp.seqK fun K6 hK6 => ?_
  refine AWp.region ?_
  obtain ⟨x7, gx7, hE⟩ := bindO_some hE
  refine AOps.s0 (Cert.callP rfl rfl (fun H => law14_knows_walk gx7 H)) rfl ?_
  refine AOps.s0 (Cert.assign (by conv => lhs; whnf)) rfl ?_
  refine AOps.nil ?_
  refine hK6 _ ?_
  clear hK6 K6
  refine AWp.ret ?_
  repeat (first | refine xBlock_ret ?_ | refine xThen_ret ?_)
  obtain rfl := Option.some.inj hE
  refine retQ.retF H rfl ⟨rfl, rfl⟩ ?_
  first | exact Heap.sub_set htk1 | (simp only [Heap.set_set]; exact Heap.sub_set htk1)
 ·have hE := condF hc5 hE
  try dsimp only at hc5
  refine AWp.skip ?_
  refine hK2 _ ?_
  clear hK2 K2
  refine AWp.seqK fun K8 hK8 => ?_
  refine AWp.region ?_
  refine AOps.s0 (Cert.assignNil (k' := 2) rfl) rfl ?_
  refine AOps.nil ?_
  refine hK8 _ ?_
  clear hK8 K8
  refine AWp.seqJH (KeepsT.cons (k := 2) (by conv => lhs; whnf) (KeepsT.cons (k := 3) (by conv => lhs; whnf) KeepsT.nil)) (fun (z : (Sl TFault)) => [(5, .a (.d (Sl.d 2 TFault.c none z)))]) (fun z => (H.set tk1 (some (.tok 2 0)))) (fun z => law14_FieldsParts_j9 a0 a1 x4 z = some r) ?_ ?_
  ·intro K9 hK9
   refine AWp.seqK fun K45 hK45 => ?_
   refine AWp.region ?_
   refine AOps.s0 (Cert.fieldV (Try.tab_ok _ _ rfl) rfl rfl (Try.tab_ok _ _ rfl) rfl rfl (by conv => lhs; whnf)) rfl ?_
   refine AOps.s0 (Cert.loadV (Try.tab_ok _ _ rfl) rfl rfl rfl) rfl ?_
   refine AOps.sLen (f := TFrag.c) (s := a1.FFrags) (Try.tab_ok _ _ rfl) rfl rfl rfl rfl fun hL46 => ?_
   refine AOps.s0 (Cert.binI rfl rfl rfl) rfl ?_
   refine AOps.nil ?_
   refine hK45 _ ?_
   clear hK45 K45
   refine AWp.cond rfl (fun hc47 => ?_) (fun hc47 => ?_)
   ·have hE := condT hc47 hE
    try dsimp only at hc47
    refine AWp.region ?_
    refine AOps.s0 (Cert.loadV (Try.tab_ok _ _ rfl) rfl rfl rfl) rfl ?_
    refine AOps.s0 (Cert.fieldV (Try.tab_ok _ _ rfl) rfl rfl (Try.tab_ok _ _ rfl) rfl rfl (by conv => lhs; whnf)) rfl ?_
    refine AOps.s0 (Cert.loadV (Try.tab_ok _ _ rfl) rfl rfl rfl) rfl ?_
    refine AOps.s0 (Cert.build Try.tab_ok rfl rfl rfl rfl rfl rfl) rfl ?_
    obtain ⟨x48, gx48, hE⟩ := bindO_some hE
    refine AOps.s0 (Cert.callP rfl rfl (fun H => fields_Check_walk gx48 H)) rfl ?_
    refine AOps.s0 (Cert.assign (by conv => lhs; whnf)) rfl ?_
    refine AOps.nil ?_
    exact hK9 _ x48 Weak.toA hE
   ·have hE := condF hc47 hE
    try dsimp only at hc47
    refine AWp.skip ?_
    exact hK9 _ (Sl.nil : Sl TFault) Weak.toA hE
  ·rintro s5_10 hE
   try dsimp only at hE
   unfold law14_FieldsParts_j9 at hE
   refine AWp.seqK fun K11 hK11 => ?_
   refine AWp.region ?_
   refine AOps.s0 (Cert.assign (by conv => lhs; whnf)) rfl ?_
   refine AOps.nil ?_
   refine hK11 _ ?_
   clear hK11 K11
   refine AWp.nilTok 6 2 tk1 rfl hpG ?_
   refine AWp.seqJH (KeepsT.cons (k := 2) (by conv => lhs; whnf) (KeepsT.cons (k := 3) (by conv => lhs; whnf) (KeepsT.cons (k := 5) (by conv => lhs; whnf) KeepsT.nil))) (fun (z : (Sl TFault)) => [(6, .a (.d (Sl.d 2 TFault.c (some tk1) z)))]) (fun z => (H.set tk1 (some (.tok 2 z.l.length)))) (fun z => law14_FieldsParts_j12 a0 a1 x4 s5_10 z = some r) ?_ ?_
   ·intro K12 hK12
    refine AWp.seqK fun K19 hK19 => ?_
    refine AWp.region ?_
    refine AOps.s0 (Cert.assign (by conv => lhs; whnf)) rfl ?_
    refine AOps.nil ?_
    refine hK19 _ ?_
    clear hK19 K19
    refine AWp.block ?_
    refine AWp.loopH (KeepsT.cons (k := 2) (by conv => lhs; whnf) (KeepsT.cons (k := 3) (by conv => lhs; whnf) (KeepsT.cons (k := 5) (by conv => lhs; whnf) KeepsT.nil))) (fun (z : Nat × (Sl TFault) × Nat) => [(6, .a (.d (Sl.d 2 TFault.c (some tk1) z.2.1))), (7, .a (.d (.int .i64 ((z.2.2 : Nat) : Int))))]) (fun z => (H.set tk1 (some (.tok 2 z.2.1.l.length)))) (fun z => z.1) (fun z => law14_FieldsParts_l20 a0 a1 x4 s5_10 z.1 z.2.1 z.2.2 = some r) ((a1.FOps.l.length + 1), (Sl.nil : Sl TFault), 0) hE Weak.toA ?_
    rintro ⟨n20, s6_21, s7_22⟩ hE K20 hK20
    try dsimp only at hE
    cases n20 with
    | zero => cases hE
    | succ n20 =>
      rw [law14_FieldsParts_l20] at hE
      refine AWp.seqK fun K23 hK23 => ?_
      refine AWp.seqK fun K24 hK24 => ?_
      refine AWp.region ?_
      refine AOps.s0 (Cert.move (by conv => lhs; whnf)) rfl ?_
      refine AOps.s0 (Cert.fieldV (Try.tab_ok _ _ rfl) rfl rfl (Try.tab_ok _ _ rfl) rfl rfl (by conv => lhs; whnf)) rfl ?_
      refine AOps.s0 (Cert.loadV (Try.tab_ok _ _ rfl) rfl rfl rfl) rfl ?_
      refine AOps.sLen (f := TOp.c) (s := a1.FOps) (Try.tab_ok _ _ rfl) rfl rfl rfl rfl fun hL25 => ?_
      refine AOps.s0 (Cert.binI rfl rfl rfl) rfl ?_
      refine AOps.nil ?_
      refine hK24 _ ?_
      clear hK24 K24
      refine AWp.cond rfl (fun hc26 => ?_) (fun hc26 => ?_)
      ·have hE := condT hc26 hE
       try dsimp only at hc26
       have hf26 := of_decide_eq_true hc26
       refine AWp.skip ?_
       refine hK23 _ ?_
       clear hK23 K23
       refine AWp.seqK fun K27 hK27 => ?_
       refine AWp.block ?_
       refine AWp.seqK fun K28 hK28 => ?_
       refine AWp.draw rfl ?_
       refine DOps.s0 (Cert.loadV (Try.tab_ok _ _ rfl) rfl rfl rfl) rfl ?_
       refine DOps.s0 (Cert.fieldV (Try.tab_ok _ _ rfl) rfl rfl (Try.tab_ok _ _ rfl) rfl rfl (by conv => lhs; whnf)) rfl ?_
       refine DOps.s0 (Cert.loadV (Try.tab_ok _ _ rfl) rfl rfl rfl) rfl ?_
       refine DOps.s0 (Cert.move (by conv => lhs; whnf)) rfl ?_
       refine DOps.s0 (Cert.move (by conv => lhs; whnf)) rfl ?_
       refine DOps.s0 (Cert.addI rfl rfl (by first | omega | (dsimp only; omega)) (by first | omega | (dsimp only; omega))) rfl ?_
       obtain ⟨x29, gx29, hE⟩ := bindO_some hE
       refine DOps.s0 (Cert.partM (f := TOp.c) (l := (some ((s7_22 : Nat) : Int))) (r := (some (((s7_22 + 1) : Nat) : Int))) (Try.tab_ok _ _ rfl) rfl (Try.tab_ok _ _ rfl) rfl rfl rfl rfl gx29) rfl ?_
       refine DOps.s0 (Cert.fieldV (Try.tab_ok _ _ rfl) rfl rfl (Try.tab_ok _ _ rfl) rfl rfl (by conv => lhs; whnf)) rfl ?_
       refine DOps.s0 (Cert.loadV (Try.tab_ok _ _ rfl) rfl rfl rfl) rfl ?_
       refine DOps.s0 (Cert.build Try.tab_ok rfl rfl rfl rfl rfl rfl) rfl ?_
       obtain ⟨x30, gx30, hE⟩ := bindO_some hE
       refine DOps.s0 (Cert.callP rfl rfl (fun H => fields_Check_walk gx30 H)) rfl ?_
       refine DOps.s0 (Cert.assign (by conv => lhs; whnf)) rfl ?_
       refine DOps.nil (by decide +kernel) ?_
       refine hK28 _ ?_
       clear hK28 K28
       refine AWp.seqK fun K31 hK31 => ?_
       refine AWp.seqK fun K32 hK32 => ?_
       refine AWp.region ?_
       refine AOps.s0 (Cert.move (by conv => lhs; whnf)) rfl ?_
       refine AOps.sLen (f := TFault.c) (s := x30) (Try.tab_ok _ _ rfl) rfl rfl rfl rfl fun hL33 => ?_
       refine AOps.s0 (Cert.move (by conv => lhs; whnf)) rfl ?_
       refine AOps.sLen (f := TFault.c) (s := s5_10) (Try.tab_ok _ _ rfl) rfl rfl rfl rfl fun hL34 => ?_
       refine AOps.s0 (Cert.binI rfl rfl rfl) rfl ?_
       refine AOps.s0 (Cert.move (by conv => lhs; whnf)) rfl ?_
       refine AOps.gC rfl rfl (fun hC => Cert.move (by conv => lhs; whnf)) rfl ?_
       refine AOps.gC rfl rfl (fun hC => Cert.move (by conv => lhs; whnf)) rfl ?_
       refine AOps.gC rfl rfl (fun hC => Cert.ungd (k := 48) rfl (by first | exact hC | exact andL hC | exact andL (andL hC) | exact andL (andL (andL hC)) | exact andR hC | simp_all) (Cert.lenM' (f := TFault.c) (s := x30) (Try.tab_ok _ _ rfl) rfl rfl rfl)) rfl ?_
       refine AOps.gC rfl rfl (fun hC => Cert.move (by conv => lhs; whnf)) rfl ?_
       refine AOps.gC rfl rfl (fun hC => Cert.ungd (k := 50) rfl (by first | exact hC | exact andL hC | exact andL (andL hC) | exact andL (andL (andL hC)) | exact andR hC | simp_all) (Cert.lenM' (f := TFault.c) (s := s5_10) (Try.tab_ok _ _ rfl) rfl rfl rfl)) rfl ?_
       obtain ⟨x35, gx35, hE⟩ := guardO_some hE
       refine AOps.gC rfl rfl (fun hC => Cert.ungd (k := 49) rfl (by first | exact hC | exact andL hC | exact andL (andL hC) | exact andL (andL (andL hC)) | exact andR hC | simp_all) (Cert.ungd (k := 51) rfl (by first | exact hC | exact andL hC | exact andL (andL hC) | exact andL (andL (andL hC)) | exact andR hC | simp_all) (Cert.subM rfl rfl (gx35 hC)))) rfl ?_
       obtain ⟨x36, gx36, hE⟩ := guardO_some hE
       refine AOps.gC rfl rfl (fun hC => Cert.ungd (k := 47) rfl (by first | exact hC | exact andL hC | exact andL (andL hC) | exact andL (andL (andL hC)) | exact andR hC | simp_all) (Cert.ungd (k := 52) rfl (by first | exact hC | exact andL hC | exact andL (andL hC) | exact andL (andL (andL hC)) | exact andR hC | simp_all) (Cert.partM (f := TFault.c) (l := (some x35)) (r := none) (Try.tab_ok _ _ rfl) rfl (Try.tab_ok _ _ rfl) rfl rfl rfl trivial (gx36 hC)))) rfl ?_
       refine AOps.gC rfl rfl (fun hC => Cert.move (by conv => lhs; whnf)) rfl ?_
       obtain ⟨x37, gx37, hE⟩ := guardO_some hE
       refine AOps.gC rfl rfl (fun hC => Cert.ungd (k := 53) rfl (by first | exact hC | exact andL hC | exact andL (andL hC) | exact andL (andL (andL hC)) | exact andR hC | simp_all) (Cert.ungd (k := 54) rfl (by first | exact hC | exact andL hC | exact andL (andL hC) | exact andL (andL (andL hC)) | exact andR hC | simp_all) (Cert.callP rfl rfl (fun H => r10_Faults_walk (gx37 hC) H)))) rfl ?_
       refine AOps.gC rfl rfl (fun hC => Cert.ungd (k := 55) rfl (by first | exact hC | exact andL hC | exact andL (andL hC) | exact andL (andL (andL hC)) | exact andR hC | simp_all) (Cert.notB rfl)) rfl ?_
       refine AOps.s0 (Cert.pickOr rfl rfl rfl (fun h => by first | exact h | exact notT h | exact andI hC h | exact andI hC (notT h) | simp_all)) rfl ?_
       refine AOps.nil ?_
       refine hK32 _ ?_
       clear hK32 K32
       refine AWp.cond rfl (fun hc38 => ?_) (fun hc38 => ?_)
       ·have hE := condT hc38 hE
        try dsimp only at hc38
        refine AWp.seqK fun K39 hK39 => ?_
        refine AWp.region ?_
        refine AOps.s0 (Cert.assign (by conv => lhs; whnf)) rfl ?_
        refine AOps.nil ?_
        refine hK39 _ ?_
        clear hK39 K39
        refine AWp.ret ?_
        repeat (first | refine xBlock_ret ?_ | refine xThen_ret ?_)
        obtain rfl := Option.some.inj hE
        refine retQ.retF H rfl ⟨rfl, rfl⟩ ?_
        first | exact Heap.sub_set htk1 | (simp only [Heap.set_set]; exact Heap.sub_set htk1)
       ·have hE := condF hc38 hE
        try dsimp only at hc38
        refine AWp.skip ?_
        refine hK31 _ ?_
        clear hK31 K31
        refine AWp.region ?_
        refine AOps.s0 (Cert.move (by conv => lhs; whnf)) rfl ?_
        refine AOps.s0 (Cert.move (by conv => lhs; whnf)) rfl ?_
        refine AOps.s0 (Cert.move (by conv => lhs; whnf)) rfl ?_
        refine AOps.sLen (f := TFault.c) (s := x30) (Try.tab_ok _ _ rfl) rfl rfl rfl rfl fun hL40 => ?_
        refine AOps.s0 (Cert.move (by conv => lhs; whnf)) rfl ?_
        refine AOps.sLen (f := TFault.c) (s := s5_10) (Try.tab_ok _ _ rfl) rfl rfl rfl rfl fun hL41 => ?_
        obtain ⟨x42, gx42, hE⟩ := bindO_some hE
        refine AOps.s0 (Cert.subM rfl rfl gx42) rfl ?_
        obtain ⟨x43, gx43, hE⟩ := bindO_some hE
        refine AOps.s0 (Cert.partM (f := TFault.c) (l := none) (r := (some x42)) (Try.tab_ok _ _ rfl) rfl (Try.tab_ok _ _ rfl) rfl rfl trivial rfl gx43) rfl ?_
        obtain ⟨x44, gx44, hE⟩ := bindO_some hE
        refine AOps.sH (Cert.appM (f := TFault.c) (Try.tab_ok _ _ rfl) rfl (Try.tab_ok _ _ rfl) (Try.tab_ok _ _ rfl) ⟨_, rfl⟩ rfl rfl (by decide) rfl rfl rfl rfl hpG rfl gx44) rfl ?_
        refine AOps.heq (h' := (H.set tk1 (some (.tok 2 x44.l.length)))) (by first | rfl | (rw [Heap.set_set]; rfl) | (funext n_; simp only [Heap.set]; (repeat' split) <;> first | rfl | (exfalso; simp_all; done) | (simp_all; done))) ?_
        refine AOps.s0 (Cert.assign (by conv => lhs; whnf)) rfl ?_
        refine AOps.nil ?_
        refine hK27 _ ?_
        clear hK27 K27
        refine AWp.region ?_
        refine AOps.s0 (Cert.move (by conv => lhs; whnf)) rfl ?_
        refine AOps.s0 (Cert.addI rfl rfl (by first | omega | (dsimp only; omega)) (by first | omega | (dsimp only; omega))) rfl ?_
        refine AOps.s0 (Cert.assign (by conv => lhs; whnf)) rfl ?_
        refine AOps.nil ?_
        exact hK20 _ (n20, x44, (s7_22 + 1)) Weak.toA hE (Nat.lt_succ_self _)
      ·have hE := condF hc26 hE
       try dsimp only at hc26
       refine AWp.exit ?_
       exact hK12 _ s6_21 Weak.toA hE
   ·rintro s6_13 hE
    try dsimp only at hE
    unfold law14_FieldsParts_j12 at hE
    refine AWp.seqK fun K14 hK14 => ?_
    refine AWp.region ?_
    refine AOps.s0 (Cert.loadV (Try.tab_ok _ _ rfl) rfl rfl rfl) rfl ?_
    refine AOps.s0 (Cert.loadV (Try.tab_ok _ _ rfl) rfl rfl rfl) rfl ?_
    obtain ⟨x15, gx15, hE⟩ := bindO_some hE
    refine AOps.s0 (Cert.callP rfl rfl (fun H => fields_Check_walk gx15 H)) rfl ?_
    refine AOps.s0 (Cert.move (by conv => lhs; whnf)) rfl ?_
    refine AOps.s0 (Cert.move (by conv => lhs; whnf)) rfl ?_
    obtain ⟨x16, gx16, hE⟩ := bindO_some hE
    refine AOps.sH (Cert.appM (f := TFault.c) (Try.tab_ok _ _ rfl) rfl (Try.tab_ok _ _ rfl) (Try.tab_ok _ _ rfl) ⟨_, rfl⟩ rfl rfl (by decide) rfl rfl rfl rfl hpG rfl gx16) rfl ?_
    refine AOps.heq (h' := (H.set tk1 (some (.tok 2 x16.l.length)))) (by first | rfl | (rw [Heap.set_set]; rfl) | (funext n_; simp only [Heap.set]; (repeat' split) <;> first | rfl | (exfalso; simp_all; done) | (simp_all; done))) ?_
    obtain ⟨x17, gx17, hE⟩ := bindO_some hE
    refine AOps.s0 (Cert.callP rfl rfl (fun H => r10_Faults_walk gx17 H)) rfl ?_
    refine AOps.s0 (Cert.move (by conv => lhs; whnf)) rfl ?_
    obtain ⟨x18, gx18, hE⟩ := guardO_some hE
    refine AOps.gC rfl rfl (fun hC => Cert.callP rfl rfl (fun H => law14_knows_walk (gx18 hC) H)) rfl ?_
    refine AOps.s0 (Cert.pickAnd rfl rfl (fun h => by first | exact h | exact notT h | exact andI hC h | exact andI hC (notT h) | simp_all) rfl) rfl ?_
    refine AOps.s0 (Cert.assign (by conv => lhs; whnf)) rfl ?_
    refine AOps.nil ?_
    refine hK14 _ ?_
    clear hK14 K14
    refine AWp.ret ?_
    repeat (first | refine xBlock_ret ?_ | refine xThen_ret ?_)
    obtain rfl := Option.some.inj hE
    refine retQ.retF H rfl ⟨rfl, rfl⟩ ?_
    first | exact Heap.sub_set htk1 | (simp only [Heap.set_set]; exact Heap.sub_set htk1)
end Go.Proofs

namespace Go.Proofs
open Go Go.Ab
def schema_Find_q7 (a1 : Bs) : List TDef → Unit ⊕ ((TDef × Bool))
 | [] => Sum.inl ()
 | h7 :: r7 => on (h7) fun x15 => bif ((x15.FName == a1)) then (Sum.inr (x15, true)) else (schema_Find_q7 a1 (r7) )
theorem schema_Find_l7_qe {a0 : TDoc} {a1 : Bs}  (Kb7 : (Unit ⊕ ((TDef × Bool))) → Option (TDef × Bool)) (hend : ∀ (n7 : Nat) (s11_8 : Nat) (y9_l0 : TDef), schema_Find_j2 a0 a1  y9_l0 = Kb7 (Sum.inl ())) (hret : ∀ e : (TDef × Bool), some e = Kb7 (Sum.inr e)) : ∀ (n7 : Nat) (s11_8 : Nat) (y9_l0 : TDef), (0 < n7 ∧ a0.FDefs.l.length < s11_8 + n7) → schema_Find_l7 a0 a1 n7 s11_8 y9_l0 = Kb7 (schema_Find_q7 a1 (a0.FDefs.l.drop s11_8) ) := by
 intro n7
 induction n7 with
 | zero => intro s11_8 y9_l0 hn; exact absurd hn.1 (by omega)
 | succ n7 ih7 =>
  intro s11_8 y9_l0 hn
  rw [schema_Find_l7]
  by_cases hlt : s11_8 < a0.FDefs.l.length
  ·obtain ⟨h7, hh7⟩ : ∃ x, a0.FDefs.l[s11_8]? = some x := ⟨_, List.getElem?_eq_getElem hlt⟩
   rw [Q.drop_of hh7, schema_Find_q7]
   refine Q.condT (Q.ltT hlt) ?_
   refine Q.bindP hh7 fun x15 hx_x15 => ?_
   refine Q.condP ?_ ?_
   ·all_goals exact hret _
   ·all_goals exact ih7 _ _ ⟨by omega, by omega⟩
  ·rw [List.drop_of_length_le (by omega), schema_Find_q7]
   refine Q.condF (Q.ltF hlt) ?_
   exact hend n7 s11_8 y9_l0
def schema_Find_q (a0 : TDoc) (a1 : Bs) : (TDef × Bool) := on (schema_Find_q7 a1 a0.FDefs.l ) fun o7 => match o7 with | Sum.inl _ => (on (()) fun _ => ((TDef.mk (0 : Int) ([] : Bs) (Sl.nil : Sl Bs) (Sl.nil : Sl TDir) (Sl.nil : Sl TField) (Sl.nil : Sl TMember) (Sl.nil : Sl TInput)), false)) | Sum.inr e7 => (e7)
theorem schema_Find_eq (a0 : TDoc) (a1 : Bs) : schema_Find a0 a1 = some (schema_Find_q a0 a1) := by
 unfold schema_Find schema_Find_q
 refine Q.wrapPP fun Kb7 hKb7 => ?_
 refine schema_Find_l7_qe  Kb7 ?_ ?_ _ _ _ ⟨Nat.succ_pos _, by omega⟩
 ·intro n7 s11_8 y9_l0
  refine Eq.trans ?_ (hKb7 _).symm
  try dsimp only
  refine Q.wrapPP fun Kj2 hKj2 => ?_
  have hj2 : ∀ (y3_l0 : TDef), schema_Find_j2 a0 a1 y3_l0 = Kj2 () := by
   intro y3_l0
   refine Eq.trans ?_ (hKj2 _).symm
   try dsimp only
   unfold schema_Find_j2
   all_goals rfl
  all_goals exact hj2 _
 ·intro e7
  refine Eq.trans ?_ (hKb7 _).symm
  try dsimp only
  all_goals rfl
def schema_kind_q (a0 : TDoc) (a1 : Bs) : Int := on (schema_Find_q a0 a1) fun x3 => x3.1.FKind
theorem schema_kind_eq (a0 : TDoc) (a1 : Bs) : schema_kind a0 a1 = some (schema_kind_q a0 a1) := by
 unfold schema_kind schema_kind_q
 refine Q.bindP (schema_Find_eq _ _) fun x3 hx_x3 => ?_
 all_goals rfl
def schema_Scalar_q (a0 : Bs) : Bool := (((((a0 == ([73, 110, 116] : Bs))) || ((a0 == ([83, 116, 114, 105, 110, 103] : Bs)))) || ((a0 == ([66, 111, 111, 108, 101, 97, 110] : Bs)))) || ((a0 == ([73, 68] : Bs))))
theorem schema_Scalar_eq (a0 : Bs) : schema_Scalar a0 = some (schema_Scalar_q a0) := by
 unfold schema_Scalar schema_Scalar_q
 all_goals rfl
def schema_Composite_q (a0 : TDoc) (a1 : Bs) : Bool := on (schema_kind_q a0 a1) fun x3 => on (schema_Scalar_q a1) fun x5 => ((!x5) && (((decide (x3 = (1 : Int))) || (decide (x3 = (2 : Int)))) || (decide (x3 = (3 : Int)))))
theorem schema_Composite_eq (a0 : TDoc) (a1 : Bs) : schema_Composite a0 a1 = some (schema_Composite_q a0 a1) := by
 unfold schema_Composite schema_Composite_q
 refine Q.bindP (schema_kind_eq _ _) fun x3 hx_x3 => ?_
 refine Q.bindP (schema_Scalar_eq _) fun x5 hx_x5 => ?_
 all_goals rfl
def slices_Clone_intint_q (a0 : (Sl Int)) : Option (Sl Int) := bif a0.nl then (some (Sl.nil : Sl Int)) else ((appC 8 (⟨false, []⟩ : Sl Int) a0).bind fun x7 => some x7)
theorem slices_Clone_intint_eq (a0 : (Sl Int)) : slices_Clone_intint a0 = slices_Clone_intint_q a0 := by
 unfold slices_Clone_intint slices_Clone_intint_q
 refine Eq.trans ?_ (Q.some_bind _)
 refine Q.condO ?_ ?_
 ·all_goals rfl
 ·refine Q.bindO rfl fun x7 => ?_
  all_goals rfl
def typeref_IsNonNull_q (a0 : TRef) : Bool := on (bif (decide ((0 : Int) < ((a0.FWraps.l.length : Nat) : Int))) then ((a0.FWraps.l)[0]?.getD (0 : Int)) else (0 : Int)) fun x4 => ((decide ((0 : Int) < ((a0.FWraps.l.length : Nat) : Int))) && (decide (x4 = (1 : Int))))
theorem typeref_IsNonNull_eq (a0 : TRef) : typeref_IsNonNull a0 = some (typeref_IsNonNull_q a0) := by
 unfold typeref_IsNonNull typeref_IsNonNull_q
 refine Q.guardT (fun hc => Q.getD_some (by simp at hc; omega)) fun x4 hx_x4 => ?_
 all_goals rfl
def typeref_NonNull_q (a0 : TRef) : Option TRef := on (typeref_IsNonNull_q a0) fun x4 => bif x4 then ((slices_Clone_intint_q a0.FWraps).bind fun x7 => some (TRef.mk a0.FName x7)) else ((appC 8 (⟨false, [(1 : Int)]⟩ : Sl Int) a0.FWraps).bind fun x9 => some (TRef.mk a0.FName x9))
theorem typeref_NonNull_eq (a0 : TRef) : typeref_NonNull a0 = typeref_NonNull_q a0 := by
 unfold typeref_NonNull typeref_NonNull_q
 refine Eq.trans ?_ (Q.some_bind _)
 refine Q.bindPO (typeref_IsNonNull_eq _) fun x4 hx_x4 => ?_
 refine Q.condO ?_ ?_
 ·refine Q.bindO (slices_Clone_intint_eq _) fun x7 => ?_
  all_goals rfl
 ·refine Q.bindO rfl fun x9 => ?_
  all_goals rfl
def typeref_Named_q (a0 : Bs) : TRef := (TRef.mk a0 (Sl.nil : Sl Int))
theorem typeref_Named_eq (a0 : Bs) : typeref_Named a0 = some (typeref_Named_q a0) := by
 unfold typeref_Named typeref_Named_q
 all_goals rfl
def schema_FieldOf_q7 (a1 : Bs) : List TField → Unit ⊕ ((TField × Bool))
 | [] => Sum.inl ()
 | h7 :: r7 => on (h7) fun x15 => bif ((x15.FName == a1)) then (Sum.inr (x15, true)) else (schema_FieldOf_q7 a1 (r7) )
theorem schema_FieldOf_l7_qe {a0 : TDef} {a1 : Bs}  (Kb7 : (Unit ⊕ ((TField × Bool))) → Option (TField × Bool)) (hend : ∀ (n7 : Nat) (s11_8 : Nat) (y9_l0 : TField), schema_FieldOf_j2 a0 a1  y9_l0 = Kb7 (Sum.inl ())) (hret : ∀ e : (TField × Bool), some e = Kb7 (Sum.inr e)) : ∀ (n7 : Nat) (s11_8 : Nat) (y9_l0 : TField), (0 < n7 ∧ a0.FFields.l.length < s11_8 + n7) → schema_FieldOf_l7 a0 a1 n7 s11_8 y9_l0 = Kb7 (schema_FieldOf_q7 a1 (a0.FFields.l.drop s11_8) ) := by
 intro n7
 induction n7 with
 | zero => intro s11_8 y9_l0 hn; exact absurd hn.1 (by omega)
 | succ n7 ih7 =>
  intro s11_8 y9_l0 hn
  rw [schema_FieldOf_l7]
  by_cases hlt : s11_8 < a0.FFields.l.length
  ·obtain ⟨h7, hh7⟩ : ∃ x, a0.FFields.l[s11_8]? = some x := ⟨_, List.getElem?_eq_getElem hlt⟩
   rw [Q.drop_of hh7, schema_FieldOf_q7]
   refine Q.condT (Q.ltT hlt) ?_
   refine Q.bindP hh7 fun x15 hx_x15 => ?_
   refine Q.condP ?_ ?_
   ·all_goals exact hret _
   ·all_goals exact ih7 _ _ ⟨by omega, by omega⟩
  ·rw [List.drop_of_length_le (by omega), schema_FieldOf_q7]
   refine Q.condF (Q.ltF hlt) ?_
   exact hend n7 s11_8 y9_l0
def schema_FieldOf_q (a0 : TDef) (a1 : Bs) : (TField × Bool) := on (schema_FieldOf_q7 a1 a0.FFields.l ) fun o7 => match o7 with | Sum.inl _ => (on (()) fun _ => ((TField.mk ([] : Bs) (Sl.nil : Sl TInput) TRef.zero (Sl.nil : Sl TDir)), false)) | Sum.inr e7 => (e7)
theorem schema_FieldOf_eq (a0 : TDef) (a1 : Bs) : schema_FieldOf a0 a1 = some (schema_FieldOf_q a0 a1) := by
 unfold schema_FieldOf schema_FieldOf_q
 refine Q.wrapPP fun Kb7 hKb7 => ?_
 refine schema_FieldOf_l7_qe  Kb7 ?_ ?_ _ _ _ ⟨Nat.succ_pos _, by omega⟩
 ·intro n7 s11_8 y9_l0
  refine Eq.trans ?_ (hKb7 _).symm
  try dsimp only
  refine Q.wrapPP fun Kj2 hKj2 => ?_
  have hj2 : ∀ (y3_l0 : TField), schema_FieldOf_j2 a0 a1 y3_l0 = Kj2 () := by
   intro y3_l0
   refine Eq.trans ?_ (hKj2 _).symm
   try dsimp only
   unfold schema_FieldOf_j2
   all_goals rfl
  all_goals exact hj2 _
 ·intro e7
  refine Eq.trans ?_ (hKb7 _).symm
  try dsimp only
  all_goals rfl
def fields_Type_q (a0 : TDoc) (a1 : Bs) (a2 : Bs) : Option (TRef × Bool) := on (schema_Composite_q a0 a1) fun x4 => bif (!x4) then (some ((TRef.mk ([] : Bs) (Sl.nil : Sl Int)), false)) else (bif ((a2 == ([95, 95, 116, 121, 112, 101, 110, 97, 109, 101] : Bs))) then (on (typeref_Named_q ([83, 116, 114, 105, 110, 103] : Bs)) fun x11 => (typeref_NonNull_q x11).bind fun x12 => some (x12, true)) else (on (schema_Find_q a0 a1) fun x14 => on (schema_FieldOf_q x14.1 a2) fun x16 => bif (!x16.2) then (some ((TRef.mk ([] : Bs) (Sl.nil : Sl Int)), false)) else ((slices_Clone_intint_q x16.1.FType.FWraps).bind fun x22 => some ((TRef.mk x16.1.FType.FName x22), true))))
theorem fields_Type_eq (a0 : TDoc) (a1 : Bs) (a2 : Bs) : fields_Type a0 a1 a2 = fields_Type_q a0 a1 a2 := by
 unfold fields_Type fields_Type_q
 refine Eq.trans ?_ (Q.some_bind _)
 refine Q.bindPO (schema_Composite_eq _ _) fun x4 hx_x4 => ?_
 refine Q.condO ?_ ?_
 ·all_goals rfl
 ·refine Q.condO ?_ ?_
  ·refine Q.bindPO (typeref_Named_eq _) fun x11 hx_x11 => ?_
   refine Q.bindO (typeref_NonNull_eq _) fun x12 => ?_
   all_goals rfl
  ·refine Q.bindPO (schema_Find_eq _ _) fun x14 hx_x14 => ?_
   refine Q.bindPO (schema_FieldOf_eq _ _) fun x16 hx_x16 => ?_
   refine Q.condO ?_ ?_
   ·all_goals rfl
   ·refine Q.bindO (slices_Clone_intint_eq _) fun x22 => ?_
    all_goals rfl
def r05_same_q11 (a1 : (Sl Int)) : List Int → Nat → Option (Unit ⊕ Bool)
 | [], s5_12 => some (Sum.inl ())
 | h11 :: r11, s5_12 => on (h11) fun x19 => (a1.l[s5_12]?).bind fun x20 => bif (!decide (x19 = x20)) then (some (Sum.inr false)) else (r05_same_q11 a1 (r11) (s5_12 + 1) )
theorem r05_same_l11_qe {a0 : (Sl Int)} {a1 : (Sl Int)}  (Kb11 : (Unit ⊕ Bool) → Option Bool) (hend : ∀ (n11 : Nat) (s5_12 : Nat), r05_same_j8 a0 a1   = Kb11 (Sum.inl ())) (hret : ∀ e : Bool, some e = Kb11 (Sum.inr e)) : ∀ (n11 : Nat) (s5_12 : Nat), (0 < n11 ∧ a0.l.length < s5_12 + n11) → r05_same_l11 a0 a1 n11 s5_12 = Option.bind (r05_same_q11 a1 (a0.l.drop s5_12) s5_12 ) Kb11 := by
 intro n11
 induction n11 with
 | zero => intro s5_12 hn; exact absurd hn.1 (by omega)
 | succ n11 ih11 =>
  intro s5_12 hn
  rw [r05_same_l11]
  by_cases hlt : s5_12 < a0.l.length
  ·obtain ⟨h11, hh11⟩ : ∃ x, a0.l[s5_12]? = some x := ⟨_, List.getElem?_eq_getElem hlt⟩
   rw [Q.drop_of hh11, r05_same_q11]
   refine Q.condT (Q.ltT hlt) ?_
   refine Q.bindPO hh11 fun x19 hx_x19 => ?_
   refine Q.bindO rfl fun x20 => ?_
   refine Q.condO ?_ ?_
   ·all_goals exact hret _
   ·all_goals exact ih11 _ ⟨by omega, by omega⟩
  ·rw [List.drop_of_length_le (by omega), r05_same_q11]
   refine Q.condF (Q.ltF hlt) ?_
   exact hend n11 s5_12
def r05_same_q (a0 : (Sl Int)) (a1 : (Sl Int)) : Option Bool := bif (!decide (((a0.l.length : Nat) : Int) = ((a1.l.length : Nat) : Int))) then (some false) else (Option.bind (r05_same_q11 a1 a0.l 0 ) fun o11 => match o11 with | Sum.inl _ => (on (()) fun _ => some true) | Sum.inr e11 => (some e11))
theorem r05_same_eq (a0 : (Sl Int)) (a1 : (Sl Int)) : r05_same a0 a1 = r05_same_q a0 a1 := by
 unfold r05_same r05_same_q
 refine Eq.trans ?_ (Q.some_bind _)
 refine Q.condO ?_ ?_
 ·all_goals rfl
 ·refine Q.wrapOO fun Kb11 hKb11 => ?_
  refine r05_same_l11_qe  Kb11 ?_ ?_ _ _ ⟨Nat.succ_pos _, by omega⟩
  ·intro n11 s5_12
   refine Eq.trans ?_ (hKb11 _).symm
   try dsimp only
   refine Q.wrapPO fun Kj8 hKj8 => ?_
   have hj8 : r05_same_j8 a0 a1  = Kj8 () := by
    refine Eq.trans ?_ (hKj8 _).symm
    try dsimp only
    unfold r05_same_j8
    all_goals rfl
   all_goals exact hj8
  ·intro e11
   refine Eq.trans ?_ (hKb11 _).symm
   try dsimp only
   all_goals rfl
def r05_Same_q (a0 : TRef) (a1 : TRef) : Option Bool := guardO (((a0.FName == a1.FName))) (r05_same_q a0.FWraps a1.FWraps) false fun x3 => some (((a0.FName == a1.FName)) && x3)
theorem r05_Same_eq (a0 : TRef) (a1 : TRef) : r05_Same a0 a1 = r05_Same_q a0 a1 := by
 unfold r05_Same r05_Same_q
 refine Eq.trans ?_ (Q.some_bind _)
 refine Q.guardOO (r05_same_eq _ _) fun x3 => ?_
 all_goals rfl
def schema_Root_q (a0 : Int) : Bs := bif (decide (a0 = (1 : Int))) then (([81, 117, 101, 114, 121] : Bs)) else (bif (decide (a0 = (2 : Int))) then (([77, 117, 116, 97, 116, 105, 111, 110] : Bs)) else (bif (decide (a0 = (3 : Int))) then (([83, 117, 98, 115, 99, 114, 105, 112, 116, 105, 111, 110] : Bs)) else (([] : Bs))))
theorem schema_Root_eq (a0 : Int) : schema_Root a0 = some (schema_Root_q a0) := by
 unfold schema_Root schema_Root_q
 refine Q.condP ?_ ?_
 ·all_goals rfl
 ·refine Q.condP ?_ ?_
  ·all_goals rfl
  ·refine Q.condP ?_ ?_
   ·all_goals rfl
   ·all_goals rfl
def fields_checker_roots_q23 (a0 : Fields_checker) (x14 : TSel) (k_rec_30 : Fields_checker → (Sl TSel) → (List Bs) → (List Bs) → Option ((List Bs) × (List Bs))) : List TFrag → (List Bs) → (List Bs) → Option (((List Bs) × (List Bs)))
 | [], y25_c2, y26_c3 => some (y25_c2, y26_c3)
 | h23 :: r23, y25_c2, y26_c3 => on (h23) fun x34 => Option.bind (bif (((x34.FName == x14.FName)) && (!(y26_c3.contains x14.FName))) then ((k_rec_30 a0 x34.FSels y25_c2 (insS y26_c3 x14.FName)).bind fun x38 => some (x38.1, x38.2)) else (some (y25_c2, y26_c3))) fun z30 => fields_checker_roots_q23 a0 x14 k_rec_30 (r23) z30.1 z30.2
theorem fields_checker_roots_l23_qe {a0 : Fields_checker} {a1 : (Sl TSel)} {a2 : (List Bs)} {a3 : (List Bs)} {n3 : Nat} {s14_4 : Nat} {y5_c2 : (List Bs)} {y6_c3 : (List Bs)} {x14 : TSel} {k_next_3 : Nat → (List Bs) → (List Bs) → Option ((List Bs) × (List Bs))} {k_rec_30 : Fields_checker → (Sl TSel) → (List Bs) → (List Bs) → Option ((List Bs) × (List Bs))}  (Kb23 : (((List Bs) × (List Bs))) → Option ((List Bs) × (List Bs))) (hend : ∀ (n23 : Nat) (s45_24 : Nat) (y25_c2 : (List Bs)) (y26_c3 : (List Bs)), fields_checker_roots_j10 a0 a1 a2 a3 n3 s14_4 y5_c2 y6_c3 k_next_3 y25_c2 y26_c3 = Kb23 (y25_c2, y26_c3)) : ∀ (n23 : Nat) (s45_24 : Nat) (y25_c2 : (List Bs)) (y26_c3 : (List Bs)), (0 < n23 ∧ a0.Fq.FFrags.l.length < s45_24 + n23) → fields_checker_roots_l23 a0 a1 a2 a3 n3 s14_4 y5_c2 y6_c3 x14 k_next_3 k_rec_30 n23 s45_24 y25_c2 y26_c3 = Option.bind (fields_checker_roots_q23 a0 x14 k_rec_30 (a0.Fq.FFrags.l.drop s45_24) y25_c2 y26_c3) Kb23 := by
 intro n23
 induction n23 with
 | zero => intro s45_24 y25_c2 y26_c3 hn; exact absurd hn.1 (by omega)
 | succ n23 ih23 =>
  intro s45_24 y25_c2 y26_c3 hn
  rw [fields_checker_roots_l23]
  by_cases hlt : s45_24 < a0.Fq.FFrags.l.length
  ·obtain ⟨h23, hh23⟩ : ∃ x, a0.Fq.FFrags.l[s45_24]? = some x := ⟨_, List.getElem?_eq_getElem hlt⟩
   rw [Q.drop_of hh23, fields_checker_roots_q23]
   refine Q.condT (Q.ltT hlt) ?_
   refine Q.bindPO hh23 fun x34 hx_x34 => ?_
   refine Q.wrapOO fun Kj30 hKj30 => ?_
   have hj30 : ∀ (y31_c2 : (List Bs)) (y32_c3 : (List Bs)), fields_checker_roots_j30 a0 a1 a2 a3 n3 s14_4 y5_c2 y6_c3 x14 n23 s45_24 y25_c2 y26_c3 (fields_checker_roots_l23 a0 a1 a2 a3 n3 s14_4 y5_c2 y6_c3 x14 k_next_3 k_rec_30 n23) y31_c2 y32_c3 = Kj30 (y31_c2, y32_c3) := by
    intro y31_c2 y32_c3
    refine Eq.trans ?_ (hKj30 _).symm
    try dsimp only
    unfold fields_checker_roots_j30
    all_goals exact ih23 _ _ _ ⟨by omega, by omega⟩
   refine Q.condO ?_ ?_
   ·refine Q.bindO rfl fun x38 => ?_
    all_goals exact hj30 _ _
   ·all_goals exact hj30 _ _
  ·rw [List.drop_of_length_le (by omega), fields_checker_roots_q23]
   refine Q.condF (Q.ltF hlt) ?_
   exact hend n23 s45_24 y25_c2 y26_c3
def fields_checker_roots_q3 (a0 : Fields_checker) (k_rec_30 : Fields_checker → (Sl TSel) → (List Bs) → (List Bs) → Option ((List Bs) × (List Bs))) : List TSel → (List Bs) → (List Bs) → Option (((List Bs) × (List Bs)))
 | [], y5_c2, y6_c3 => some (y5_c2, y6_c3)
 | h3 :: r3, y5_c2, y6_c3 => on (h3) fun x14 => Option.bind (bif (decide (x14.FKind = (3 : Int))) then ((k_rec_30 a0 x14.FSels y5_c2 y6_c3).bind fun x18 => some (x18.1, x18.2)) else (bif (decide (x14.FKind = (2 : Int))) then (Option.bind (fields_checker_roots_q23 a0 x14 k_rec_30 a0.Fq.FFrags.l y5_c2 y6_c3) fun z23 => some (z23.1, z23.2)) else (bif (!(x14.FAlias == ([] : Bs))) then (some ((insS y5_c2 x14.FAlias), y6_c3)) else (some ((insS y5_c2 x14.FName), y6_c3))))) fun z10 => fields_checker_roots_q3 a0 k_rec_30 (r3) z10.1 z10.2
theorem fields_checker_roots_l3_qe {a0 : Fields_checker} {a1 : (Sl TSel)} {a2 : (List Bs)} {a3 : (List Bs)} {k_rec_30 : Fields_checker → (Sl TSel) → (List Bs) → (List Bs) → Option ((List Bs) × (List Bs))}  (Kb3 : (((List Bs) × (List Bs))) → Option ((List Bs) × (List Bs))) (hend : ∀ (n3 : Nat) (s14_4 : Nat) (y5_c2 : (List Bs)) (y6_c3 : (List Bs)), some (y5_c2, y6_c3) = Kb3 (y5_c2, y6_c3)) : ∀ (n3 : Nat) (s14_4 : Nat) (y5_c2 : (List Bs)) (y6_c3 : (List Bs)), (0 < n3 ∧ a1.l.length < s14_4 + n3) → fields_checker_roots_l3 a0 a1 a2 a3 k_rec_30 n3 s14_4 y5_c2 y6_c3 = Option.bind (fields_checker_roots_q3 a0 k_rec_30 (a1.l.drop s14_4) y5_c2 y6_c3) Kb3 := by
 intro n3
 induction n3 with
 | zero => intro s14_4 y5_c2 y6_c3 hn; exact absurd hn.1 (by omega)
 | succ n3 ih3 =>
  intro s14_4 y5_c2 y6_c3 hn
  rw [fields_checker_roots_l3]
  by_cases hlt : s14_4 < a1.l.length
  ·obtain ⟨h3, hh3⟩ : ∃ x, a1.l[s14_4]? = some x := ⟨_, List.getElem?_eq_getElem hlt⟩
   rw [Q.drop_of hh3, fields_checker_roots_q3]
   refine Q.condT (Q.ltT hlt) ?_
   refine Q.bindPO hh3 fun x14 hx_x14 => ?_
   refine Q.wrapOO fun Kj10 hKj10 => ?_
   have hj10 : ∀ (y11_c2 : (List Bs)) (y12_c3 : (List Bs)), fields_checker_roots_j10 a0 a1 a2 a3 n3 s14_4 y5_c2 y6_c3 (fields_checker_roots_l3 a0 a1 a2 a3 k_rec_30 n3) y11_c2 y12_c3 = Kj10 (y11_c2, y12_c3) := by
    intro y11_c2 y12_c3
    refine Eq.trans ?_ (hKj10 _).symm
    try dsimp only
    unfold fields_checker_roots_j10
    all_goals exact ih3 _ _ _ ⟨by omega, by omega⟩
   refine Q.condO ?_ ?_
   ·refine Q.bindO rfl fun x18 => ?_
    all_goals exact hj10 _ _
   ·refine Q.condO ?_ ?_
    ·refine Q.wrapOO fun Kb23 hKb23 => ?_
     refine fields_checker_roots_l23_qe  Kb23 ?_ _ _ _ _ ⟨Nat.succ_pos _, by omega⟩
     ·intro n23 s45_24 y25_c2 y26_c3
      refine Eq.trans ?_ (hKb23 _).symm
      try dsimp only
      all_goals exact hj10 _ _
    ·refine Q.condO ?_ ?_
     ·all_goals exact hj10 _ _
     ·all_goals exact hj10 _ _
  ·rw [List.drop_of_length_le (by omega), fields_checker_roots_q3]
   refine Q.condF (Q.ltF hlt) ?_
   exact hend n3 s14_4 y5_c2 y6_c3
def fields_checker_roots_qn : Nat → Fields_checker → (Sl TSel) → (List Bs) → (List Bs) → Option ((List Bs) × (List Bs))
 | 0, _, _, _, _ => none
 | n + 1, a0, a1, a2, a3 => Option.bind (fields_checker_roots_q3 a0 (fields_checker_roots_qn n) a1.l a2 a3) fun z3 => some (z3.1, z3.2)
theorem fields_checker_roots_qall : ∀ n : Nat, fields_checker_roots_n n = fields_checker_roots_qn n := by
 intro n
 induction n with
 | zero => exact (by funext a0 a1 a2 a3; first | rfl | (rw [fields_checker_roots_n, fields_checker_roots_qn]))
 | succ n ih =>
  funext a0 a1 a2 a3
  refine Eq.trans ?_ (Q.some_bind _)
  rw [fields_checker_roots_n, fields_checker_roots_qn]
  try rw [ih]
  refine Q.wrapOO fun Kb3 hKb3 => ?_
  refine fields_checker_roots_l3_qe  Kb3 ?_ _ _ _ _ ⟨Nat.succ_pos _, by omega⟩
  ·intro n3 s14_4 y5_c2 y6_c3
   refine Eq.trans ?_ (hKb3 _).symm
   try dsimp only
   all_goals rfl
def fields_checker_roots_q (a0 : Fields_checker) (a1 : (Sl TSel)) (a2 : (List Bs)) (a3 : (List Bs)) : Option ((List Bs) × (List Bs)) := fields_checker_roots_qn F0 a0 a1 a2 a3
theorem fields_checker_roots_eq (a0 : Fields_checker) (a1 : (Sl TSel)) (a2 : (List Bs)) (a3 : (List Bs)) : fields_checker_roots a0 a1 a2 a3 = fields_checker_roots_q a0 a1 a2 a3 := by
 unfold fields_checker_roots fields_checker_roots_q; rw [(fields_checker_roots_qall F0)]
def fields_checker_add_q (a0 : Fields_checker) (a1 : Bool) (a2 : Int) (a3 : Bs) : Option Fields_checker := bif a1 then ((appC 24 a0.Fout (⟨false, [(TFault.mk a2 a3)]⟩ : Sl TFault)).bind fun x3 => some (Fields_checker.mk a0.Fd a0.Fq x3)) else (some a0)
theorem fields_checker_add_eq (a0 : Fields_checker) (a1 : Bool) (a2 : Int) (a3 : Bs) : fields_checker_add a0 a1 a2 a3 = fields_checker_add_q a0 a1 a2 a3 := by
 unfold fields_checker_add fields_checker_add_q
 refine Eq.trans ?_ (Q.some_bind _)
 refine Q.condO ?_ ?_
 ·refine Q.bindO rfl fun x3 => ?_
  all_goals rfl
 ·all_goals rfl
def fields_needed_q (a0 : Bs) (a1 : Bs) : Option TInput := on (typeref_Named_q a1) fun x3 => (typeref_NonNull_q x3).bind fun x4 => some (TInput.mk a0 x4 false TValue.zero (Sl.nil : Sl TDir))
theorem fields_needed_eq (a0 : Bs) (a1 : Bs) : fields_needed a0 a1 = fields_needed_q a0 a1 := by
 unfold fields_needed fields_needed_q
 refine Eq.trans ?_ (Q.some_bind _)
 refine Q.bindPO (typeref_Named_eq _) fun x3 hx_x3 => ?_
 refine Q.bindO (typeref_NonNull_eq _) fun x4 => ?_
 all_goals rfl
def fields_argsOf_q (a0 : Bs) (a1 : Bool) : Option (Sl TInput) := bif (((a0 == ([115, 107, 105, 112] : Bs))) || ((a0 == ([105, 110, 99, 108, 117, 100, 101] : Bs)))) then ((fields_needed_q ([105, 102] : Bs) ([66, 111, 111, 108, 101, 97, 110] : Bs)).bind fun x6 => some (⟨false, [x6]⟩ : Sl TInput)) else (bif (((a0 == ([100, 101, 102, 101, 114] : Bs))) && (!a1)) then ((fields_needed_q ([108, 97, 98, 101, 108] : Bs) ([83, 116, 114, 105, 110, 103] : Bs)).bind fun x10 => some (⟨false, [x10]⟩ : Sl TInput)) else (bif (((a0 == ([115, 116, 114, 101, 97, 109] : Bs))) && a1) then ((fields_needed_q ([108, 97, 98, 101, 108] : Bs) ([83, 116, 114, 105, 110, 103] : Bs)).bind fun x14 => (fields_needed_q ([105, 110, 105, 116, 105, 97, 108, 67, 111, 117, 110, 116] : Bs) ([73, 110, 116] : Bs)).bind fun x15 => some (⟨false, [x14, x15]⟩ : Sl TInput)) else (some (Sl.nil : Sl TInput))))
theorem fields_argsOf_eq (a0 : Bs) (a1 : Bool) : fields_argsOf a0 a1 = fields_argsOf_q a0 a1 := by
 unfold fields_argsOf fields_argsOf_q
 refine Eq.trans ?_ (Q.some_bind _)
 refine Q.condO ?_ ?_
 ·refine Q.bindO (fields_needed_eq _ _) fun x6 => ?_
  all_goals rfl
 ·refine Q.condO ?_ ?_
  ·refine Q.bindO (fields_needed_eq _ _) fun x10 => ?_
   all_goals rfl
  ·refine Q.condO ?_ ?_
   ·refine Q.bindO (fields_needed_eq _ _) fun x14 => ?_
    refine Q.bindO (fields_needed_eq _ _) fun x15 => ?_
    all_goals rfl
   ·all_goals rfl
def typeref_Nullable_q (a0 : TRef) : Option TRef := on (typeref_IsNonNull_q a0) fun x8 => Option.bind (bif x8 then ((partC a0.FWraps (some (1 : Int)) none).bind fun x10 => some x10) else (some a0.FWraps)) fun s3_4 => (slices_Clone_intint_q s3_4).bind fun x6 => some (TRef.mk a0.FName x6)
theorem typeref_Nullable_eq (a0 : TRef) : typeref_Nullable a0 = typeref_Nullable_q a0 := by
 unfold typeref_Nullable typeref_Nullable_q
 refine Eq.trans ?_ (Q.some_bind _)
 refine Q.bindPO (typeref_IsNonNull_eq _) fun x8 hx_x8 => ?_
 refine Q.wrapOO fun Kj3 hKj3 => ?_
 have hj3 : ∀ (s3_4 : (Sl Int)), typeref_Nullable_j3 a0 s3_4 = Kj3 s3_4 := by
  intro s3_4
  refine Eq.trans ?_ (hKj3 _).symm
  try dsimp only
  unfold typeref_Nullable_j3
  refine Q.bindO (slices_Clone_intint_eq _) fun x6 => ?_
  all_goals rfl
 refine Q.condO ?_ ?_
 ·refine Q.bindO rfl fun x10 => ?_
  all_goals exact hj3 _
 ·all_goals exact hj3 _
def typeref_IsList_q (a0 : TRef) : Option Bool := (typeref_Nullable_q a0).bind fun x3 => on (bif (decide ((0 : Int) < ((x3.FWraps.l.length : Nat) : Int))) then ((x3.FWraps.l)[0]?.getD (0 : Int)) else (0 : Int)) fun x6 => some ((decide ((0 : Int) < ((x3.FWraps.l.length : Nat) : Int))) && (decide (x6 = (2 : Int))))
theorem typeref_IsList_eq (a0 : TRef) : typeref_IsList a0 = typeref_IsList_q a0 := by
 unfold typeref_IsList typeref_IsList_q
 refine Eq.trans ?_ (Q.some_bind _)
 refine Q.bindO (typeref_Nullable_eq _) fun x3 => ?_
 refine Q.guardTO (fun hc => Q.getD_some (by simp at hc; omega)) fun x6 hx_x6 => ?_
 all_goals rfl
def slices_IndexFunc_apiDirapiDir_q6 (a1 : (TDir → Bool)) : List TDir → Nat → Unit ⊕ Int
 | [], s8_7 => Sum.inl ()
 | h6 :: r6, s8_7 => on (h6) fun x14 => on (a1 x14) fun x15 => bif x15 then (Sum.inr ((s8_7 : Nat) : Int)) else (slices_IndexFunc_apiDirapiDir_q6 a1 (r6) (s8_7 + 1) )
theorem slices_IndexFunc_apiDirapiDir_l6_qe {a0 : (Sl TDir)} {a1 : (TDir → Bool)}  (Kb6 : (Unit ⊕ Int) → Option Int) (hend : ∀ (n6 : Nat) (s8_7 : Nat), slices_IndexFunc_apiDirapiDir_j2 a0 (fun y0 => some (a1 y0))   = Kb6 (Sum.inl ())) (hret : ∀ e : Int, some e = Kb6 (Sum.inr e)) : ∀ (n6 : Nat) (s8_7 : Nat), (0 < n6 ∧ a0.l.length < s8_7 + n6) → slices_IndexFunc_apiDirapiDir_l6 a0 (fun y0 => some (a1 y0)) n6 s8_7 = Kb6 (slices_IndexFunc_apiDirapiDir_q6 a1 (a0.l.drop s8_7) s8_7 ) := by
 intro n6
 induction n6 with
 | zero => intro s8_7 hn; exact absurd hn.1 (by omega)
 | succ n6 ih6 =>
  intro s8_7 hn
  rw [slices_IndexFunc_apiDirapiDir_l6]
  by_cases hlt : s8_7 < a0.l.length
  ·obtain ⟨h6, hh6⟩ : ∃ x, a0.l[s8_7]? = some x := ⟨_, List.getElem?_eq_getElem hlt⟩
   rw [Q.drop_of hh6, slices_IndexFunc_apiDirapiDir_q6]
   refine Q.condT (Q.ltT hlt) ?_
   refine Q.bindP hh6 fun x14 hx_x14 => ?_
   refine Q.bindP rfl fun x15 hx_x15 => ?_
   refine Q.condP ?_ ?_
   ·all_goals exact hret _
   ·all_goals exact ih6 _ ⟨by omega, by omega⟩
  ·rw [List.drop_of_length_le (by omega), slices_IndexFunc_apiDirapiDir_q6]
   refine Q.condF (Q.ltF hlt) ?_
   exact hend n6 s8_7
def slices_IndexFunc_apiDirapiDir_q (a0 : (Sl TDir)) (a1 : (TDir → Bool)) : Int := on (slices_IndexFunc_apiDirapiDir_q6 a1 a0.l 0 ) fun o6 => match o6 with | Sum.inl _ => (on (()) fun _ => (-1 : Int)) | Sum.inr e6 => (e6)
theorem slices_IndexFunc_apiDirapiDir_eq (a0 : (Sl TDir)) (a1 : (TDir → Bool)) : slices_IndexFunc_apiDirapiDir a0 (fun y0 => some (a1 y0)) = some (slices_IndexFunc_apiDirapiDir_q a0 a1) := by
 unfold slices_IndexFunc_apiDirapiDir slices_IndexFunc_apiDirapiDir_q
 refine Q.wrapPP fun Kb6 hKb6 => ?_
 refine slices_IndexFunc_apiDirapiDir_l6_qe  Kb6 ?_ ?_ _ _ ⟨Nat.succ_pos _, by omega⟩
 ·intro n6 s8_7
  refine Eq.trans ?_ (hKb6 _).symm
  try dsimp only
  refine Q.wrapPP fun Kj2 hKj2 => ?_
  have hj2 : slices_IndexFunc_apiDirapiDir_j2 a0 (fun y0 => some (a1 y0))  = Kj2 () := by
   refine Eq.trans ?_ (hKj2 _).symm
   try dsimp only
   unfold slices_IndexFunc_apiDirapiDir_j2
   all_goals rfl
  all_goals exact hj2
 ·intro e6
  refine Eq.trans ?_ (hKb6 _).symm
  try dsimp only
  all_goals rfl
def slices_IndexFunc_apiDirapiDir_q6m (a1 : (TDir → Option Bool)) : List TDir → Nat → Option (Unit ⊕ Int)
 | [], s8_7 => some (Sum.inl ())
 | h6 :: r6, s8_7 => on (h6) fun x14 => (a1 x14).bind fun x15 => bif x15 then (some (Sum.inr ((s8_7 : Nat) : Int))) else (slices_IndexFunc_apiDirapiDir_q6m a1 (r6) (s8_7 + 1) )
theorem slices_IndexFunc_apiDirapiDir_l6_qem {a0 : (Sl TDir)} {a1 : (TDir → Option Bool)}  (Kb6 : (Unit ⊕ Int) → Option Int) (hend : ∀ (n6 : Nat) (s8_7 : Nat), slices_IndexFunc_apiDirapiDir_j2 a0 a1   = Kb6 (Sum.inl ())) (hret : ∀ e : Int, some e = Kb6 (Sum.inr e)) : ∀ (n6 : Nat) (s8_7 : Nat), (0 < n6 ∧ a0.l.length < s8_7 + n6) → slices_IndexFunc_apiDirapiDir_l6 a0 a1 n6 s8_7 = Option.bind (slices_IndexFunc_apiDirapiDir_q6m a1 (a0.l.drop s8_7) s8_7 ) Kb6 := by
 intro n6
 induction n6 with
 | zero => intro s8_7 hn; exact absurd hn.1 (by omega)
 | succ n6 ih6 =>
  intro s8_7 hn
  rw [slices_IndexFunc_apiDirapiDir_l6]
  by_cases hlt : s8_7 < a0.l.length
  ·obtain ⟨h6, hh6⟩ : ∃ x, a0.l[s8_7]? = some x := ⟨_, List.getElem?_eq_getElem hlt⟩
   rw [Q.drop_of hh6, slices_IndexFunc_apiDirapiDir_q6m]
   refine Q.condT (Q.ltT hlt) ?_
   refine Q.bindPO hh6 fun x14 hx_x14 => ?_
   refine Q.bindO rfl fun x15 => ?_
   refine Q.condO ?_ ?_
   ·all_goals exact hret _
   ·all_goals exact ih6 _ ⟨by omega, by omega⟩
  ·rw [List.drop_of_length_le (by omega), slices_IndexFunc_apiDirapiDir_q6m]
   refine Q.condF (Q.ltF hlt) ?_
   exact hend n6 s8_7
def slices_IndexFunc_apiDirapiDir_qm (a0 : (Sl TDir)) (a1 : (TDir → Option Bool)) : Option Int := Option.bind (slices_IndexFunc_apiDirapiDir_q6m a1 a0.l 0 ) fun o6 => match o6 with | Sum.inl _ => (on (()) fun _ => some (-1 : Int)) | Sum.inr e6 => (some e6)
theorem slices_IndexFunc_apiDirapiDir_eqm (a0 : (Sl TDir)) (a1 : (TDir → Option Bool)) : slices_IndexFunc_apiDirapiDir a0 a1 = slices_IndexFunc_apiDirapiDir_qm a0 a1 := by
 unfold slices_IndexFunc_apiDirapiDir slices_IndexFunc_apiDirapiDir_qm
 refine Eq.trans ?_ (Q.some_bind _)
 refine Q.wrapOO fun Kb6 hKb6 => ?_
 refine slices_IndexFunc_apiDirapiDir_l6_qem  Kb6 ?_ ?_ _ _ ⟨Nat.succ_pos _, by omega⟩
 ·intro n6 s8_7
  refine Eq.trans ?_ (hKb6 _).symm
  try dsimp only
  refine Q.wrapPO fun Kj2 hKj2 => ?_
  have hj2 : slices_IndexFunc_apiDirapiDir_j2 a0 a1  = Kj2 () := by
   refine Eq.trans ?_ (hKj2 _).symm
   try dsimp only
   unfold slices_IndexFunc_apiDirapiDir_j2
   all_goals rfl
  all_goals exact hj2
 ·intro e6
  refine Eq.trans ?_ (hKb6 _).symm
  try dsimp only
  all_goals rfl
def slices_ContainsFunc_apiDirapiDir_q (a0 : (Sl TDir)) (a1 : (TDir → Bool)) : Bool := on (slices_IndexFunc_apiDirapiDir_q a0 a1) fun x3 => (decide ((0 : Int) ≤ x3))
theorem slices_ContainsFunc_apiDirapiDir_eq (a0 : (Sl TDir)) (a1 : (TDir → Bool)) : slices_ContainsFunc_apiDirapiDir a0 (fun y0 => some (a1 y0)) = some (slices_ContainsFunc_apiDirapiDir_q a0 a1) := by
 unfold slices_ContainsFunc_apiDirapiDir slices_ContainsFunc_apiDirapiDir_q
 refine Q.bindP (slices_IndexFunc_apiDirapiDir_eq _ _) fun x3 hx_x3 => ?_
 all_goals rfl
def slices_ContainsFunc_apiDirapiDir_qm (a0 : (Sl TDir)) (a1 : (TDir → Option Bool)) : Option Bool := (slices_IndexFunc_apiDirapiDir_qm a0 a1).bind fun x3 => some (decide ((0 : Int) ≤ x3))
theorem slices_ContainsFunc_apiDirapiDir_eqm (a0 : (Sl TDir)) (a1 : (TDir → Option Bool)) : slices_ContainsFunc_apiDirapiDir a0 a1 = slices_ContainsFunc_apiDirapiDir_qm a0 a1 := by
 unfold slices_ContainsFunc_apiDirapiDir slices_ContainsFunc_apiDirapiDir_qm
 refine Eq.trans ?_ (Q.some_bind _)
 refine Q.bindO (by simp only [slices_IndexFunc_apiDirapiDir_eqm]) fun x3 => ?_
 all_goals rfl
def fields_checker_dirs_1_q (a0 : TDir) (a1 : TDir) : Bool := ((a0.FName == a1.FName))
theorem fields_checker_dirs_1_eq (a0 : TDir) (a1 : TDir) : fields_checker_dirs_1 a0 a1 = some (fields_checker_dirs_1_q a0 a1) := by
 unfold fields_checker_dirs_1 fields_checker_dirs_1_q
 all_goals rfl
def fields_given_q7 (a1 : Bs) : List TArg → Unit ⊕ ((TValue × Bool))
 | [] => Sum.inl ()
 | h7 :: r7 => on (h7) fun x15 => bif ((x15.FName == a1)) then (Sum.inr (x15.FValue, true)) else (fields_given_q7 a1 (r7) )
theorem fields_given_l7_qe {a0 : (Sl TArg)} {a1 : Bs}  (Kb7 : (Unit ⊕ ((TValue × Bool))) → Option (TValue × Bool)) (hend : ∀ (n7 : Nat) (s10_8 : Nat) (y9_l0 : TValue), fields_given_j2 a0 a1  y9_l0 = Kb7 (Sum.inl ())) (hret : ∀ e : (TValue × Bool), some e = Kb7 (Sum.inr e)) : ∀ (n7 : Nat) (s10_8 : Nat) (y9_l0 : TValue), (0 < n7 ∧ a0.l.length < s10_8 + n7) → fields_given_l7 a0 a1 n7 s10_8 y9_l0 = Kb7 (fields_given_q7 a1 (a0.l.drop s10_8) ) := by
 intro n7
 induction n7 with
 | zero => intro s10_8 y9_l0 hn; exact absurd hn.1 (by omega)
 | succ n7 ih7 =>
  intro s10_8 y9_l0 hn
  rw [fields_given_l7]
  by_cases hlt : s10_8 < a0.l.length
  ·obtain ⟨h7, hh7⟩ : ∃ x, a0.l[s10_8]? = some x := ⟨_, List.getElem?_eq_getElem hlt⟩
   rw [Q.drop_of hh7, fields_given_q7]
   refine Q.condT (Q.ltT hlt) ?_
   refine Q.bindP hh7 fun x15 hx_x15 => ?_
   refine Q.condP ?_ ?_
   ·all_goals exact hret _
   ·all_goals exact ih7 _ _ ⟨by omega, by omega⟩
  ·rw [List.drop_of_length_le (by omega), fields_given_q7]
   refine Q.condF (Q.ltF hlt) ?_
   exact hend n7 s10_8 y9_l0
def fields_given_q (a0 : (Sl TArg)) (a1 : Bs) : (TValue × Bool) := on (fields_given_q7 a1 a0.l ) fun o7 => match o7 with | Sum.inl _ => (on (()) fun _ => ((TValue.mk (0 : Int) (0 : Int) ([] : Bs) true ([]) (Sl.nil : Sl Bs)), false)) | Sum.inr e7 => (e7)
theorem fields_given_eq (a0 : (Sl TArg)) (a1 : Bs) : fields_given a0 a1 = some (fields_given_q a0 a1) := by
 unfold fields_given fields_given_q
 refine Q.wrapPP fun Kb7 hKb7 => ?_
 refine fields_given_l7_qe  Kb7 ?_ ?_ _ _ _ ⟨Nat.succ_pos _, by omega⟩
 ·intro n7 s10_8 y9_l0
  refine Eq.trans ?_ (hKb7 _).symm
  try dsimp only
  refine Q.wrapPP fun Kj2 hKj2 => ?_
  have hj2 : ∀ (y3_l0 : TValue), fields_given_j2 a0 a1 y3_l0 = Kj2 () := by
   intro y3_l0
   refine Eq.trans ?_ (hKj2 _).symm
   try dsimp only
   unfold fields_given_j2
   all_goals rfl
  all_goals exact hj2 _
 ·intro e7
  refine Eq.trans ?_ (hKb7 _).symm
  try dsimp only
  all_goals rfl
def schema_InputOf_q7 (a1 : Bs) : List TInput → Unit ⊕ ((TInput × Bool))
 | [] => Sum.inl ()
 | h7 :: r7 => on (h7) fun x15 => bif ((x15.FName == a1)) then (Sum.inr (x15, true)) else (schema_InputOf_q7 a1 (r7) )
theorem schema_InputOf_l7_qe {a0 : (Sl TInput)} {a1 : Bs}  (Kb7 : (Unit ⊕ ((TInput × Bool))) → Option (TInput × Bool)) (hend : ∀ (n7 : Nat) (s10_8 : Nat) (y9_l0 : TInput), schema_InputOf_j2 a0 a1  y9_l0 = Kb7 (Sum.inl ())) (hret : ∀ e : (TInput × Bool), some e = Kb7 (Sum.inr e)) : ∀ (n7 : Nat) (s10_8 : Nat) (y9_l0 : TInput), (0 < n7 ∧ a0.l.length < s10_8 + n7) → schema_InputOf_l7 a0 a1 n7 s10_8 y9_l0 = Kb7 (schema_InputOf_q7 a1 (a0.l.drop s10_8) ) := by
 intro n7
 induction n7 with
 | zero => intro s10_8 y9_l0 hn; exact absurd hn.1 (by omega)
 | succ n7 ih7 =>
  intro s10_8 y9_l0 hn
  rw [schema_InputOf_l7]
  by_cases hlt : s10_8 < a0.l.length
  ·obtain ⟨h7, hh7⟩ : ∃ x, a0.l[s10_8]? = some x := ⟨_, List.getElem?_eq_getElem hlt⟩
   rw [Q.drop_of hh7, schema_InputOf_q7]
   refine Q.condT (Q.ltT hlt) ?_
   refine Q.bindP hh7 fun x15 hx_x15 => ?_
   refine Q.condP ?_ ?_
   ·all_goals exact hret _
   ·all_goals exact ih7 _ _ ⟨by omega, by omega⟩
  ·rw [List.drop_of_length_le (by omega), schema_InputOf_q7]
   refine Q.condF (Q.ltF hlt) ?_
   exact hend n7 s10_8 y9_l0
def schema_InputOf_q (a0 : (Sl TInput)) (a1 : Bs) : (TInput × Bool) := on (schema_InputOf_q7 a1 a0.l ) fun o7 => match o7 with | Sum.inl _ => (on (()) fun _ => ((TInput.mk ([] : Bs) TRef.zero false TValue.zero (Sl.nil : Sl TDir)), false)) | Sum.inr e7 => (e7)
theorem schema_InputOf_eq (a0 : (Sl TInput)) (a1 : Bs) : schema_InputOf a0 a1 = some (schema_InputOf_q a0 a1) := by
 unfold schema_InputOf schema_InputOf_q
 refine Q.wrapPP fun Kb7 hKb7 => ?_
 refine schema_InputOf_l7_qe  Kb7 ?_ ?_ _ _ _ ⟨Nat.succ_pos _, by omega⟩
 ·intro n7 s10_8 y9_l0
  refine Eq.trans ?_ (hKb7 _).symm
  try dsimp only
  refine Q.wrapPP fun Kj2 hKj2 => ?_
  have hj2 : ∀ (y3_l0 : TInput), schema_InputOf_j2 a0 a1 y3_l0 = Kj2 () := by
   intro y3_l0
   refine Eq.trans ?_ (hKj2 _).symm
   try dsimp only
   unfold schema_InputOf_j2
   all_goals rfl
  all_goals exact hj2 _
 ·intro e7
  refine Eq.trans ?_ (hKb7 _).symm
  try dsimp only
  all_goals rfl
def schema_Leaf_q (a0 : TDoc) (a1 : Bs) : Bool := on (schema_Scalar_q a1) fun x3 => on (bif !x3 then schema_kind_q a0 a1 else (0 : Int)) fun x4 => (x3 || (decide (x4 = (4 : Int))))
theorem schema_Leaf_eq (a0 : TDoc) (a1 : Bs) : schema_Leaf a0 a1 = some (schema_Leaf_q a0 a1) := by
 unfold schema_Leaf schema_Leaf_q
 refine Q.bindP (schema_Scalar_eq _) fun x3 hx_x3 => ?_
 refine Q.guardP (schema_kind_eq _ _) fun x4 hx_x4 => ?_
 all_goals rfl
def schema_IsInput_q (a0 : TDoc) (a1 : Bs) : Bool := on (schema_Leaf_q a0 a1) fun x3 => on (bif !x3 then schema_kind_q a0 a1 else (0 : Int)) fun x4 => (x3 || (decide (x4 = (5 : Int))))
theorem schema_IsInput_eq (a0 : TDoc) (a1 : Bs) : schema_IsInput a0 a1 = some (schema_IsInput_q a0 a1) := by
 unfold schema_IsInput schema_IsInput_q
 refine Q.bindP (schema_Leaf_eq _ _) fun x3 hx_x3 => ?_
 refine Q.guardP (schema_kind_eq _ _) fun x4 hx_x4 => ?_
 all_goals rfl
def typeref_Inner_q (a0 : TRef) : Option (TRef × Bool) := (typeref_IsList_q a0).bind fun x4 => bif (!x4) then (some ((TRef.mk ([] : Bs) (Sl.nil : Sl Int)), false)) else ((typeref_Nullable_q a0).bind fun x8 => (partC x8.FWraps (some (1 : Int)) none).bind fun x10 => some ((TRef.mk x8.FName x10), true))
theorem typeref_Inner_eq (a0 : TRef) : typeref_Inner a0 = typeref_Inner_q a0 := by
 unfold typeref_Inner typeref_Inner_q
 refine Eq.trans ?_ (Q.some_bind _)
 refine Q.bindO (typeref_IsList_eq _) fun x4 => ?_
 refine Q.condO ?_ ?_
 ·all_goals rfl
 ·refine Q.bindO (typeref_Nullable_eq _) fun x8 => ?_
  refine Q.bindO rfl fun x10 => ?_
  all_goals rfl
def slices_IndexFunc_alueapiValue_q6 (a1 : (TValue → Bool)) : List TValue → Nat → Unit ⊕ Int
 | [], s8_7 => Sum.inl ()
 | h6 :: r6, s8_7 => on (h6) fun x14 => on (a1 x14) fun x15 => bif x15 then (Sum.inr ((s8_7 : Nat) : Int)) else (slices_IndexFunc_alueapiValue_q6 a1 (r6) (s8_7 + 1) )
theorem slices_IndexFunc_alueapiValue_l6_qe {a0 : (Sl TValue)} {a1 : (TValue → Bool)}  (Kb6 : (Unit ⊕ Int) → Option Int) (hend : ∀ (n6 : Nat) (s8_7 : Nat), slices_IndexFunc_alueapiValue_j2 a0 (fun y0 => some (a1 y0))   = Kb6 (Sum.inl ())) (hret : ∀ e : Int, some e = Kb6 (Sum.inr e)) : ∀ (n6 : Nat) (s8_7 : Nat), (0 < n6 ∧ a0.l.length < s8_7 + n6) → slices_IndexFunc_alueapiValue_l6 a0 (fun y0 => some (a1 y0)) n6 s8_7 = Kb6 (slices_IndexFunc_alueapiValue_q6 a1 (a0.l.drop s8_7) s8_7 ) := by
 intro n6
 induction n6 with
 | zero => intro s8_7 hn; exact absurd hn.1 (by omega)
 | succ n6 ih6 =>
  intro s8_7 hn
  rw [slices_IndexFunc_alueapiValue_l6]
  by_cases hlt : s8_7 < a0.l.length
  ·obtain ⟨h6, hh6⟩ : ∃ x, a0.l[s8_7]? = some x := ⟨_, List.getElem?_eq_getElem hlt⟩
   rw [Q.drop_of hh6, slices_IndexFunc_alueapiValue_q6]
   refine Q.condT (Q.ltT hlt) ?_
   refine Q.bindP hh6 fun x14 hx_x14 => ?_
   refine Q.bindP rfl fun x15 hx_x15 => ?_
   refine Q.condP ?_ ?_
   ·all_goals exact hret _
   ·all_goals exact ih6 _ ⟨by omega, by omega⟩
  ·rw [List.drop_of_length_le (by omega), slices_IndexFunc_alueapiValue_q6]
   refine Q.condF (Q.ltF hlt) ?_
   exact hend n6 s8_7
def slices_IndexFunc_alueapiValue_q (a0 : (Sl TValue)) (a1 : (TValue → Bool)) : Int := on (slices_IndexFunc_alueapiValue_q6 a1 a0.l 0 ) fun o6 => match o6 with | Sum.inl _ => (on (()) fun _ => (-1 : Int)) | Sum.inr e6 => (e6)
theorem slices_IndexFunc_alueapiValue_eq (a0 : (Sl TValue)) (a1 : (TValue → Bool)) : slices_IndexFunc_alueapiValue a0 (fun y0 => some (a1 y0)) = some (slices_IndexFunc_alueapiValue_q a0 a1) := by
 unfold slices_IndexFunc_alueapiValue slices_IndexFunc_alueapiValue_q
 refine Q.wrapPP fun Kb6 hKb6 => ?_
 refine slices_IndexFunc_alueapiValue_l6_qe  Kb6 ?_ ?_ _ _ ⟨Nat.succ_pos _, by omega⟩
 ·intro n6 s8_7
  refine Eq.trans ?_ (hKb6 _).symm
  try dsimp only
  refine Q.wrapPP fun Kj2 hKj2 => ?_
  have hj2 : slices_IndexFunc_alueapiValue_j2 a0 (fun y0 => some (a1 y0))  = Kj2 () := by
   refine Eq.trans ?_ (hKj2 _).symm
   try dsimp only
   unfold slices_IndexFunc_alueapiValue_j2
   all_goals rfl
  all_goals exact hj2
 ·intro e6
  refine Eq.trans ?_ (hKb6 _).symm
  try dsimp only
  all_goals rfl
def slices_IndexFunc_alueapiValue_q6m (a1 : (TValue → Option Bool)) : List TValue → Nat → Option (Unit ⊕ Int)
 | [], s8_7 => some (Sum.inl ())
 | h6 :: r6, s8_7 => on (h6) fun x14 => (a1 x14).bind fun x15 => bif x15 then (some (Sum.inr ((s8_7 : Nat) : Int))) else (slices_IndexFunc_alueapiValue_q6m a1 (r6) (s8_7 + 1) )
theorem slices_IndexFunc_alueapiValue_l6_qem {a0 : (Sl TValue)} {a1 : (TValue → Option Bool)}  (Kb6 : (Unit ⊕ Int) → Option Int) (hend : ∀ (n6 : Nat) (s8_7 : Nat), slices_IndexFunc_alueapiValue_j2 a0 a1   = Kb6 (Sum.inl ())) (hret : ∀ e : Int, some e = Kb6 (Sum.inr e)) : ∀ (n6 : Nat) (s8_7 : Nat), (0 < n6 ∧ a0.l.length < s8_7 + n6) → slices_IndexFunc_alueapiValue_l6 a0 a1 n6 s8_7 = Option.bind (slices_IndexFunc_alueapiValue_q6m a1 (a0.l.drop s8_7) s8_7 ) Kb6 := by
 intro n6
 induction n6 with
 | zero => intro s8_7 hn; exact absurd hn.1 (by omega)
 | succ n6 ih6 =>
  intro s8_7 hn
  rw [slices_IndexFunc_alueapiValue_l6]
  by_cases hlt : s8_7 < a0.l.length
  ·obtain ⟨h6, hh6⟩ : ∃ x, a0.l[s8_7]? = some x := ⟨_, List.getElem?_eq_getElem hlt⟩
   rw [Q.drop_of hh6, slices_IndexFunc_alueapiValue_q6m]
   refine Q.condT (Q.ltT hlt) ?_
   refine Q.bindPO hh6 fun x14 hx_x14 => ?_
   refine Q.bindO rfl fun x15 => ?_
   refine Q.condO ?_ ?_
   ·all_goals exact hret _
   ·all_goals exact ih6 _ ⟨by omega, by omega⟩
  ·rw [List.drop_of_length_le (by omega), slices_IndexFunc_alueapiValue_q6m]
   refine Q.condF (Q.ltF hlt) ?_
   exact hend n6 s8_7
def slices_IndexFunc_alueapiValue_qm (a0 : (Sl TValue)) (a1 : (TValue → Option Bool)) : Option Int := Option.bind (slices_IndexFunc_alueapiValue_q6m a1 a0.l 0 ) fun o6 => match o6 with | Sum.inl _ => (on (()) fun _ => some (-1 : Int)) | Sum.inr e6 => (some e6)
theorem slices_IndexFunc_alueapiValue_eqm (a0 : (Sl TValue)) (a1 : (TValue → Option Bool)) : slices_IndexFunc_alueapiValue a0 a1 = slices_IndexFunc_alueapiValue_qm a0 a1 := by
 unfold slices_IndexFunc_alueapiValue slices_IndexFunc_alueapiValue_qm
 refine Eq.trans ?_ (Q.some_bind _)
 refine Q.wrapOO fun Kb6 hKb6 => ?_
 refine slices_IndexFunc_alueapiValue_l6_qem  Kb6 ?_ ?_ _ _ ⟨Nat.succ_pos _, by omega⟩
 ·intro n6 s8_7
  refine Eq.trans ?_ (hKb6 _).symm
  try dsimp only
  refine Q.wrapPO fun Kj2 hKj2 => ?_
  have hj2 : slices_IndexFunc_alueapiValue_j2 a0 a1  = Kj2 () := by
   refine Eq.trans ?_ (hKj2 _).symm
   try dsimp only
   unfold slices_IndexFunc_alueapiValue_j2
   all_goals rfl
  all_goals exact hj2
 ·intro e6
  refine Eq.trans ?_ (hKb6 _).symm
  try dsimp only
  all_goals rfl
def slices_ContainsFunc_alueapiValue_q (a0 : (Sl TValue)) (a1 : (TValue → Bool)) : Bool := on (slices_IndexFunc_alueapiValue_q a0 a1) fun x3 => (decide ((0 : Int) ≤ x3))
theorem slices_ContainsFunc_alueapiValue_eq (a0 : (Sl TValue)) (a1 : (TValue → Bool)) : slices_ContainsFunc_alueapiValue a0 (fun y0 => some (a1 y0)) = some (slices_ContainsFunc_alueapiValue_q a0 a1) := by
 unfold slices_ContainsFunc_alueapiValue slices_ContainsFunc_alueapiValue_q
 refine Q.bindP (slices_IndexFunc_alueapiValue_eq _ _) fun x3 hx_x3 => ?_
 all_goals rfl
def slices_ContainsFunc_alueapiValue_qm (a0 : (Sl TValue)) (a1 : (TValue → Option Bool)) : Option Bool := (slices_IndexFunc_alueapiValue_qm a0 a1).bind fun x3 => some (decide ((0 : Int) ≤ x3))
theorem slices_ContainsFunc_alueapiValue_eqm (a0 : (Sl TValue)) (a1 : (TValue → Option Bool)) : slices_ContainsFunc_alueapiValue a0 a1 = slices_ContainsFunc_alueapiValue_qm a0 a1 := by
 unfold slices_ContainsFunc_alueapiValue slices_ContainsFunc_alueapiValue_qm
 refine Eq.trans ?_ (Q.some_bind _)
 refine Q.bindO (by simp only [slices_IndexFunc_alueapiValue_eqm]) fun x3 => ?_
 all_goals rfl
def slices_IndexFunc_berapiMember_q6 (a1 : (TMember → Bool)) : List TMember → Nat → Unit ⊕ Int
 | [], s8_7 => Sum.inl ()
 | h6 :: r6, s8_7 => on (h6) fun x14 => on (a1 x14) fun x15 => bif x15 then (Sum.inr ((s8_7 : Nat) : Int)) else (slices_IndexFunc_berapiMember_q6 a1 (r6) (s8_7 + 1) )
theorem slices_IndexFunc_berapiMember_l6_qe {a0 : (Sl TMember)} {a1 : (TMember → Bool)}  (Kb6 : (Unit ⊕ Int) → Option Int) (hend : ∀ (n6 : Nat) (s8_7 : Nat), slices_IndexFunc_berapiMember_j2 a0 (fun y0 => some (a1 y0))   = Kb6 (Sum.inl ())) (hret : ∀ e : Int, some e = Kb6 (Sum.inr e)) : ∀ (n6 : Nat) (s8_7 : Nat), (0 < n6 ∧ a0.l.length < s8_7 + n6) → slices_IndexFunc_berapiMember_l6 a0 (fun y0 => some (a1 y0)) n6 s8_7 = Kb6 (slices_IndexFunc_berapiMember_q6 a1 (a0.l.drop s8_7) s8_7 ) := by
 intro n6
 induction n6 with
 | zero => intro s8_7 hn; exact absurd hn.1 (by omega)
 | succ n6 ih6 =>
  intro s8_7 hn
  rw [slices_IndexFunc_berapiMember_l6]
  by_cases hlt : s8_7 < a0.l.length
  ·obtain ⟨h6, hh6⟩ : ∃ x, a0.l[s8_7]? = some x := ⟨_, List.getElem?_eq_getElem hlt⟩
   rw [Q.drop_of hh6, slices_IndexFunc_berapiMember_q6]
   refine Q.condT (Q.ltT hlt) ?_
   refine Q.bindP hh6 fun x14 hx_x14 => ?_
   refine Q.bindP rfl fun x15 hx_x15 => ?_
   refine Q.condP ?_ ?_
   ·all_goals exact hret _
   ·all_goals exact ih6 _ ⟨by omega, by omega⟩
  ·rw [List.drop_of_length_le (by omega), slices_IndexFunc_berapiMember_q6]
   refine Q.condF (Q.ltF hlt) ?_
   exact hend n6 s8_7
def slices_IndexFunc_berapiMember_q (a0 : (Sl TMember)) (a1 : (TMember → Bool)) : Int := on (slices_IndexFunc_berapiMember_q6 a1 a0.l 0 ) fun o6 => match o6 with | Sum.inl _ => (on (()) fun _ => (-1 : Int)) | Sum.inr e6 => (e6)
theorem slices_IndexFunc_berapiMember_eq (a0 : (Sl TMember)) (a1 : (TMember → Bool)) : slices_IndexFunc_berapiMember a0 (fun y0 => some (a1 y0)) = some (slices_IndexFunc_berapiMember_q a0 a1) := by
 unfold slices_IndexFunc_berapiMember slices_IndexFunc_berapiMember_q
 refine Q.wrapPP fun Kb6 hKb6 => ?_
 refine slices_IndexFunc_berapiMember_l6_qe  Kb6 ?_ ?_ _ _ ⟨Nat.succ_pos _, by omega⟩
 ·intro n6 s8_7
  refine Eq.trans ?_ (hKb6 _).symm
  try dsimp only
  refine Q.wrapPP fun Kj2 hKj2 => ?_
  have hj2 : slices_IndexFunc_berapiMember_j2 a0 (fun y0 => some (a1 y0))  = Kj2 () := by
   refine Eq.trans ?_ (hKj2 _).symm
   try dsimp only
   unfold slices_IndexFunc_berapiMember_j2
   all_goals rfl
  all_goals exact hj2
 ·intro e6
  refine Eq.trans ?_ (hKb6 _).symm
  try dsimp only
  all_goals rfl
def slices_IndexFunc_berapiMember_q6m (a1 : (TMember → Option Bool)) : List TMember → Nat → Option (Unit ⊕ Int)
 | [], s8_7 => some (Sum.inl ())
 | h6 :: r6, s8_7 => on (h6) fun x14 => (a1 x14).bind fun x15 => bif x15 then (some (Sum.inr ((s8_7 : Nat) : Int))) else (slices_IndexFunc_berapiMember_q6m a1 (r6) (s8_7 + 1) )
theorem slices_IndexFunc_berapiMember_l6_qem {a0 : (Sl TMember)} {a1 : (TMember → Option Bool)}  (Kb6 : (Unit ⊕ Int) → Option Int) (hend : ∀ (n6 : Nat) (s8_7 : Nat), slices_IndexFunc_berapiMember_j2 a0 a1   = Kb6 (Sum.inl ())) (hret : ∀ e : Int, some e = Kb6 (Sum.inr e)) : ∀ (n6 : Nat) (s8_7 : Nat), (0 < n6 ∧ a0.l.length < s8_7 + n6) → slices_IndexFunc_berapiMember_l6 a0 a1 n6 s8_7 = Option.bind (slices_IndexFunc_berapiMember_q6m a1 (a0.l.drop s8_7) s8_7 ) Kb6 := by
 intro n6
 induction n6 with
 | zero => intro s8_7 hn; exact absurd hn.1 (by omega)
 | succ n6 ih6 =>
  intro s8_7 hn
  rw [slices_IndexFunc_berapiMember_l6]
  by_cases hlt : s8_7 < a0.l.length
  ·obtain ⟨h6, hh6⟩ : ∃ x, a0.l[s8_7]? = some x := ⟨_, List.getElem?_eq_getElem hlt⟩
   rw [Q.drop_of hh6, slices_IndexFunc_berapiMember_q6m]
   refine Q.condT (Q.ltT hlt) ?_
   refine Q.bindPO hh6 fun x14 hx_x14 => ?_
   refine Q.bindO rfl fun x15 => ?_
   refine Q.condO ?_ ?_
   ·all_goals exact hret _
   ·all_goals exact ih6 _ ⟨by omega, by omega⟩
  ·rw [List.drop_of_length_le (by omega), slices_IndexFunc_berapiMember_q6m]
   refine Q.condF (Q.ltF hlt) ?_
   exact hend n6 s8_7
def slices_IndexFunc_berapiMember_qm (a0 : (Sl TMember)) (a1 : (TMember → Option Bool)) : Option Int := Option.bind (slices_IndexFunc_berapiMember_q6m a1 a0.l 0 ) fun o6 => match o6 with | Sum.inl _ => (on (()) fun _ => some (-1 : Int)) | Sum.inr e6 => (some e6)
theorem slices_IndexFunc_berapiMember_eqm (a0 : (Sl TMember)) (a1 : (TMember → Option Bool)) : slices_IndexFunc_berapiMember a0 a1 = slices_IndexFunc_berapiMember_qm a0 a1 := by
 unfold slices_IndexFunc_berapiMember slices_IndexFunc_berapiMember_qm
 refine Eq.trans ?_ (Q.some_bind _)
 refine Q.wrapOO fun Kb6 hKb6 => ?_
 refine slices_IndexFunc_berapiMember_l6_qem  Kb6 ?_ ?_ _ _ ⟨Nat.succ_pos _, by omega⟩
 ·intro n6 s8_7
  refine Eq.trans ?_ (hKb6 _).symm
  try dsimp only
  refine Q.wrapPO fun Kj2 hKj2 => ?_
  have hj2 : slices_IndexFunc_berapiMember_j2 a0 a1  = Kj2 () := by
   refine Eq.trans ?_ (hKj2 _).symm
   try dsimp only
   unfold slices_IndexFunc_berapiMember_j2
   all_goals rfl
  all_goals exact hj2
 ·intro e6
  refine Eq.trans ?_ (hKb6 _).symm
  try dsimp only
  all_goals rfl
def slices_ContainsFunc_berapiMember_q (a0 : (Sl TMember)) (a1 : (TMember → Bool)) : Bool := on (slices_IndexFunc_berapiMember_q a0 a1) fun x3 => (decide ((0 : Int) ≤ x3))
theorem slices_ContainsFunc_berapiMember_eq (a0 : (Sl TMember)) (a1 : (TMember → Bool)) : slices_ContainsFunc_berapiMember a0 (fun y0 => some (a1 y0)) = some (slices_ContainsFunc_berapiMember_q a0 a1) := by
 unfold slices_ContainsFunc_berapiMember slices_ContainsFunc_berapiMember_q
 refine Q.bindP (slices_IndexFunc_berapiMember_eq _ _) fun x3 hx_x3 => ?_
 all_goals rfl
def slices_ContainsFunc_berapiMember_qm (a0 : (Sl TMember)) (a1 : (TMember → Option Bool)) : Option Bool := (slices_IndexFunc_berapiMember_qm a0 a1).bind fun x3 => some (decide ((0 : Int) ≤ x3))
theorem slices_ContainsFunc_berapiMember_eqm (a0 : (Sl TMember)) (a1 : (TMember → Option Bool)) : slices_ContainsFunc_berapiMember a0 a1 = slices_ContainsFunc_berapiMember_qm a0 a1 := by
 unfold slices_ContainsFunc_berapiMember slices_ContainsFunc_berapiMember_qm
 refine Eq.trans ?_ (Q.some_bind _)
 refine Q.bindO (by simp only [slices_IndexFunc_berapiMember_eqm]) fun x3 => ?_
 all_goals rfl
def fields_fits_2_q (a0 : TMember) (a1 : TValue) : Bool := ((a0.FName == a1.FText))
theorem fields_fits_2_eq (a0 : TMember) (a1 : TValue) : fields_fits_2 a0 a1 = some (fields_fits_2_q a0 a1) := by
 unfold fields_fits_2 fields_fits_2_q
 all_goals rfl
def slices_IndexFunc_nputapiInput_q6 (a1 : (TInput → Bool)) : List TInput → Nat → Unit ⊕ Int
 | [], s8_7 => Sum.inl ()
 | h6 :: r6, s8_7 => on (h6) fun x14 => on (a1 x14) fun x15 => bif x15 then (Sum.inr ((s8_7 : Nat) : Int)) else (slices_IndexFunc_nputapiInput_q6 a1 (r6) (s8_7 + 1) )
theorem slices_IndexFunc_nputapiInput_l6_qe {a0 : (Sl TInput)} {a1 : (TInput → Bool)}  (Kb6 : (Unit ⊕ Int) → Option Int) (hend : ∀ (n6 : Nat) (s8_7 : Nat), slices_IndexFunc_nputapiInput_j2 a0 (fun y0 => some (a1 y0))   = Kb6 (Sum.inl ())) (hret : ∀ e : Int, some e = Kb6 (Sum.inr e)) : ∀ (n6 : Nat) (s8_7 : Nat), (0 < n6 ∧ a0.l.length < s8_7 + n6) → slices_IndexFunc_nputapiInput_l6 a0 (fun y0 => some (a1 y0)) n6 s8_7 = Kb6 (slices_IndexFunc_nputapiInput_q6 a1 (a0.l.drop s8_7) s8_7 ) := by
 intro n6
 induction n6 with
 | zero => intro s8_7 hn; exact absurd hn.1 (by omega)
 | succ n6 ih6 =>
  intro s8_7 hn
  rw [slices_IndexFunc_nputapiInput_l6]
  by_cases hlt : s8_7 < a0.l.length
  ·obtain ⟨h6, hh6⟩ : ∃ x, a0.l[s8_7]? = some x := ⟨_, List.getElem?_eq_getElem hlt⟩
   rw [Q.drop_of hh6, slices_IndexFunc_nputapiInput_q6]
   refine Q.condT (Q.ltT hlt) ?_
   refine Q.bindP hh6 fun x14 hx_x14 => ?_
   refine Q.bindP rfl fun x15 hx_x15 => ?_
   refine Q.condP ?_ ?_
   ·all_goals exact hret _
   ·all_goals exact ih6 _ ⟨by omega, by omega⟩
  ·rw [List.drop_of_length_le (by omega), slices_IndexFunc_nputapiInput_q6]
   refine Q.condF (Q.ltF hlt) ?_
   exact hend n6 s8_7
def slices_IndexFunc_nputapiInput_q (a0 : (Sl TInput)) (a1 : (TInput → Bool)) : Int := on (slices_IndexFunc_nputapiInput_q6 a1 a0.l 0 ) fun o6 => match o6 with | Sum.inl _ => (on (()) fun _ => (-1 : Int)) | Sum.inr e6 => (e6)
theorem slices_IndexFunc_nputapiInput_eq (a0 : (Sl TInput)) (a1 : (TInput → Bool)) : slices_IndexFunc_nputapiInput a0 (fun y0 => some (a1 y0)) = some (slices_IndexFunc_nputapiInput_q a0 a1) := by
 unfold slices_IndexFunc_nputapiInput slices_IndexFunc_nputapiInput_q
 refine Q.wrapPP fun Kb6 hKb6 => ?_
 refine slices_IndexFunc_nputapiInput_l6_qe  Kb6 ?_ ?_ _ _ ⟨Nat.succ_pos _, by omega⟩
 ·intro n6 s8_7
  refine Eq.trans ?_ (hKb6 _).symm
  try dsimp only
  refine Q.wrapPP fun Kj2 hKj2 => ?_
  have hj2 : slices_IndexFunc_nputapiInput_j2 a0 (fun y0 => some (a1 y0))  = Kj2 () := by
   refine Eq.trans ?_ (hKj2 _).symm
   try dsimp only
   unfold slices_IndexFunc_nputapiInput_j2
   all_goals rfl
  all_goals exact hj2
 ·intro e6
  refine Eq.trans ?_ (hKb6 _).symm
  try dsimp only
  all_goals rfl
def slices_IndexFunc_nputapiInput_q6m (a1 : (TInput → Option Bool)) : List TInput → Nat → Option (Unit ⊕ Int)
 | [], s8_7 => some (Sum.inl ())
 | h6 :: r6, s8_7 => on (h6) fun x14 => (a1 x14).bind fun x15 => bif x15 then (some (Sum.inr ((s8_7 : Nat) : Int))) else (slices_IndexFunc_nputapiInput_q6m a1 (r6) (s8_7 + 1) )
theorem slices_IndexFunc_nputapiInput_l6_qem {a0 : (Sl TInput)} {a1 : (TInput → Option Bool)}  (Kb6 : (Unit ⊕ Int) → Option Int) (hend : ∀ (n6 : Nat) (s8_7 : Nat), slices_IndexFunc_nputapiInput_j2 a0 a1   = Kb6 (Sum.inl ())) (hret : ∀ e : Int, some e = Kb6 (Sum.inr e)) : ∀ (n6 : Nat) (s8_7 : Nat), (0 < n6 ∧ a0.l.length < s8_7 + n6) → slices_IndexFunc_nputapiInput_l6 a0 a1 n6 s8_7 = Option.bind (slices_IndexFunc_nputapiInput_q6m a1 (a0.l.drop s8_7) s8_7 ) Kb6 := by
 intro n6
 induction n6 with
 | zero => intro s8_7 hn; exact absurd hn.1 (by omega)
 | succ n6 ih6 =>
  intro s8_7 hn
  rw [slices_IndexFunc_nputapiInput_l6]
  by_cases hlt : s8_7 < a0.l.length
  ·obtain ⟨h6, hh6⟩ : ∃ x, a0.l[s8_7]? = some x := ⟨_, List.getElem?_eq_getElem hlt⟩
   rw [Q.drop_of hh6, slices_IndexFunc_nputapiInput_q6m]
   refine Q.condT (Q.ltT hlt) ?_
   refine Q.bindPO hh6 fun x14 hx_x14 => ?_
   refine Q.bindO rfl fun x15 => ?_
   refine Q.condO ?_ ?_
   ·all_goals exact hret _
   ·all_goals exact ih6 _ ⟨by omega, by omega⟩
  ·rw [List.drop_of_length_le (by omega), slices_IndexFunc_nputapiInput_q6m]
   refine Q.condF (Q.ltF hlt) ?_
   exact hend n6 s8_7
def slices_IndexFunc_nputapiInput_qm (a0 : (Sl TInput)) (a1 : (TInput → Option Bool)) : Option Int := Option.bind (slices_IndexFunc_nputapiInput_q6m a1 a0.l 0 ) fun o6 => match o6 with | Sum.inl _ => (on (()) fun _ => some (-1 : Int)) | Sum.inr e6 => (some e6)
theorem slices_IndexFunc_nputapiInput_eqm (a0 : (Sl TInput)) (a1 : (TInput → Option Bool)) : slices_IndexFunc_nputapiInput a0 a1 = slices_IndexFunc_nputapiInput_qm a0 a1 := by
 unfold slices_IndexFunc_nputapiInput slices_IndexFunc_nputapiInput_qm
 refine Eq.trans ?_ (Q.some_bind _)
 refine Q.wrapOO fun Kb6 hKb6 => ?_
 refine slices_IndexFunc_nputapiInput_l6_qem  Kb6 ?_ ?_ _ _ ⟨Nat.succ_pos _, by omega⟩
 ·intro n6 s8_7
  refine Eq.trans ?_ (hKb6 _).symm
  try dsimp only
  refine Q.wrapPO fun Kj2 hKj2 => ?_
  have hj2 : slices_IndexFunc_nputapiInput_j2 a0 a1  = Kj2 () := by
   refine Eq.trans ?_ (hKj2 _).symm
   try dsimp only
   unfold slices_IndexFunc_nputapiInput_j2
   all_goals rfl
  all_goals exact hj2
 ·intro e6
  refine Eq.trans ?_ (hKb6 _).symm
  try dsimp only
  all_goals rfl
def slices_ContainsFunc_nputapiInput_q (a0 : (Sl TInput)) (a1 : (TInput → Bool)) : Bool := on (slices_IndexFunc_nputapiInput_q a0 a1) fun x3 => (decide ((0 : Int) ≤ x3))
theorem slices_ContainsFunc_nputapiInput_eq (a0 : (Sl TInput)) (a1 : (TInput → Bool)) : slices_ContainsFunc_nputapiInput a0 (fun y0 => some (a1 y0)) = some (slices_ContainsFunc_nputapiInput_q a0 a1) := by
 unfold slices_ContainsFunc_nputapiInput slices_ContainsFunc_nputapiInput_q
 refine Q.bindP (slices_IndexFunc_nputapiInput_eq _ _) fun x3 hx_x3 => ?_
 all_goals rfl
def slices_ContainsFunc_nputapiInput_qm (a0 : (Sl TInput)) (a1 : (TInput → Option Bool)) : Option Bool := (slices_IndexFunc_nputapiInput_qm a0 a1).bind fun x3 => some (decide ((0 : Int) ≤ x3))
theorem slices_ContainsFunc_nputapiInput_eqm (a0 : (Sl TInput)) (a1 : (TInput → Option Bool)) : slices_ContainsFunc_nputapiInput a0 a1 = slices_ContainsFunc_nputapiInput_qm a0 a1 := by
 unfold slices_ContainsFunc_nputapiInput slices_ContainsFunc_nputapiInput_qm
 refine Eq.trans ?_ (Q.some_bind _)
 refine Q.bindO (by simp only [slices_IndexFunc_nputapiInput_eqm]) fun x3 => ?_
 all_goals rfl
def slices_Index_stringstring_q6 (a1 : Bs) : List Bs → Nat → Unit ⊕ Int
 | [], s8_7 => Sum.inl ()
 | h6 :: r6, s8_7 => on (h6) fun x14 => bif ((a1 == x14)) then (Sum.inr ((s8_7 : Nat) : Int)) else (slices_Index_stringstring_q6 a1 (r6) (s8_7 + 1) )
theorem slices_Index_stringstring_l6_qe {a0 : (Sl Bs)} {a1 : Bs}  (Kb6 : (Unit ⊕ Int) → Option Int) (hend : ∀ (n6 : Nat) (s8_7 : Nat), slices_Index_stringstring_j2 a0 a1   = Kb6 (Sum.inl ())) (hret : ∀ e : Int, some e = Kb6 (Sum.inr e)) : ∀ (n6 : Nat) (s8_7 : Nat), (0 < n6 ∧ a0.l.length < s8_7 + n6) → slices_Index_stringstring_l6 a0 a1 n6 s8_7 = Kb6 (slices_Index_stringstring_q6 a1 (a0.l.drop s8_7) s8_7 ) := by
 intro n6
 induction n6 with
 | zero => intro s8_7 hn; exact absurd hn.1 (by omega)
 | succ n6 ih6 =>
  intro s8_7 hn
  rw [slices_Index_stringstring_l6]
  by_cases hlt : s8_7 < a0.l.length
  ·obtain ⟨h6, hh6⟩ : ∃ x, a0.l[s8_7]? = some x := ⟨_, List.getElem?_eq_getElem hlt⟩
   rw [Q.drop_of hh6, slices_Index_stringstring_q6]
   refine Q.condT (Q.ltT hlt) ?_
   refine Q.bindP hh6 fun x14 hx_x14 => ?_
   refine Q.condP ?_ ?_
   ·all_goals exact hret _
   ·all_goals exact ih6 _ ⟨by omega, by omega⟩
  ·rw [List.drop_of_length_le (by omega), slices_Index_stringstring_q6]
   refine Q.condF (Q.ltF hlt) ?_
   exact hend n6 s8_7
def slices_Index_stringstring_q (a0 : (Sl Bs)) (a1 : Bs) : Int := on (slices_Index_stringstring_q6 a1 a0.l 0 ) fun o6 => match o6 with | Sum.inl _ => (on (()) fun _ => (-1 : Int)) | Sum.inr e6 => (e6)
theorem slices_Index_stringstring_eq (a0 : (Sl Bs)) (a1 : Bs) : slices_Index_stringstring a0 a1 = some (slices_Index_stringstring_q a0 a1) := by
 unfold slices_Index_stringstring slices_Index_stringstring_q
 refine Q.wrapPP fun Kb6 hKb6 => ?_
 refine slices_Index_stringstring_l6_qe  Kb6 ?_ ?_ _ _ ⟨Nat.succ_pos _, by omega⟩
 ·intro n6 s8_7
  refine Eq.trans ?_ (hKb6 _).symm
  try dsimp only
  refine Q.wrapPP fun Kj2 hKj2 => ?_
  have hj2 : slices_Index_stringstring_j2 a0 a1  = Kj2 () := by
   refine Eq.trans ?_ (hKj2 _).symm
   try dsimp only
   unfold slices_Index_stringstring_j2
   all_goals rfl
  all_goals exact hj2
 ·intro e6
  refine Eq.trans ?_ (hKb6 _).symm
  try dsimp only
  all_goals rfl
def slices_Contains_stringstring_q (a0 : (Sl Bs)) (a1 : Bs) : Bool := on (slices_Index_stringstring_q a0 a1) fun x3 => (decide ((0 : Int) ≤ x3))
theorem slices_Contains_stringstring_eq (a0 : (Sl Bs)) (a1 : Bs) : slices_Contains_stringstring a0 a1 = some (slices_Contains_stringstring_q a0 a1) := by
 unfold slices_Contains_stringstring slices_Contains_stringstring_q
 refine Q.bindP (slices_Index_stringstring_eq _ _) fun x3 hx_x3 => ?_
 all_goals rfl
def fields_object_1_q (a0 : TInput) (a1 : TValue) : Bool := on (typeref_IsNonNull_q a0.FType) fun x3 => on (bif (x3 && (!a0.FHas)) then slices_Contains_stringstring_q a1.FKeys a0.FName else false) fun x4 => ((x3 && (!a0.FHas)) && (!x4))
theorem fields_object_1_eq (a0 : TInput) (a1 : TValue) : fields_object_1 a0 a1 = some (fields_object_1_q a0 a1) := by
 unfold fields_object_1 fields_object_1_q
 refine Q.bindP (typeref_IsNonNull_eq _) fun x3 hx_x3 => ?_
 refine Q.guardP (slices_Contains_stringstring_eq _ _) fun x4 hx_x4 => ?_
 all_goals rfl
end Go.Proofs
