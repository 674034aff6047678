import Derived.Test.YtjghdpblmakljaaV4
set_option linter.unusedVariables false
set_option linter.unusedSimpArgs false
namespace Go.Proofs
open Go Go.Ab
def r02_node (a0 : TValue) (a1 : Bool) : Option Bool := bif (decide (a0.FKind = (0 : Int))) then (some ((((decide (a0.FInt = (0 : Int))) && ((a0.FText == ([] : Bs)))) && (decide (((a0.FItems.l.length : Nat) : Int) = (0 : Int)))) && (decide (((a0.FKeys.l.length : Nat) : Int) = (0 : Int))))) else (bif (decide (a0.FKind = (1 : Int))) then (some (((((decide (a0.FInt = (0 : Int))) || (decide (a0.FInt = (1 : Int)))) && ((a0.FText == ([] : Bs)))) && (decide (((a0.FItems.l.length : Nat) : Int) = (0 : Int)))) && (decide (((a0.FKeys.l.length : Nat) : Int) = (0 : Int))))) else (bif (decide (a0.FKind = (2 : Int))) then (some ((((a0.FText == ([] : Bs))) && (decide (((a0.FItems.l.length : Nat) : Int) = (0 : Int)))) && (decide (((a0.FKeys.l.length : Nat) : Int) = (0 : Int))))) else (bif (decide (a0.FKind = (3 : Int))) then (some (((decide (a0.FInt = (0 : Int))) && (decide (((a0.FItems.l.length : Nat) : Int) = (0 : Int)))) && (decide (((a0.FKeys.l.length : Nat) : Int) = (0 : Int))))) else (bif (decide (a0.FKind = (4 : Int))) then (guardO ((((decide (a0.FInt = (0 : Int))) && (decide (((a0.FItems.l.length : Nat) : Int) = (0 : Int)))) && (decide (((a0.FKeys.l.length : Nat) : Int) = (0 : Int))))) (r01_Name a0.FText) false fun x19 => some (((((((decide (a0.FInt = (0 : Int))) && (decide (((a0.FItems.l.length : Nat) : Int) = (0 : Int)))) && (decide (((a0.FKeys.l.length : Nat) : Int) = (0 : Int)))) && x19) && (!(a0.FText == ([116, 114, 117, 101] : Bs)))) && (!(a0.FText == ([102, 97, 108, 115, 101] : Bs)))) && (!(a0.FText == ([110, 117, 108, 108] : Bs))))) else (bif (decide (a0.FKind = (5 : Int))) then (some (((decide (a0.FInt = (0 : Int))) && ((a0.FText == ([] : Bs)))) && (decide (((a0.FKeys.l.length : Nat) : Int) = (0 : Int))))) else (bif (decide (a0.FKind = (6 : Int))) then (guardO ((((decide (a0.FInt = (0 : Int))) && ((a0.FText == ([] : Bs)))) && (decide (((a0.FKeys.l.length : Nat) : Int) = ((a0.FItems.l.length : Nat) : Int))))) (r02_twice a0.FKeys) false fun x26 => some ((((decide (a0.FInt = (0 : Int))) && ((a0.FText == ([] : Bs)))) && (decide (((a0.FKeys.l.length : Nat) : Int) = ((a0.FItems.l.length : Nat) : Int)))) && (!x26))) else (bif (decide (a0.FKind = (7 : Int))) then (guardO ((((a1 && (decide (a0.FInt = (0 : Int)))) && (decide (((a0.FItems.l.length : Nat) : Int) = (0 : Int)))) && (decide (((a0.FKeys.l.length : Nat) : Int) = (0 : Int))))) (r01_Name a0.FText) false fun x30 => some ((((a1 && (decide (a0.FInt = (0 : Int)))) && (decide (((a0.FItems.l.length : Nat) : Int) = (0 : Int)))) && (decide (((a0.FKeys.l.length : Nat) : Int) = (0 : Int)))) && x30)) else (some false))))))))
set_option maxRecDepth 100000 in
set_option maxHeartbeats 2000000 in
theorem r02_node_walk {a0 : TValue} {a1 : Bool}   {r : Bool} (hE : r02_node a0 a1 = some r) (H : Heap)  : ACalls Try.prog 78 [.agg (TValue.c a0), .d (.bool a1)] H fun v h' => v = .a (.d (.bool r)) ∧ h' = H := by
 unfold r02_node at hE
 refine ACalls.of_wp (fn := Try.f78) (c := _) Try.tab_ok (fun _ _ => Try.call78 _ _) Try.func78 rfl (n := 193) rfl (rs := [.tmp 4]) rfl rfl ?_
 refine AWp.seqK fun K1 hK1 => ?_
 refine AWp.region ?_
 refine AOps.s0 (Cert.boxV rfl) rfl ?_
 refine AOps.s0 (Cert.assign (by conv => lhs; whnf)) rfl ?_
 refine AOps.nil ?_
 refine hK1 _ ?_
 clear hK1 K1
 refine AWp.seqK fun K2 hK2 => ?_
 refine AWp.seqK fun K3 hK3 => ?_
 refine AWp.region ?_
 refine AOps.s0 (Cert.fieldV (Try.tab_ok _ _ rfl) rfl rfl (Try.tab_ok _ _ rfl) rfl rfl (by conv => lhs; whnf)) rfl ?_
 refine AOps.s0 (Cert.loadV (Try.tab_ok _ _ rfl) rfl rfl rfl) rfl ?_
 refine AOps.nil ?_
 refine hK3 _ ?_
 clear hK3 K3
 refine AWp.block ?_
 refine AWp.seqK fun K4 hK4 => ?_
 refine AWp.region ?_
 refine AOps.s0 (Cert.binI rfl rfl rfl) rfl ?_
 refine AOps.s0 (Cert.assign (by conv => lhs; whnf)) rfl ?_
 refine AOps.nil ?_
 refine hK4 _ ?_
 clear hK4 K4
 refine AWp.cond rfl (fun hc5 => ?_) (fun hc5 => ?_)
 ·have hE := condT hc5 hE
  try dsimp only at hc5
  refine AWp.seqK fun K6 hK6 => ?_
  refine AWp.region ?_
  refine AOps.s0 (Cert.fieldV (Try.tab_ok _ _ rfl) rfl rfl (Try.tab_ok _ _ rfl) rfl rfl (by conv => lhs; whnf)) rfl ?_
  refine AOps.s0 (Cert.loadV (Try.tab_ok _ _ rfl) rfl rfl rfl) rfl ?_
  refine AOps.s0 (Cert.binI rfl rfl rfl) rfl ?_
  refine AOps.s0 (Cert.move (by conv => lhs; whnf)) rfl ?_
  refine AOps.gC rfl rfl (fun hC => Cert.fieldV (Try.tab_ok _ _ rfl) rfl rfl (Try.tab_ok _ _ rfl) rfl rfl (by conv => lhs; whnf)) rfl ?_
  refine AOps.gC rfl rfl (fun hC => Cert.ungd (k := 13) rfl (by first | exact hC | exact andL hC | exact andL (andL hC) | exact andL (andL (andL hC)) | exact andR hC | simp_all) (Cert.loadV (Try.tab_ok _ _ rfl) rfl rfl rfl)) rfl ?_
  refine AOps.gC rfl rfl (fun hC => Cert.ungd (k := 14) rfl (by first | exact hC | exact andL hC | exact andL (andL hC) | exact andL (andL (andL hC)) | exact andR hC | simp_all) (Cert.binS rfl rfl rfl)) rfl ?_
  refine AOps.s0 (Cert.pickAnd rfl rfl (fun h => by first | exact h | exact notT h | exact andI hC h | exact andI hC (notT h) | simp_all) rfl) rfl ?_
  refine AOps.s0 (Cert.move (by conv => lhs; whnf)) rfl ?_
  refine AOps.gC rfl rfl (fun hC => Cert.fieldV (Try.tab_ok _ _ rfl) rfl rfl (Try.tab_ok _ _ rfl) rfl rfl (by conv => lhs; whnf)) rfl ?_
  refine AOps.gC rfl rfl (fun hC => Cert.ungd (k := 18) rfl (by first | exact hC | exact andL hC | exact andL (andL hC) | exact andL (andL (andL hC)) | exact andR hC | simp_all) (Cert.loadV (Try.tab_ok _ _ rfl) rfl rfl (congrArg (fun x => some (A.d x)) (TValue.FItemsD_eq _)))) rfl ?_
  refine AOps.gC rfl rfl (fun hC => Cert.ungd (k := 19) rfl (by first | exact hC | exact andL hC | exact andL (andL hC) | exact andL (andL (andL hC)) | exact andR hC | simp_all) (Cert.lenM' (f := TValue.c) (s := a0.FItems) (Try.tab_ok _ _ rfl) rfl rfl rfl)) rfl ?_
  refine AOps.gC rfl rfl (fun hC => Cert.ungd (k := 20) rfl (by first | exact hC | exact andL hC | exact andL (andL hC) | exact andL (andL (andL hC)) | exact andR hC | simp_all) (Cert.binI rfl rfl rfl)) rfl ?_
  refine AOps.s0 (Cert.pickAnd rfl rfl (fun h => by first | exact h | exact notT h | exact andI hC h | exact andI hC (notT h) | simp_all) rfl) rfl ?_
  refine AOps.s0 (Cert.move (by conv => lhs; whnf)) rfl ?_
  refine AOps.gC rfl rfl (fun hC => Cert.fieldV (Try.tab_ok _ _ rfl) rfl rfl (Try.tab_ok _ _ rfl) rfl rfl (by conv => lhs; whnf)) rfl ?_
  refine AOps.gC rfl rfl (fun hC => Cert.ungd (k := 24) rfl (by first | exact hC | exact andL hC | exact andL (andL hC) | exact andL (andL (andL hC)) | exact andR hC | simp_all) (Cert.loadV (Try.tab_ok _ _ rfl) rfl rfl rfl)) rfl ?_
  refine AOps.gC rfl rfl (fun hC => Cert.ungd (k := 25) rfl (by first | exact hC | exact andL hC | exact andL (andL hC) | exact andL (andL (andL hC)) | exact andR hC | simp_all) (Cert.lenM' (f := strE) (s := a0.FKeys) (Try.tab_ok _ _ rfl) rfl rfl rfl)) rfl ?_
  refine AOps.gC rfl rfl (fun hC => Cert.ungd (k := 26) rfl (by first | exact hC | exact andL hC | exact andL (andL hC) | exact andL (andL (andL hC)) | exact andR hC | simp_all) (Cert.binI rfl rfl rfl)) rfl ?_
  refine AOps.s0 (Cert.pickAnd rfl rfl (fun h => by first | exact h | exact notT h | exact andI hC h | exact andI hC (notT h) | simp_all) rfl) rfl ?_
  refine AOps.s0 (Cert.assign (by conv => lhs; whnf)) rfl ?_
  refine AOps.nil ?_
  refine hK6 _ ?_
  clear hK6 K6
  refine AWp.ret ?_
  repeat (first | refine xBlock_ret ?_ | refine xThen_ret ?_)
  obtain rfl := Option.some.inj hE
  refine retQ.retF H rfl ⟨rfl, rfl⟩ ?_
  exact (fun _ _ h => h)
 ·have hE := condF hc5 hE
  try dsimp only at hc5
  refine AWp.seqK fun K7 hK7 => ?_
  refine AWp.region ?_
  refine AOps.s0 (Cert.binI rfl rfl rfl) rfl ?_
  refine AOps.s0 (Cert.assign (by conv => lhs; whnf)) rfl ?_
  refine AOps.nil ?_
  refine hK7 _ ?_
  clear hK7 K7
  refine AWp.cond rfl (fun hc8 => ?_) (fun hc8 => ?_)
  ·have hE := condT hc8 hE
   try dsimp only at hc8
   refine AWp.seqK fun K9 hK9 => ?_
   refine AWp.region ?_
   refine AOps.s0 (Cert.fieldV (Try.tab_ok _ _ rfl) rfl rfl (Try.tab_ok _ _ rfl) rfl rfl (by conv => lhs; whnf)) rfl ?_
   refine AOps.s0 (Cert.loadV (Try.tab_ok _ _ rfl) rfl rfl rfl) rfl ?_
   refine AOps.s0 (Cert.binI rfl rfl rfl) rfl ?_
   refine AOps.s0 (Cert.move (by conv => lhs; whnf)) rfl ?_
   refine AOps.gC rfl rfl (fun hC => Cert.fieldV (Try.tab_ok _ _ rfl) rfl rfl (Try.tab_ok _ _ rfl) rfl rfl (by conv => lhs; whnf)) rfl ?_
   refine AOps.gC rfl rfl (fun hC => Cert.ungd (k := 35) rfl (by first | exact hC | exact andL hC | exact andL (andL hC) | exact andL (andL (andL hC)) | exact andR hC | simp_all) (Cert.loadV (Try.tab_ok _ _ rfl) rfl rfl rfl)) rfl ?_
   refine AOps.gC rfl rfl (fun hC => Cert.ungd (k := 36) rfl (by first | exact hC | exact andL hC | exact andL (andL hC) | exact andL (andL (andL hC)) | exact andR hC | simp_all) (Cert.binI rfl rfl rfl)) rfl ?_
   refine AOps.s0 (Cert.pickOr rfl rfl rfl (fun h => by first | exact h | exact notT h | exact andI hC h | exact andI hC (notT h) | simp_all)) rfl ?_
   refine AOps.s0 (Cert.move (by conv => lhs; whnf)) rfl ?_
   refine AOps.gC rfl rfl (fun hC => Cert.fieldV (Try.tab_ok _ _ rfl) rfl rfl (Try.tab_ok _ _ rfl) rfl rfl (by conv => lhs; whnf)) rfl ?_
   refine AOps.gC rfl rfl (fun hC => Cert.ungd (k := 40) rfl (by first | exact hC | exact andL hC | exact andL (andL hC) | exact andL (andL (andL hC)) | exact andR hC | simp_all) (Cert.loadV (Try.tab_ok _ _ rfl) rfl rfl rfl)) rfl ?_
   refine AOps.gC rfl rfl (fun hC => Cert.ungd (k := 41) rfl (by first | exact hC | exact andL hC | exact andL (andL hC) | exact andL (andL (andL hC)) | exact andR hC | simp_all) (Cert.binS rfl rfl rfl)) rfl ?_
   refine AOps.s0 (Cert.pickAnd rfl rfl (fun h => by first | exact h | exact notT h | exact andI hC h | exact andI hC (notT h) | simp_all) rfl) rfl ?_
   refine AOps.s0 (Cert.move (by conv => lhs; whnf)) rfl ?_
   refine AOps.gC rfl rfl (fun hC => Cert.fieldV (Try.tab_ok _ _ rfl) rfl rfl (Try.tab_ok _ _ rfl) rfl rfl (by conv => lhs; whnf)) rfl ?_
   refine AOps.gC rfl rfl (fun hC => Cert.ungd (k := 45) rfl (by first | exact hC | exact andL hC | exact andL (andL hC) | exact andL (andL (andL hC)) | exact andR hC | simp_all) (Cert.loadV (Try.tab_ok _ _ rfl) rfl rfl (congrArg (fun x => some (A.d x)) (TValue.FItemsD_eq _)))) rfl ?_
   refine AOps.gC rfl rfl (fun hC => Cert.ungd (k := 46) rfl (by first | exact hC | exact andL hC | exact andL (andL hC) | exact andL (andL (andL hC)) | exact andR hC | simp_all) (Cert.lenM' (f := TValue.c) (s := a0.FItems) (Try.tab_ok _ _ rfl) rfl rfl rfl)) rfl ?_
   refine AOps.gC rfl rfl (fun hC => Cert.ungd (k := 47) rfl (by first | exact hC | exact andL hC | exact andL (andL hC) | exact andL (andL (andL hC)) | exact andR hC | simp_all) (Cert.binI rfl rfl rfl)) rfl ?_
   refine AOps.s0 (Cert.pickAnd rfl rfl (fun h => by first | exact h | exact notT h | exact andI hC h | exact andI hC (notT h) | simp_all) rfl) rfl ?_
   refine AOps.s0 (Cert.move (by conv => lhs; whnf)) rfl ?_
   refine AOps.gC rfl rfl (fun hC => Cert.fieldV (Try.tab_ok _ _ rfl) rfl rfl (Try.tab_ok _ _ rfl) rfl rfl (by conv => lhs; whnf)) rfl ?_
   refine AOps.gC rfl rfl (fun hC => Cert.ungd (k := 51) rfl (by first | exact hC | exact andL hC | exact andL (andL hC) | exact andL (andL (andL hC)) | exact andR hC | simp_all) (Cert.loadV (Try.tab_ok _ _ rfl) rfl rfl rfl)) rfl ?_
   refine AOps.gC rfl rfl (fun hC => Cert.ungd (k := 52) rfl (by first | exact hC | exact andL hC | exact andL (andL hC) | exact andL (andL (andL hC)) | exact andR hC | simp_all) (Cert.lenM' (f := strE) (s := a0.FKeys) (Try.tab_ok _ _ rfl) rfl rfl rfl)) rfl ?_
   refine AOps.gC rfl rfl (fun hC => Cert.ungd (k := 53) rfl (by first | exact hC | exact andL hC | exact andL (andL hC) | exact andL (andL (andL hC)) | exact andR hC | simp_all) (Cert.binI rfl rfl rfl)) rfl ?_
   refine AOps.s0 (Cert.pickAnd rfl rfl (fun h => by first | exact h | exact notT h | exact andI hC h | exact andI hC (notT h) | simp_all) rfl) rfl ?_
   refine AOps.s0 (Cert.assign (by conv => lhs; whnf)) rfl ?_
   refine AOps.nil ?_
   refine hK9 _ ?_
   clear hK9 K9
   refine AWp.ret ?_
   repeat (first | refine xBlock_ret ?_ | refine xThen_ret ?_)
   obtain rfl := Option.some.inj hE
   refine retQ.retF H rfl ⟨rfl, rfl⟩ ?_
   exact (fun _ _ h => h)
  ·have hE := condF hc8 hE
   try dsimp only at hc8
   refine AWp.seqK fun K10 hK10 => ?_
   refine AWp.region ?_
   refine AOps.s0 (Cert.binI rfl rfl rfl) rfl ?_
   refine AOps.s0 (Cert.assign (by conv => lhs; whnf)) rfl ?_
   refine AOps.nil ?_
   refine hK10 _ ?_
   clear hK10 K10
   refine AWp.cond rfl (fun hc11 => ?_) (fun hc11 => ?_)
   ·have hE := condT hc11 hE
    try dsimp only at hc11
    refine AWp.seqK fun K12 hK12 => ?_
    refine AWp.region ?_
    refine AOps.s0 (Cert.fieldV (Try.tab_ok _ _ rfl) rfl rfl (Try.tab_ok _ _ rfl) rfl rfl (by conv => lhs; whnf)) rfl ?_
    refine AOps.s0 (Cert.loadV (Try.tab_ok _ _ rfl) rfl rfl rfl) rfl ?_
    refine AOps.s0 (Cert.binS rfl rfl rfl) rfl ?_
    refine AOps.s0 (Cert.move (by conv => lhs; whnf)) rfl ?_
    refine AOps.gC rfl rfl (fun hC => Cert.fieldV (Try.tab_ok _ _ rfl) rfl rfl (Try.tab_ok _ _ rfl) rfl rfl (by conv => lhs; whnf)) rfl ?_
    refine AOps.gC rfl rfl (fun hC => Cert.ungd (k := 62) rfl (by first | exact hC | exact andL hC | exact andL (andL hC) | exact andL (andL (andL hC)) | exact andR hC | simp_all) (Cert.loadV (Try.tab_ok _ _ rfl) rfl rfl (congrArg (fun x => some (A.d x)) (TValue.FItemsD_eq _)))) rfl ?_
    refine AOps.gC rfl rfl (fun hC => Cert.ungd (k := 63) rfl (by first | exact hC | exact andL hC | exact andL (andL hC) | exact andL (andL (andL hC)) | exact andR hC | simp_all) (Cert.lenM' (f := TValue.c) (s := a0.FItems) (Try.tab_ok _ _ rfl) rfl rfl rfl)) rfl ?_
    refine AOps.gC rfl rfl (fun hC => Cert.ungd (k := 64) rfl (by first | exact hC | exact andL hC | exact andL (andL hC) | exact andL (andL (andL hC)) | exact andR hC | simp_all) (Cert.binI rfl rfl rfl)) rfl ?_
    refine AOps.s0 (Cert.pickAnd rfl rfl (fun h => by first | exact h | exact notT h | exact andI hC h | exact andI hC (notT h) | simp_all) rfl) rfl ?_
    refine AOps.s0 (Cert.move (by conv => lhs; whnf)) rfl ?_
    refine AOps.gC rfl rfl (fun hC => Cert.fieldV (Try.tab_ok _ _ rfl) rfl rfl (Try.tab_ok _ _ rfl) rfl rfl (by conv => lhs; whnf)) rfl ?_
    refine AOps.gC rfl rfl (fun hC => Cert.ungd (k := 68) rfl (by first | exact hC | exact andL hC | exact andL (andL hC) | exact andL (andL (andL hC)) | exact andR hC | simp_all) (Cert.loadV (Try.tab_ok _ _ rfl) rfl rfl rfl)) rfl ?_
    refine AOps.gC rfl rfl (fun hC => Cert.ungd (k := 69) rfl (by first | exact hC | exact andL hC | exact andL (andL hC) | exact andL (andL (andL hC)) | exact andR hC | simp_all) (Cert.lenM' (f := strE) (s := a0.FKeys) (Try.tab_ok _ _ rfl) rfl rfl rfl)) rfl ?_
    refine AOps.gC rfl rfl (fun hC => Cert.ungd (k := 70) rfl (by first | exact hC | exact andL hC | exact andL (andL hC) | exact andL (andL (andL hC)) | exact andR hC | simp_all) (Cert.binI rfl rfl rfl)) rfl ?_
    refine AOps.s0 (Cert.pickAnd rfl rfl (fun h => by first | exact h | exact notT h | exact andI hC h | exact andI hC (notT h) | simp_all) rfl) rfl ?_
    refine AOps.s0 (Cert.assign (by conv => lhs; whnf)) rfl ?_
    refine AOps.nil ?_
    refine hK12 _ ?_
    clear hK12 K12
    refine AWp.ret ?_
    repeat (first | refine xBlock_ret ?_ | refine xThen_ret ?_)
    obtain rfl := Option.some.inj hE
    refine retQ.retF H rfl ⟨rfl, rfl⟩ ?_
    exact (fun _ _ h => h)
   ·have hE := condF hc11 hE
    try dsimp only at hc11
    refine AWp.seqK fun K13 hK13 => ?_
    refine AWp.region ?_
    refine AOps.s0 (Cert.binI rfl rfl rfl) rfl ?_
    refine AOps.s0 (Cert.assign (by conv => lhs; whnf)) rfl ?_
    refine AOps.nil ?_
    refine hK13 _ ?_
    clear hK13 K13
    refine AWp.cond rfl (fun hc14 => ?_) (fun hc14 => ?_)
    ·have hE := condT hc14 hE
     try dsimp only at hc14
     refine AWp.seqK fun K15 hK15 => ?_
     refine AWp.region ?_
     refine AOps.s0 (Cert.fieldV (Try.tab_ok _ _ rfl) rfl rfl (Try.tab_ok _ _ rfl) rfl rfl (by conv => lhs; whnf)) rfl ?_
     refine AOps.s0 (Cert.loadV (Try.tab_ok _ _ rfl) rfl rfl rfl) rfl ?_
     refine AOps.s0 (Cert.binI rfl rfl rfl) rfl ?_
     refine AOps.s0 (Cert.move (by conv => lhs; whnf)) rfl ?_
     refine AOps.gC rfl rfl (fun hC => Cert.fieldV (Try.tab_ok _ _ rfl) rfl rfl (Try.tab_ok _ _ rfl) rfl rfl (by conv => lhs; whnf)) rfl ?_
     refine AOps.gC rfl rfl (fun hC => Cert.ungd (k := 79) rfl (by first | exact hC | exact andL hC | exact andL (andL hC) | exact andL (andL (andL hC)) | exact andR hC | simp_all) (Cert.loadV (Try.tab_ok _ _ rfl) rfl rfl (congrArg (fun x => some (A.d x)) (TValue.FItemsD_eq _)))) rfl ?_
     refine AOps.gC rfl rfl (fun hC => Cert.ungd (k := 80) rfl (by first | exact hC | exact andL hC | exact andL (andL hC) | exact andL (andL (andL hC)) | exact andR hC | simp_all) (Cert.lenM' (f := TValue.c) (s := a0.FItems) (Try.tab_ok _ _ rfl) rfl rfl rfl)) rfl ?_
     refine AOps.gC rfl rfl (fun hC => Cert.ungd (k := 81) rfl (by first | exact hC | exact andL hC | exact andL (andL hC) | exact andL (andL (andL hC)) | exact andR hC | simp_all) (Cert.binI rfl rfl rfl)) rfl ?_
     refine AOps.s0 (Cert.pickAnd rfl rfl (fun h => by first | exact h | exact notT h | exact andI hC h | exact andI hC (notT h) | simp_all) rfl) rfl ?_
     refine AOps.s0 (Cert.move (by conv => lhs; whnf)) rfl ?_
     refine AOps.gC rfl rfl (fun hC => Cert.fieldV (Try.tab_ok _ _ rfl) rfl rfl (Try.tab_ok _ _ rfl) rfl rfl (by conv => lhs; whnf)) rfl ?_
     refine AOps.gC rfl rfl (fun hC => Cert.ungd (k := 85) rfl (by first | exact hC | exact andL hC | exact andL (andL hC) | exact andL (andL (andL hC)) | exact andR hC | simp_all) (Cert.loadV (Try.tab_ok _ _ rfl) rfl rfl rfl)) rfl ?_
     refine AOps.gC rfl rfl (fun hC => Cert.ungd (k := 86) rfl (by first | exact hC | exact andL hC | exact andL (andL hC) | exact andL (andL (andL hC)) | exact andR hC | simp_all) (Cert.lenM' (f := strE) (s := a0.FKeys) (Try.tab_ok _ _ rfl) rfl rfl rfl)) rfl ?_
     refine AOps.gC rfl rfl (fun hC => Cert.ungd (k := 87) rfl (by first | exact hC | exact andL hC | exact andL (andL hC) | exact andL (andL (andL hC)) | exact andR hC | simp_all) (Cert.binI rfl rfl rfl)) rfl ?_
     refine AOps.s0 (Cert.pickAnd rfl rfl (fun h => by first | exact h | exact notT h | exact andI hC h | exact andI hC (notT h) | simp_all) rfl) rfl ?_
     refine AOps.s0 (Cert.assign (by conv => lhs; whnf)) rfl ?_
     refine AOps.nil ?_
     refine hK15 _ ?_
     clear hK15 K15
     refine AWp.ret ?_
     repeat (first | refine xBlock_ret ?_ | refine xThen_ret ?_)
     obtain rfl := Option.some.inj hE
     refine retQ.retF H rfl ⟨rfl, rfl⟩ ?_
     exact (fun _ _ h => h)
    ·have hE := condF hc14 hE
     try dsimp only at hc14
     refine AWp.seqK fun K16 hK16 => ?_
     refine AWp.region ?_
     refine AOps.s0 (Cert.binI rfl rfl rfl) rfl ?_
     refine AOps.s0 (Cert.assign (by conv => lhs; whnf)) rfl ?_
     refine AOps.nil ?_
     refine hK16 _ ?_
     clear hK16 K16
     refine AWp.cond rfl (fun hc17 => ?_) (fun hc17 => ?_)
     ·have hE := condT hc17 hE
      try dsimp only at hc17
      refine AWp.seqK fun K18 hK18 => ?_
      refine AWp.region ?_
      refine AOps.s0 (Cert.fieldV (Try.tab_ok _ _ rfl) rfl rfl (Try.tab_ok _ _ rfl) rfl rfl (by conv => lhs; whnf)) rfl ?_
      refine AOps.s0 (Cert.loadV (Try.tab_ok _ _ rfl) rfl rfl rfl) rfl ?_
      refine AOps.s0 (Cert.binI rfl rfl rfl) rfl ?_
      refine AOps.s0 (Cert.move (by conv => lhs; whnf)) rfl ?_
      refine AOps.gC rfl rfl (fun hC => Cert.fieldV (Try.tab_ok _ _ rfl) rfl rfl (Try.tab_ok _ _ rfl) rfl rfl (by conv => lhs; whnf)) rfl ?_
      refine AOps.gC rfl rfl (fun hC => Cert.ungd (k := 96) rfl (by first | exact hC | exact andL hC | exact andL (andL hC) | exact andL (andL (andL hC)) | exact andR hC | simp_all) (Cert.loadV (Try.tab_ok _ _ rfl) rfl rfl (congrArg (fun x => some (A.d x)) (TValue.FItemsD_eq _)))) rfl ?_
      refine AOps.gC rfl rfl (fun hC => Cert.ungd (k := 97) rfl (by first | exact hC | exact andL hC | exact andL (andL hC) | exact andL (andL (andL hC)) | exact andR hC | simp_all) (Cert.lenM' (f := TValue.c) (s := a0.FItems) (Try.tab_ok _ _ rfl) rfl rfl rfl)) rfl ?_
      refine AOps.gC rfl rfl (fun hC => Cert.ungd (k := 98) rfl (by first | exact hC | exact andL hC | exact andL (andL hC) | exact andL (andL (andL hC)) | exact andR hC | simp_all) (Cert.binI rfl rfl rfl)) rfl ?_
      refine AOps.s0 (Cert.pickAnd rfl rfl (fun h => by first | exact h | exact notT h | exact andI hC h | exact andI hC (notT h) | simp_all) rfl) rfl ?_
      refine AOps.s0 (Cert.move (by conv => lhs; whnf)) rfl ?_
      refine AOps.gC rfl rfl (fun hC => Cert.fieldV (Try.tab_ok _ _ rfl) rfl rfl (Try.tab_ok _ _ rfl) rfl rfl (by conv => lhs; whnf)) rfl ?_
      refine AOps.gC rfl rfl (fun hC => Cert.ungd (k := 102) rfl (by first | exact hC | exact andL hC | exact andL (andL hC) | exact andL (andL (andL hC)) | exact andR hC | simp_all) (Cert.loadV (Try.tab_ok _ _ rfl) rfl rfl rfl)) rfl ?_
      refine AOps.gC rfl rfl (fun hC => Cert.ungd (k := 103) rfl (by first | exact hC | exact andL hC | exact andL (andL hC) | exact andL (andL (andL hC)) | exact andR hC | simp_all) (Cert.lenM' (f := strE) (s := a0.FKeys) (Try.tab_ok _ _ rfl) rfl rfl rfl)) rfl ?_
      refine AOps.gC rfl rfl (fun hC => Cert.ungd (k := 104) rfl (by first | exact hC | exact andL hC | exact andL (andL hC) | exact andL (andL (andL hC)) | exact andR hC | simp_all) (Cert.binI rfl rfl rfl)) rfl ?_
      refine AOps.s0 (Cert.pickAnd rfl rfl (fun h => by first | exact h | exact notT h | exact andI hC h | exact andI hC (notT h) | simp_all) rfl) rfl ?_
      refine AOps.s0 (Cert.move (by conv => lhs; whnf)) rfl ?_
      refine AOps.gC rfl rfl (fun hC => Cert.fieldV (Try.tab_ok _ _ rfl) rfl rfl (Try.tab_ok _ _ rfl) rfl rfl (by conv => lhs; whnf)) rfl ?_
      refine AOps.gC rfl rfl (fun hC => Cert.ungd (k := 108) rfl (by first | exact hC | exact andL hC | exact andL (andL hC) | exact andL (andL (andL hC)) | exact andR hC | simp_all) (Cert.loadV (Try.tab_ok _ _ rfl) rfl rfl rfl)) rfl ?_
      obtain ⟨x19, gx19, hE⟩ := guardO_some hE
      refine AOps.gC rfl rfl (fun hC => Cert.ungd (k := 109) rfl (by first | exact hC | exact andL hC | exact andL (andL hC) | exact andL (andL (andL hC)) | exact andR hC | simp_all) (Cert.callP rfl rfl (fun H => r01_Name_walk (gx19 hC) H))) rfl ?_
      refine AOps.s0 (Cert.pickAnd rfl rfl (fun h => by first | exact h | exact notT h | exact andI hC h | exact andI hC (notT h) | simp_all) rfl) rfl ?_
      refine AOps.s0 (Cert.move (by conv => lhs; whnf)) rfl ?_
      refine AOps.gC rfl rfl (fun hC => Cert.fieldV (Try.tab_ok _ _ rfl) rfl rfl (Try.tab_ok _ _ rfl) rfl rfl (by conv => lhs; whnf)) rfl ?_
      refine AOps.gC rfl rfl (fun hC => Cert.ungd (k := 113) rfl (by first | exact hC | exact andL hC | exact andL (andL hC) | exact andL (andL (andL hC)) | exact andR hC | simp_all) (Cert.loadV (Try.tab_ok _ _ rfl) rfl rfl rfl)) rfl ?_
      refine AOps.gC rfl rfl (fun hC => Cert.ungd (k := 114) rfl (by first | exact hC | exact andL hC | exact andL (andL hC) | exact andL (andL (andL hC)) | exact andR hC | simp_all) (Cert.binS rfl rfl rfl)) rfl ?_
      refine AOps.s0 (Cert.pickAnd rfl rfl (fun h => by first | exact h | exact notT h | exact andI hC h | exact andI hC (notT h) | simp_all) rfl) rfl ?_
      refine AOps.s0 (Cert.move (by conv => lhs; whnf)) rfl ?_
      refine AOps.gC rfl rfl (fun hC => Cert.fieldV (Try.tab_ok _ _ rfl) rfl rfl (Try.tab_ok _ _ rfl) rfl rfl (by conv => lhs; whnf)) rfl ?_
      refine AOps.gC rfl rfl (fun hC => Cert.ungd (k := 118) rfl (by first | exact hC | exact andL hC | exact andL (andL hC) | exact andL (andL (andL hC)) | exact andR hC | simp_all) (Cert.loadV (Try.tab_ok _ _ rfl) rfl rfl rfl)) rfl ?_
      refine AOps.gC rfl rfl (fun hC => Cert.ungd (k := 119) rfl (by first | exact hC | exact andL hC | exact andL (andL hC) | exact andL (andL (andL hC)) | exact andR hC | simp_all) (Cert.binS rfl rfl rfl)) rfl ?_
      refine AOps.s0 (Cert.pickAnd rfl rfl (fun h => by first | exact h | exact notT h | exact andI hC h | exact andI hC (notT h) | simp_all) rfl) rfl ?_
      refine AOps.s0 (Cert.move (by conv => lhs; whnf)) rfl ?_
      refine AOps.gC rfl rfl (fun hC => Cert.fieldV (Try.tab_ok _ _ rfl) rfl rfl (Try.tab_ok _ _ rfl) rfl rfl (by conv => lhs; whnf)) rfl ?_
      refine AOps.gC rfl rfl (fun hC => Cert.ungd (k := 123) rfl (by first | exact hC | exact andL hC | exact andL (andL hC) | exact andL (andL (andL hC)) | exact andR hC | simp_all) (Cert.loadV (Try.tab_ok _ _ rfl) rfl rfl rfl)) rfl ?_
      refine AOps.gC rfl rfl (fun hC => Cert.ungd (k := 124) rfl (by first | exact hC | exact andL hC | exact andL (andL hC) | exact andL (andL (andL hC)) | exact andR hC | simp_all) (Cert.binS rfl rfl rfl)) rfl ?_
      refine AOps.s0 (Cert.pickAnd rfl rfl (fun h => by first | exact h | exact notT h | exact andI hC h | exact andI hC (notT h) | simp_all) rfl) rfl ?_
      refine AOps.s0 (Cert.assign (by conv => lhs; whnf)) rfl ?_
      refine AOps.nil ?_
      refine hK18 _ ?_
      clear hK18 K18
      refine AWp.ret ?_
      repeat (first | refine xBlock_ret ?_ | refine xThen_ret ?_)
      obtain rfl := Option.some.inj hE
      refine retQ.retF H rfl ⟨rfl, rfl⟩ ?_
      exact (fun _ _ h => h)
     ·have hE := condF hc17 hE
      try dsimp only at hc17
      refine AWp.seqK fun K20 hK20 => ?_
      refine AWp.region ?_
      refine AOps.s0 (Cert.binI rfl rfl rfl) rfl ?_
      refine AOps.s0 (Cert.assign (by conv => lhs; whnf)) rfl ?_
      refine AOps.nil ?_
      refine hK20 _ ?_
      clear hK20 K20
      refine AWp.cond rfl (fun hc21 => ?_) (fun hc21 => ?_)
      ·have hE := condT hc21 hE
       try dsimp only at hc21
       refine AWp.seqK fun K22 hK22 => ?_
       refine AWp.region ?_
       refine AOps.s0 (Cert.fieldV (Try.tab_ok _ _ rfl) rfl rfl (Try.tab_ok _ _ rfl) rfl rfl (by conv => lhs; whnf)) rfl ?_
       refine AOps.s0 (Cert.loadV (Try.tab_ok _ _ rfl) rfl rfl rfl) rfl ?_
       refine AOps.s0 (Cert.binI rfl rfl rfl) rfl ?_
       refine AOps.s0 (Cert.move (by conv => lhs; whnf)) rfl ?_
       refine AOps.gC rfl rfl (fun hC => Cert.fieldV (Try.tab_ok _ _ rfl) rfl rfl (Try.tab_ok _ _ rfl) rfl rfl (by conv => lhs; whnf)) rfl ?_
       refine AOps.gC rfl rfl (fun hC => Cert.ungd (k := 133) rfl (by first | exact hC | exact andL hC | exact andL (andL hC) | exact andL (andL (andL hC)) | exact andR hC | simp_all) (Cert.loadV (Try.tab_ok _ _ rfl) rfl rfl rfl)) rfl ?_
       refine AOps.gC rfl rfl (fun hC => Cert.ungd (k := 134) rfl (by first | exact hC | exact andL hC | exact andL (andL hC) | exact andL (andL (andL hC)) | exact andR hC | simp_all) (Cert.binS rfl rfl rfl)) rfl ?_
       refine AOps.s0 (Cert.pickAnd rfl rfl (fun h => by first | exact h | exact notT h | exact andI hC h | exact andI hC (notT h) | simp_all) rfl) rfl ?_
       refine AOps.s0 (Cert.move (by conv => lhs; whnf)) rfl ?_
       refine AOps.gC rfl rfl (fun hC => Cert.fieldV (Try.tab_ok _ _ rfl) rfl rfl (Try.tab_ok _ _ rfl) rfl rfl (by conv => lhs; whnf)) rfl ?_
       refine AOps.gC rfl rfl (fun hC => Cert.ungd (k := 138) rfl (by first | exact hC | exact andL hC | exact andL (andL hC) | exact andL (andL (andL hC)) | exact andR hC | simp_all) (Cert.loadV (Try.tab_ok _ _ rfl) rfl rfl rfl)) rfl ?_
       refine AOps.gC rfl rfl (fun hC => Cert.ungd (k := 139) rfl (by first | exact hC | exact andL hC | exact andL (andL hC) | exact andL (andL (andL hC)) | exact andR hC | simp_all) (Cert.lenM' (f := strE) (s := a0.FKeys) (Try.tab_ok _ _ rfl) rfl rfl rfl)) rfl ?_
       refine AOps.gC rfl rfl (fun hC => Cert.ungd (k := 140) rfl (by first | exact hC | exact andL hC | exact andL (andL hC) | exact andL (andL (andL hC)) | exact andR hC | simp_all) (Cert.binI rfl rfl rfl)) rfl ?_
       refine AOps.s0 (Cert.pickAnd rfl rfl (fun h => by first | exact h | exact notT h | exact andI hC h | exact andI hC (notT h) | simp_all) rfl) rfl ?_
       refine AOps.s0 (Cert.assign (by conv => lhs; whnf)) rfl ?_
       refine AOps.nil ?_
       refine hK22 _ ?_
       clear hK22 K22
       refine AWp.ret ?_
       repeat (first | refine xBlock_ret ?_ | refine xThen_ret ?_)
       obtain rfl := Option.some.inj hE
       refine retQ.retF H rfl ⟨rfl, rfl⟩ ?_
       exact (fun _ _ h => h)
      ·have hE := condF hc21 hE
       try dsimp only at hc21
       refine AWp.seqK fun K23 hK23 => ?_
       refine AWp.region ?_
       refine AOps.s0 (Cert.binI rfl rfl rfl) rfl ?_
       refine AOps.s0 (Cert.assign (by conv => lhs; whnf)) rfl ?_
       refine AOps.nil ?_
       refine hK23 _ ?_
       clear hK23 K23
       refine AWp.cond rfl (fun hc24 => ?_) (fun hc24 => ?_)
       ·have hE := condT hc24 hE
        try dsimp only at hc24
        refine AWp.seqK fun K25 hK25 => ?_
        refine AWp.region ?_
        refine AOps.s0 (Cert.fieldV (Try.tab_ok _ _ rfl) rfl rfl (Try.tab_ok _ _ rfl) rfl rfl (by conv => lhs; whnf)) rfl ?_
        refine AOps.s0 (Cert.loadV (Try.tab_ok _ _ rfl) rfl rfl rfl) rfl ?_
        refine AOps.s0 (Cert.binI rfl rfl rfl) rfl ?_
        refine AOps.s0 (Cert.move (by conv => lhs; whnf)) rfl ?_
        refine AOps.gC rfl rfl (fun hC => Cert.fieldV (Try.tab_ok _ _ rfl) rfl rfl (Try.tab_ok _ _ rfl) rfl rfl (by conv => lhs; whnf)) rfl ?_
        refine AOps.gC rfl rfl (fun hC => Cert.ungd (k := 149) rfl (by first | exact hC | exact andL hC | exact andL (andL hC) | exact andL (andL (andL hC)) | exact andR hC | simp_all) (Cert.loadV (Try.tab_ok _ _ rfl) rfl rfl rfl)) rfl ?_
        refine AOps.gC rfl rfl (fun hC => Cert.ungd (k := 150) rfl (by first | exact hC | exact andL hC | exact andL (andL hC) | exact andL (andL (andL hC)) | exact andR hC | simp_all) (Cert.binS rfl rfl rfl)) rfl ?_
        refine AOps.s0 (Cert.pickAnd rfl rfl (fun h => by first | exact h | exact notT h | exact andI hC h | exact andI hC (notT h) | simp_all) rfl) rfl ?_
        refine AOps.s0 (Cert.move (by conv => lhs; whnf)) rfl ?_
        refine AOps.gC rfl rfl (fun hC => Cert.fieldV (Try.tab_ok _ _ rfl) rfl rfl (Try.tab_ok _ _ rfl) rfl rfl (by conv => lhs; whnf)) rfl ?_
        refine AOps.gC rfl rfl (fun hC => Cert.ungd (k := 154) rfl (by first | exact hC | exact andL hC | exact andL (andL hC) | exact andL (andL (andL hC)) | exact andR hC | simp_all) (Cert.loadV (Try.tab_ok _ _ rfl) rfl rfl rfl)) rfl ?_
        refine AOps.gC rfl rfl (fun hC => Cert.ungd (k := 155) rfl (by first | exact hC | exact andL hC | exact andL (andL hC) | exact andL (andL (andL hC)) | exact andR hC | simp_all) (Cert.lenM' (f := strE) (s := a0.FKeys) (Try.tab_ok _ _ rfl) rfl rfl rfl)) rfl ?_
        refine AOps.gC rfl rfl (fun hC => Cert.fieldV (Try.tab_ok _ _ rfl) rfl rfl (Try.tab_ok _ _ rfl) rfl rfl (by conv => lhs; whnf)) rfl ?_
        refine AOps.gC rfl rfl (fun hC => Cert.ungd (k := 157) rfl (by first | exact hC | exact andL hC | exact andL (andL hC) | exact andL (andL (andL hC)) | exact andR hC | simp_all) (Cert.loadV (Try.tab_ok _ _ rfl) rfl rfl (congrArg (fun x => some (A.d x)) (TValue.FItemsD_eq _)))) rfl ?_
        refine AOps.gC rfl rfl (fun hC => Cert.ungd (k := 158) rfl (by first | exact hC | exact andL hC | exact andL (andL hC) | exact andL (andL (andL hC)) | exact andR hC | simp_all) (Cert.lenM' (f := TValue.c) (s := a0.FItems) (Try.tab_ok _ _ rfl) rfl rfl rfl)) rfl ?_
        refine AOps.gC rfl rfl (fun hC => Cert.ungd (k := 156) rfl (by first | exact hC | exact andL hC | exact andL (andL hC) | exact andL (andL (andL hC)) | exact andR hC | simp_all) (Cert.ungd (k := 159) rfl (by first | exact hC | exact andL hC | exact andL (andL hC) | exact andL (andL (andL hC)) | exact andR hC | simp_all) (Cert.binI rfl rfl rfl))) rfl ?_
        refine AOps.s0 (Cert.pickAnd rfl rfl (fun h => by first | exact h | exact notT h | exact andI hC h | exact andI hC (notT h) | simp_all) rfl) rfl ?_
        refine AOps.s0 (Cert.move (by conv => lhs; whnf)) rfl ?_
        refine AOps.gC rfl rfl (fun hC => Cert.fieldV (Try.tab_ok _ _ rfl) rfl rfl (Try.tab_ok _ _ rfl) rfl rfl (by conv => lhs; whnf)) rfl ?_
        refine AOps.gC rfl rfl (fun hC => Cert.ungd (k := 163) rfl (by first | exact hC | exact andL hC | exact andL (andL hC) | exact andL (andL (andL hC)) | exact andR hC | simp_all) (Cert.loadV (Try.tab_ok _ _ rfl) rfl rfl rfl)) rfl ?_
        obtain ⟨x26, gx26, hE⟩ := guardO_some hE
        refine AOps.gC rfl rfl (fun hC => Cert.ungd (k := 164) rfl (by first | exact hC | exact andL hC | exact andL (andL hC) | exact andL (andL (andL hC)) | exact andR hC | simp_all) (Cert.callP rfl rfl (fun H => r02_twice_walk (gx26 hC) H))) rfl ?_
        refine AOps.gC rfl rfl (fun hC => Cert.ungd (k := 165) rfl (by first | exact hC | exact andL hC | exact andL (andL hC) | exact andL (andL (andL hC)) | exact andR hC | simp_all) (Cert.notB rfl)) rfl ?_
        refine AOps.s0 (Cert.pickAnd rfl rfl (fun h => by first | exact h | exact notT h | exact andI hC h | exact andI hC (notT h) | simp_all) rfl) rfl ?_
        refine AOps.s0 (Cert.assign (by conv => lhs; whnf)) rfl ?_
        refine AOps.nil ?_
        refine hK25 _ ?_
        clear hK25 K25
        refine AWp.ret ?_
        repeat (first | refine xBlock_ret ?_ | refine xThen_ret ?_)
        obtain rfl := Option.some.inj hE
        refine retQ.retF H rfl ⟨rfl, rfl⟩ ?_
        exact (fun _ _ h => h)
       ·have hE := condF hc24 hE
        try dsimp only at hc24
        refine AWp.seqK fun K27 hK27 => ?_
        refine AWp.region ?_
        refine AOps.s0 (Cert.binI rfl rfl rfl) rfl ?_
        refine AOps.s0 (Cert.assign (by conv => lhs; whnf)) rfl ?_
        refine AOps.nil ?_
        refine hK27 _ ?_
        clear hK27 K27
        refine AWp.cond rfl (fun hc28 => ?_) (fun hc28 => ?_)
        ·have hE := condT hc28 hE
         try dsimp only at hc28
         refine AWp.seqK fun K29 hK29 => ?_
         refine AWp.region ?_
         refine AOps.s0 (Cert.move (by conv => lhs; whnf)) rfl ?_
         refine AOps.s0 (Cert.move (by conv => lhs; whnf)) rfl ?_
         refine AOps.gC rfl rfl (fun hC => Cert.fieldV (Try.tab_ok _ _ rfl) rfl rfl (Try.tab_ok _ _ rfl) rfl rfl (by conv => lhs; whnf)) rfl ?_
         refine AOps.gC rfl rfl (fun hC => Cert.ungd (k := 172) rfl (by first | exact hC | exact andL hC | exact andL (andL hC) | exact andL (andL (andL hC)) | exact andR hC | simp_all) (Cert.loadV (Try.tab_ok _ _ rfl) rfl rfl rfl)) rfl ?_
         refine AOps.gC rfl rfl (fun hC => Cert.ungd (k := 173) rfl (by first | exact hC | exact andL hC | exact andL (andL hC) | exact andL (andL (andL hC)) | exact andR hC | simp_all) (Cert.binI rfl rfl rfl)) rfl ?_
         refine AOps.s0 (Cert.pickAnd rfl rfl (fun h => by first | exact h | exact notT h | exact andI hC h | exact andI hC (notT h) | simp_all) rfl) rfl ?_
         refine AOps.s0 (Cert.move (by conv => lhs; whnf)) rfl ?_
         refine AOps.gC rfl rfl (fun hC => Cert.fieldV (Try.tab_ok _ _ rfl) rfl rfl (Try.tab_ok _ _ rfl) rfl rfl (by conv => lhs; whnf)) rfl ?_
         refine AOps.gC rfl rfl (fun hC => Cert.ungd (k := 177) rfl (by first | exact hC | exact andL hC | exact andL (andL hC) | exact andL (andL (andL hC)) | exact andR hC | simp_all) (Cert.loadV (Try.tab_ok _ _ rfl) rfl rfl (congrArg (fun x => some (A.d x)) (TValue.FItemsD_eq _)))) rfl ?_
         refine AOps.gC rfl rfl (fun hC => Cert.ungd (k := 178) rfl (by first | exact hC | exact andL hC | exact andL (andL hC) | exact andL (andL (andL hC)) | exact andR hC | simp_all) (Cert.lenM' (f := TValue.c) (s := a0.FItems) (Try.tab_ok _ _ rfl) rfl rfl rfl)) rfl ?_
         refine AOps.gC rfl rfl (fun hC => Cert.ungd (k := 179) rfl (by first | exact hC | exact andL hC | exact andL (andL hC) | exact andL (andL (andL hC)) | exact andR hC | simp_all) (Cert.binI rfl rfl rfl)) rfl ?_
         refine AOps.s0 (Cert.pickAnd rfl rfl (fun h => by first | exact h | exact notT h | exact andI hC h | exact andI hC (notT h) | simp_all) rfl) rfl ?_
         refine AOps.s0 (Cert.move (by conv => lhs; whnf)) rfl ?_
         refine AOps.gC rfl rfl (fun hC => Cert.fieldV (Try.tab_ok _ _ rfl) rfl rfl (Try.tab_ok _ _ rfl) rfl rfl (by conv => lhs; whnf)) rfl ?_
         refine AOps.gC rfl rfl (fun hC => Cert.ungd (k := 183) rfl (by first | exact hC | exact andL hC | exact andL (andL hC) | exact andL (andL (andL hC)) | exact andR hC | simp_all) (Cert.loadV (Try.tab_ok _ _ rfl) rfl rfl rfl)) rfl ?_
         refine AOps.gC rfl rfl (fun hC => Cert.ungd (k := 184) rfl (by first | exact hC | exact andL hC | exact andL (andL hC) | exact andL (andL (andL hC)) | exact andR hC | simp_all) (Cert.lenM' (f := strE) (s := a0.FKeys) (Try.tab_ok _ _ rfl) rfl rfl rfl)) rfl ?_
         refine AOps.gC rfl rfl (fun hC => Cert.ungd (k := 185) rfl (by first | exact hC | exact andL hC | exact andL (andL hC) | exact andL (andL (andL hC)) | exact andR hC | simp_all) (Cert.binI rfl rfl rfl)) rfl ?_
         refine AOps.s0 (Cert.pickAnd rfl rfl (fun h => by first | exact h | exact notT h | exact andI hC h | exact andI hC (notT h) | simp_all) rfl) rfl ?_
         refine AOps.s0 (Cert.move (by conv => lhs; whnf)) rfl ?_
         refine AOps.gC rfl rfl (fun hC => Cert.fieldV (Try.tab_ok _ _ rfl) rfl rfl (Try.tab_ok _ _ rfl) rfl rfl (by conv => lhs; whnf)) rfl ?_
         refine AOps.gC rfl rfl (fun hC => Cert.ungd (k := 189) rfl (by first | exact hC | exact andL hC | exact andL (andL hC) | exact andL (andL (andL hC)) | exact andR hC | simp_all) (Cert.loadV (Try.tab_ok _ _ rfl) rfl rfl rfl)) rfl ?_
         obtain ⟨x30, gx30, hE⟩ := guardO_some hE
         refine AOps.gC rfl rfl (fun hC => Cert.ungd (k := 190) rfl (by first | exact hC | exact andL hC | exact andL (andL hC) | exact andL (andL (andL hC)) | exact andR hC | simp_all) (Cert.callP rfl rfl (fun H => r01_Name_walk (gx30 hC) H))) rfl ?_
         refine AOps.s0 (Cert.pickAnd rfl rfl (fun h => by first | exact h | exact notT h | exact andI hC h | exact andI hC (notT h) | simp_all) rfl) rfl ?_
         refine AOps.s0 (Cert.assign (by conv => lhs; whnf)) rfl ?_
         refine AOps.nil ?_
         refine hK29 _ ?_
         clear hK29 K29
         refine AWp.ret ?_
         repeat (first | refine xBlock_ret ?_ | refine xThen_ret ?_)
         obtain rfl := Option.some.inj hE
         refine retQ.retF H rfl ⟨rfl, rfl⟩ ?_
         exact (fun _ _ h => h)
        ·have hE := condF hc28 hE
         try dsimp only at hc28
         refine AWp.skip ?_
         refine hK2 _ ?_
         clear hK2 K2
         refine AWp.seqK fun K31 hK31 => ?_
         refine AWp.region ?_
         refine AOps.s0 (Cert.assign (by conv => lhs; whnf)) rfl ?_
         refine AOps.nil ?_
         refine hK31 _ ?_
         clear hK31 K31
         refine AWp.ret ?_
         repeat (first | refine xBlock_ret ?_ | refine xThen_ret ?_)
         obtain rfl := Option.some.inj hE
         refine retQ.retF H rfl ⟨rfl, rfl⟩ ?_
         exact (fun _ _ h => h)
def r02_whole_j8 (a0 : TValue) (a1 : Bool) (x4 : Bool)   : Option Bool := some true
def r02_whole_l11 (a0 : TValue) (a1 : Bool) (x4 : Bool) (k_rec_69 : TValue → Bool → Option Bool) : Nat → Nat → Option Bool
 | 0, _ => none
 | n11 + 1, s6_12 => bif (decide (((s6_12 : Nat) : Int) < ((a0.FItems.l.length : Nat) : Int))) then ((a0.FItems.l[s6_12]?).bind fun x19 => (k_rec_69 x19 a1).bind fun x20 => bif (!x20) then (some false) else ((r02_whole_l11 a0 a1 x4 k_rec_69 n11) (s6_12 + 1))) else (r02_whole_j8 a0 a1 x4  )
def r02_whole_j7 (a0 : TValue) (a1 : Bool) (x4 : Bool) (k_rec_69 : TValue → Bool → Option Bool)  : Option Bool := r02_whole_l11 a0 a1 x4 k_rec_69 (a0.FItems.l.length + 1) 0
def r02_whole_l24 (a0 : TValue) (a1 : Bool) (x4 : Bool) (k_rec_69 : TValue → Bool → Option Bool) : Nat → Nat → Option Bool
 | 0, _ => none
 | n24 + 1, s5_25 => bif (decide (((s5_25 : Nat) : Int) < ((a0.FKeys.l.length : Nat) : Int))) then (guardO (a1) (a0.FKeys.l[s5_25]?) ([] : Bs) fun x32 => guardO (a1) (r01_Name x32) false fun x33 => bif (a1 && (!x33)) then (some false) else ((r02_whole_l24 a0 a1 x4 k_rec_69 n24) (s5_25 + 1))) else (r02_whole_j7 a0 a1 x4 k_rec_69 )
def r02_whole_n : Nat → TValue → Bool → Option Bool
 | 0, _, _ => none
 | n + 1, a0, a1 => (r02_node a0 a1).bind fun x4 => bif (!x4) then (some false) else (r02_whole_l24 a0 a1 x4 (r02_whole_n n) (a0.FKeys.l.length + 1) 0)
set_option maxRecDepth 100000 in
set_option maxHeartbeats 2000000 in
theorem r02_whole_step (n : Nat) (ih_69 : ∀ {a0 : TValue} {a1 : Bool}   {r : Bool}, r02_whole_n n a0 a1 = some r → ∀ (H : Heap), ACalls Try.prog 69 [.agg (TValue.c a0), .d (.bool a1)] H fun v h' => v = .a (.d (.bool r)) ∧ h' = H) : ∀ {a0 : TValue} {a1 : Bool}   {r : Bool}, r02_whole_n (n + 1) a0 a1 = some r → ∀ (H : Heap), ACalls Try.prog 69 [.agg (TValue.c a0), .d (.bool a1)] H fun v h' => v = .a (.d (.bool r)) ∧ h' = H := by
 intro a0 a1   r hE H 
 rw [r02_whole_n] at hE
 refine ACalls.of_wp (fn := Try.f69) (c := _) Try.tab_ok (fun _ _ => Try.call69 _ _) Try.func69 rfl (n := 43) rfl (rs := [.tmp 4]) rfl rfl ?_
 refine AWp.seqK fun K1 hK1 => ?_
 refine AWp.region ?_
 refine AOps.s0 (Cert.boxV rfl) rfl ?_
 refine AOps.s0 (Cert.assign (by conv => lhs; whnf)) rfl ?_
 refine AOps.nil ?_
 refine hK1 _ ?_
 clear hK1 K1
 refine AWp.seqK fun K2 hK2 => ?_
 refine AWp.seqK fun K3 hK3 => ?_
 refine AWp.region ?_
 refine AOps.s0 (Cert.loadV (Try.tab_ok _ _ rfl) rfl rfl rfl) rfl ?_
 refine AOps.s0 (Cert.move (by conv => lhs; whnf)) rfl ?_
 obtain ⟨x4, gx4, hE⟩ := bindO_some hE
 refine AOps.s0 (Cert.callP rfl rfl (fun H => r02_node_walk gx4 H)) rfl ?_
 refine AOps.s0 (Cert.notB rfl) rfl ?_
 refine AOps.nil ?_
 refine hK3 _ ?_
 clear hK3 K3
 refine AWp.cond rfl (fun hc5 => ?_) (fun hc5 => ?_)
 ·have hE := condT hc5 hE
  try dsimp only at hc5
  refine AWp.seqK fun K6 hK6 => ?_
  refine AWp.region ?_
  refine AOps.s0 (Cert.assign (by conv => lhs; whnf)) rfl ?_
  refine AOps.nil ?_
  refine hK6 _ ?_
  clear hK6 K6
  refine AWp.ret ?_
  repeat (first | refine xBlock_ret ?_ | refine xThen_ret ?_)
  obtain rfl := Option.some.inj hE
  refine retQ.retF H rfl ⟨rfl, rfl⟩ ?_
  exact (fun _ _ h => h)
 ·have hE := condF hc5 hE
  try dsimp only at hc5
  refine AWp.skip ?_
  refine hK2 _ ?_
  clear hK2 K2
  refine AWp.seqJH (KeepsT.cons (k := 1) (by conv => lhs; whnf) (KeepsT.cons (k := 2) (by conv => lhs; whnf) KeepsT.nil)) (fun (z : Unit) => []) (fun z => H) (fun z => r02_whole_j7 a0 a1 x4 (r02_whole_n n)  = some r) ?_ ?_
  ·intro K7 hK7
   refine AWp.seqK fun K23 hK23 => ?_
   refine AWp.region ?_
   refine AOps.s0 (Cert.assign (by conv => lhs; whnf)) rfl ?_
   refine AOps.nil ?_
   refine hK23 _ ?_
   clear hK23 K23
   refine AWp.block ?_
   refine AWp.loopH (KeepsT.cons (k := 1) (by conv => lhs; whnf) (KeepsT.cons (k := 2) (by conv => lhs; whnf) KeepsT.nil)) (fun (z : Nat × Nat) => [(5, .a (.d (.int .i64 ((z.2 : Nat) : Int))))]) (fun z => H) (fun z => z.1) (fun z => r02_whole_l24 a0 a1 x4 (r02_whole_n n) z.1 z.2 = some r) ((a0.FKeys.l.length + 1), 0) hE Weak.toA ?_
   rintro ⟨n24, s5_25⟩ hE K24 hK24
   try dsimp only at hE
   cases n24 with
   | zero => cases hE
   | succ n24 =>
     rw [r02_whole_l24] at hE
     refine AWp.seqK fun K26 hK26 => ?_
     refine AWp.seqK fun K27 hK27 => ?_
     refine AWp.region ?_
     refine AOps.s0 (Cert.move (by conv => lhs; whnf)) rfl ?_
     refine AOps.s0 (Cert.fieldV (Try.tab_ok _ _ rfl) rfl rfl (Try.tab_ok _ _ rfl) rfl rfl (by conv => lhs; whnf)) rfl ?_
     refine AOps.s0 (Cert.loadV (Try.tab_ok _ _ rfl) rfl rfl rfl) rfl ?_
     refine AOps.sLen (f := strE) (s := a0.FKeys) (Try.tab_ok _ _ rfl) rfl rfl rfl rfl fun hL28 => ?_
     refine AOps.s0 (Cert.binI rfl rfl rfl) rfl ?_
     refine AOps.nil ?_
     refine hK27 _ ?_
     clear hK27 K27
     refine AWp.cond rfl (fun hc29 => ?_) (fun hc29 => ?_)
     ·have hE := condT hc29 hE
      try dsimp only at hc29
      have hf29 := of_decide_eq_true hc29
      refine AWp.skip ?_
      refine hK26 _ ?_
      clear hK26 K26
      refine AWp.seqK fun K30 hK30 => ?_
      refine AWp.block ?_
      refine AWp.seqK fun K31 hK31 => ?_
      refine AWp.region ?_
      refine AOps.s0 (Cert.move (by conv => lhs; whnf)) rfl ?_
      refine AOps.s0 (Cert.move (by conv => lhs; whnf)) rfl ?_
      refine AOps.gC rfl rfl (fun hC => Cert.fieldV (Try.tab_ok _ _ rfl) rfl rfl (Try.tab_ok _ _ rfl) rfl rfl (by conv => lhs; whnf)) rfl ?_
      refine AOps.gC rfl rfl (fun hC => Cert.ungd (k := 20) rfl (by first | exact hC | exact andL hC | exact andL (andL hC) | exact andL (andL (andL hC)) | exact andR hC | simp_all) (Cert.loadV (Try.tab_ok _ _ rfl) rfl rfl rfl)) rfl ?_
      refine AOps.gC rfl rfl (fun hC => Cert.move (by conv => lhs; whnf)) rfl ?_
      obtain ⟨x32, gx32, hE⟩ := guardO_some hE
      refine AOps.gC rfl rfl (fun hC => Cert.ungd (k := 21) rfl (by first | exact hC | exact andL hC | exact andL (andL hC) | exact andL (andL (andL hC)) | exact andR hC | simp_all) (Cert.ungd (k := 22) rfl (by first | exact hC | exact andL hC | exact andL (andL hC) | exact andL (andL (andL hC)) | exact andR hC | simp_all) (Cert.idxMn (f := strE) (n := s5_25) (Try.tab_ok _ _ rfl) rfl (Try.tab_ok _ _ rfl) rfl rfl rfl (gx32 hC)))) rfl ?_
      refine AOps.gC rfl rfl (fun hC => Cert.ungd (k := 23) rfl (by first | exact hC | exact andL hC | exact andL (andL hC) | exact andL (andL (andL hC)) | exact andR hC | simp_all) (Cert.loadV (Try.tab_ok _ _ rfl) rfl rfl rfl)) rfl ?_
      obtain ⟨x33, gx33, hE⟩ := guardO_some hE
      refine AOps.gC rfl rfl (fun hC => Cert.ungd (k := 24) rfl (by first | exact hC | exact andL hC | exact andL (andL hC) | exact andL (andL (andL hC)) | exact andR hC | simp_all) (Cert.callP rfl rfl (fun H => r01_Name_walk (gx33 hC) H))) rfl ?_
      refine AOps.gC rfl rfl (fun hC => Cert.ungd (k := 25) rfl (by first | exact hC | exact andL hC | exact andL (andL hC) | exact andL (andL (andL hC)) | exact andR hC | simp_all) (Cert.notB rfl)) rfl ?_
      refine AOps.s0 (Cert.pickAnd rfl rfl (fun h => by first | exact h | exact notT h | exact andI hC h | exact andI hC (notT h) | simp_all) rfl) rfl ?_
      refine AOps.nil ?_
      refine hK31 _ ?_
      clear hK31 K31
      refine AWp.cond rfl (fun hc34 => ?_) (fun hc34 => ?_)
      ·have hE := condT hc34 hE
       try dsimp only at hc34
       refine AWp.seqK fun K35 hK35 => ?_
       refine AWp.region ?_
       refine AOps.s0 (Cert.assign (by conv => lhs; whnf)) rfl ?_
       refine AOps.nil ?_
       refine hK35 _ ?_
       clear hK35 K35
       refine AWp.ret ?_
       repeat (first | refine xBlock_ret ?_ | refine xThen_ret ?_)
       obtain rfl := Option.some.inj hE
       refine retQ.retF H rfl ⟨rfl, rfl⟩ ?_
       exact (fun _ _ h => h)
      ·have hE := condF hc34 hE
       try dsimp only at hc34
       refine AWp.skip ?_
       refine hK30 _ ?_
       clear hK30 K30
       refine AWp.region ?_
       refine AOps.s0 (Cert.move (by conv => lhs; whnf)) rfl ?_
       refine AOps.s0 (Cert.addI rfl rfl (by first | omega | (dsimp only; omega)) (by first | omega | (dsimp only; omega))) rfl ?_
       refine AOps.s0 (Cert.assign (by conv => lhs; whnf)) rfl ?_
       refine AOps.nil ?_
       exact hK24 _ (n24, (s5_25 + 1)) Weak.toA hE (Nat.lt_succ_self _)
     ·have hE := condF hc29 hE
      try dsimp only at hc29
      refine AWp.exit ?_
      exact hK7 _ () Weak.toA hE
  ·rintro _ hE
   try dsimp only at hE
   unfold r02_whole_j7 at hE
   refine AWp.seqJH KeepsT.nil (fun (z : Unit) => []) (fun z => H) (fun z => r02_whole_j8 a0 a1 x4  = some r) ?_ ?_
   ·intro K8 hK8
    refine AWp.seqK fun K10 hK10 => ?_
    refine AWp.region ?_
    refine AOps.s0 (Cert.assign (by conv => lhs; whnf)) rfl ?_
    refine AOps.nil ?_
    refine hK10 _ ?_
    clear hK10 K10
    refine AWp.block ?_
    refine AWp.loopH (KeepsT.cons (k := 1) (by conv => lhs; whnf) (KeepsT.cons (k := 2) (by conv => lhs; whnf) KeepsT.nil)) (fun (z : Nat × Nat) => [(6, .a (.d (.int .i64 ((z.2 : Nat) : Int))))]) (fun z => H) (fun z => z.1) (fun z => r02_whole_l11 a0 a1 x4 (r02_whole_n n) z.1 z.2 = some r) ((a0.FItems.l.length + 1), 0) hE Weak.toA ?_
    rintro ⟨n11, s6_12⟩ hE K11 hK11
    try dsimp only at hE
    cases n11 with
    | zero => cases hE
    | succ n11 =>
      rw [r02_whole_l11] at hE
      refine AWp.seqK fun K13 hK13 => ?_
      refine AWp.seqK fun K14 hK14 => ?_
      refine AWp.region ?_
      refine AOps.s0 (Cert.move (by conv => lhs; whnf)) rfl ?_
      refine AOps.s0 (Cert.fieldV (Try.tab_ok _ _ rfl) rfl rfl (Try.tab_ok _ _ rfl) rfl rfl (by conv => lhs; whnf)) rfl ?_
      refine AOps.s0 (Cert.loadV (Try.tab_ok _ _ rfl) rfl rfl (congrArg (fun x => some (A.d x)) (TValue.FItemsD_eq _))) rfl ?_
      refine AOps.sLen (f := TValue.c) (s := a0.FItems) (Try.tab_ok _ _ rfl) rfl rfl rfl rfl fun hL15 => ?_
      refine AOps.s0 (Cert.binI rfl rfl rfl) rfl ?_
      refine AOps.nil ?_
      refine hK14 _ ?_
      clear hK14 K14
      refine AWp.cond rfl (fun hc16 => ?_) (fun hc16 => ?_)
      ·have hE := condT hc16 hE
       try dsimp only at hc16
       have hf16 := of_decide_eq_true hc16
       refine AWp.skip ?_
       refine hK13 _ ?_
       clear hK13 K13
       refine AWp.seqK fun K17 hK17 => ?_
       refine AWp.block ?_
       refine AWp.seqK fun K18 hK18 => ?_
       refine AWp.region ?_
       refine AOps.s0 (Cert.fieldV (Try.tab_ok _ _ rfl) rfl rfl (Try.tab_ok _ _ rfl) rfl rfl (by conv => lhs; whnf)) rfl ?_
       refine AOps.s0 (Cert.loadV (Try.tab_ok _ _ rfl) rfl rfl (congrArg (fun x => some (A.d x)) (TValue.FItemsD_eq _))) rfl ?_
       refine AOps.s0 (Cert.move (by conv => lhs; whnf)) rfl ?_
       obtain ⟨x19, gx19, hE⟩ := bindO_some hE
       refine AOps.s0 (Cert.idxMn (f := TValue.c) (n := s6_12) (Try.tab_ok _ _ rfl) rfl (Try.tab_ok _ _ rfl) rfl rfl rfl gx19) rfl ?_
       refine AOps.s0 (Cert.loadV (Try.tab_ok _ _ rfl) rfl rfl rfl) rfl ?_
       refine AOps.s0 (Cert.move (by conv => lhs; whnf)) rfl ?_
       obtain ⟨x20, gx20, hE⟩ := bindO_some hE
       refine AOps.s0 (Cert.callP rfl rfl (fun H => ih_69 gx20 H)) rfl ?_
       refine AOps.s0 (Cert.notB rfl) rfl ?_
       refine AOps.nil ?_
       refine hK18 _ ?_
       clear hK18 K18
       refine AWp.cond rfl (fun hc21 => ?_) (fun hc21 => ?_)
       ·have hE := condT hc21 hE
        try dsimp only at hc21
        refine AWp.seqK fun K22 hK22 => ?_
        refine AWp.region ?_
        refine AOps.s0 (Cert.assign (by conv => lhs; whnf)) rfl ?_
        refine AOps.nil ?_
        refine hK22 _ ?_
        clear hK22 K22
        refine AWp.ret ?_
        repeat (first | refine xBlock_ret ?_ | refine xThen_ret ?_)
        obtain rfl := Option.some.inj hE
        refine retQ.retF H rfl ⟨rfl, rfl⟩ ?_
        exact (fun _ _ h => h)
       ·have hE := condF hc21 hE
        try dsimp only at hc21
        refine AWp.skip ?_
        refine hK17 _ ?_
        clear hK17 K17
        refine AWp.region ?_
        refine AOps.s0 (Cert.move (by conv => lhs; whnf)) rfl ?_
        refine AOps.s0 (Cert.addI rfl rfl (by first | omega | (dsimp only; omega)) (by first | omega | (dsimp only; omega))) rfl ?_
        refine AOps.s0 (Cert.assign (by conv => lhs; whnf)) rfl ?_
        refine AOps.nil ?_
        exact hK11 _ (n11, (s6_12 + 1)) Weak.toA hE (Nat.lt_succ_self _)
      ·have hE := condF hc16 hE
       try dsimp only at hc16
       refine AWp.exit ?_
       exact hK8 _ () Weak.toA hE
   ·rintro _ hE
    try dsimp only at hE
    unfold r02_whole_j8 at hE
    refine AWp.seqK fun K9 hK9 => ?_
    refine AWp.region ?_
    refine AOps.s0 (Cert.assign (by conv => lhs; whnf)) rfl ?_
    refine AOps.nil ?_
    refine hK9 _ ?_
    clear hK9 K9
    refine AWp.ret ?_
    repeat (first | refine xBlock_ret ?_ | refine xThen_ret ?_)
    obtain rfl := Option.some.inj hE
    refine retQ.retF H rfl ⟨rfl, rfl⟩ ?_
    exact (fun _ _ h => h)
theorem r02_whole_all : ∀ (n : Nat), (∀ {a0 : TValue} {a1 : Bool}   {r : Bool}, r02_whole_n n a0 a1 = some r → ∀ (H : Heap), ACalls Try.prog 69 [.agg (TValue.c a0), .d (.bool a1)] H fun v h' => v = .a (.d (.bool r)) ∧ h' = H)
 | 0 => fun hE => by first | cases hE | (rw [r02_whole_n] at hE; cases hE)
 | n + 1 => r02_whole_step n (r02_whole_all n)
def r02_whole (a0 : TValue) (a1 : Bool) : Option Bool := r02_whole_n F0 a0 a1
theorem r02_whole_walk {a0 : TValue} {a1 : Bool}   {r : Bool} (hE : r02_whole a0 a1 = some r) (H : Heap)  : ACalls Try.prog 69 [.agg (TValue.c a0), .d (.bool a1)] H fun v h' => v = .a (.d (.bool r)) ∧ h' = H := (r02_whole_all F0) hE H 
def r02_Literal (a0 : TValue) : Option Bool := (r02_Size a0).bind fun x3 => guardO ((decide (x3 ≤ (4096 : Int)))) (r02_Depth a0) (0 : Int) fun x4 => guardO (((decide (x3 ≤ (4096 : Int))) && (decide (x4 ≤ (24 : Int))))) (r02_whole a0 true) false fun x5 => some (((decide (x3 ≤ (4096 : Int))) && (decide (x4 ≤ (24 : Int)))) && x5)
set_option maxRecDepth 100000 in
set_option maxHeartbeats 2000000 in
theorem r02_Literal_walk {a0 : TValue}   {r : Bool} (hE : r02_Literal a0 = some r) (H : Heap)  : ACalls Try.prog 55 [.agg (TValue.c a0)] H fun v h' => v = .a (.d (.bool r)) ∧ h' = H := by
 unfold r02_Literal at hE
 refine ACalls.of_wp (fn := Try.f55) (c := _) Try.tab_ok (fun _ _ => Try.call55 _ _) Try.func55 rfl (n := 15) rfl (rs := [.tmp 2]) rfl rfl ?_
 refine AWp.seqK fun K1 hK1 => ?_
 refine AWp.region ?_
 refine AOps.s0 (Cert.boxV rfl) rfl ?_
 refine AOps.s0 (Cert.assign (by conv => lhs; whnf)) rfl ?_
 refine AOps.nil ?_
 refine hK1 _ ?_
 clear hK1 K1
 refine AWp.seqK fun K2 hK2 => ?_
 refine AWp.region ?_
 refine AOps.s0 (Cert.loadV (Try.tab_ok _ _ rfl) rfl rfl rfl) rfl ?_
 obtain ⟨x3, gx3, hE⟩ := bindO_some hE
 refine AOps.s0 (Cert.callP rfl rfl (fun H => r02_Size_walk gx3 H)) rfl ?_
 refine AOps.s0 (Cert.binI rfl rfl rfl) rfl ?_
 refine AOps.s0 (Cert.move (by conv => lhs; whnf)) rfl ?_
 refine AOps.gC rfl rfl (fun hC => Cert.loadV (Try.tab_ok _ _ rfl) rfl rfl rfl) rfl ?_
 obtain ⟨x4, gx4, hE⟩ := guardO_some hE
 refine AOps.gC rfl rfl (fun hC => Cert.ungd (k := 7) rfl (by first | exact hC | exact andL hC | exact andL (andL hC) | exact andL (andL (andL hC)) | exact andR hC | simp_all) (Cert.callP rfl rfl (fun H => r02_Depth_walk (gx4 hC) H))) rfl ?_
 refine AOps.gC rfl rfl (fun hC => Cert.ungd (k := 8) rfl (by first | exact hC | exact andL hC | exact andL (andL hC) | exact andL (andL (andL hC)) | exact andR hC | simp_all) (Cert.binI rfl rfl rfl)) rfl ?_
 refine AOps.s0 (Cert.pickAnd rfl rfl (fun h => by first | exact h | exact notT h | exact andI hC h | exact andI hC (notT h) | simp_all) rfl) rfl ?_
 refine AOps.s0 (Cert.move (by conv => lhs; whnf)) rfl ?_
 refine AOps.gC rfl rfl (fun hC => Cert.loadV (Try.tab_ok _ _ rfl) rfl rfl rfl) rfl ?_
 obtain ⟨x5, gx5, hE⟩ := guardO_some hE
 refine AOps.gC rfl rfl (fun hC => Cert.ungd (k := 12) rfl (by first | exact hC | exact andL hC | exact andL (andL hC) | exact andL (andL (andL hC)) | exact andR hC | simp_all) (Cert.callP rfl rfl (fun H => r02_whole_walk (gx5 hC) H))) rfl ?_
 refine AOps.s0 (Cert.pickAnd rfl rfl (fun h => by first | exact h | exact notT h | exact andI hC h | exact andI hC (notT h) | simp_all) rfl) rfl ?_
 refine AOps.s0 (Cert.assign (by conv => lhs; whnf)) rfl ?_
 refine AOps.nil ?_
 refine hK2 _ ?_
 clear hK2 K2
 refine AWp.ret ?_
 repeat (first | refine xBlock_ret ?_ | refine xThen_ret ?_)
 obtain rfl := Option.some.inj hE
 refine retQ.retF H rfl ⟨rfl, rfl⟩ ?_
 exact (fun _ _ h => h)
def r06_closed_j2 (a0 : TValue)   : Option Bool := some (!decide (a0.FKind = (7 : Int)))
def r06_closed_l5 (a0 : TValue) (k_rec_66 : TValue → Option Bool) : Nat → Nat → Option Bool
 | 0, _ => none
 | n5 + 1, s3_6 => bif (decide (((s3_6 : Nat) : Int) < ((a0.FItems.l.length : Nat) : Int))) then ((a0.FItems.l[s3_6]?).bind fun x13 => (k_rec_66 x13).bind fun x14 => bif (!x14) then (some false) else ((r06_closed_l5 a0 k_rec_66 n5) (s3_6 + 1))) else (r06_closed_j2 a0  )
def r06_closed_n : Nat → TValue → Option Bool
 | 0, _ => none
 | n + 1, a0 => r06_closed_l5 a0 (r06_closed_n n) (a0.FItems.l.length + 1) 0
set_option maxRecDepth 100000 in
set_option maxHeartbeats 2000000 in
theorem r06_closed_step (n : Nat) (ih_66 : ∀ {a0 : TValue}   {r : Bool}, r06_closed_n n a0 = some r → ∀ (H : Heap), ACalls Try.prog 66 [.agg (TValue.c a0)] H fun v h' => v = .a (.d (.bool r)) ∧ h' = H) : ∀ {a0 : TValue}   {r : Bool}, r06_closed_n (n + 1) a0 = some r → ∀ (H : Heap), ACalls Try.prog 66 [.agg (TValue.c a0)] H fun v h' => v = .a (.d (.bool r)) ∧ h' = H := by
 intro a0   r hE H 
 rw [r06_closed_n] at hE
 refine ACalls.of_wp (fn := Try.f66) (c := _) Try.tab_ok (fun _ _ => Try.call66 _ _) Try.func66 rfl (n := 21) rfl (rs := [.tmp 2]) rfl rfl ?_
 refine AWp.seqK fun K1 hK1 => ?_
 refine AWp.region ?_
 refine AOps.s0 (Cert.boxV rfl) rfl ?_
 refine AOps.s0 (Cert.assign (by conv => lhs; whnf)) rfl ?_
 refine AOps.nil ?_
 refine hK1 _ ?_
 clear hK1 K1
 refine AWp.seqJH (KeepsT.cons (k := 1) (by conv => lhs; whnf) KeepsT.nil) (fun (z : Unit) => []) (fun z => H) (fun z => r06_closed_j2 a0  = some r) ?_ ?_
 ·intro K2 hK2
  refine AWp.seqK fun K4 hK4 => ?_
  refine AWp.region ?_
  refine AOps.s0 (Cert.assign (by conv => lhs; whnf)) rfl ?_
  refine AOps.nil ?_
  refine hK4 _ ?_
  clear hK4 K4
  refine AWp.block ?_
  refine AWp.loopH (KeepsT.cons (k := 1) (by conv => lhs; whnf) KeepsT.nil) (fun (z : Nat × Nat) => [(3, .a (.d (.int .i64 ((z.2 : Nat) : Int))))]) (fun z => H) (fun z => z.1) (fun z => r06_closed_l5 a0 (r06_closed_n n) z.1 z.2 = some r) ((a0.FItems.l.length + 1), 0) hE Weak.toA ?_
  rintro ⟨n5, s3_6⟩ hE K5 hK5
  try dsimp only at hE
  cases n5 with
  | zero => cases hE
  | succ n5 =>
    rw [r06_closed_l5] at hE
    refine AWp.seqK fun K7 hK7 => ?_
    refine AWp.seqK fun K8 hK8 => ?_
    refine AWp.region ?_
    refine AOps.s0 (Cert.move (by conv => lhs; whnf)) rfl ?_
    refine AOps.s0 (Cert.fieldV (Try.tab_ok _ _ rfl) rfl rfl (Try.tab_ok _ _ rfl) rfl rfl (by conv => lhs; whnf)) rfl ?_
    refine AOps.s0 (Cert.loadV (Try.tab_ok _ _ rfl) rfl rfl (congrArg (fun x => some (A.d x)) (TValue.FItemsD_eq _))) rfl ?_
    refine AOps.sLen (f := TValue.c) (s := a0.FItems) (Try.tab_ok _ _ rfl) rfl rfl rfl rfl fun hL9 => ?_
    refine AOps.s0 (Cert.binI rfl rfl rfl) rfl ?_
    refine AOps.nil ?_
    refine hK8 _ ?_
    clear hK8 K8
    refine AWp.cond rfl (fun hc10 => ?_) (fun hc10 => ?_)
    ·have hE := condT hc10 hE
     try dsimp only at hc10
     have hf10 := of_decide_eq_true hc10
     refine AWp.skip ?_
     refine hK7 _ ?_
     clear hK7 K7
     refine AWp.seqK fun K11 hK11 => ?_
     refine AWp.block ?_
     refine AWp.seqK fun K12 hK12 => ?_
     refine AWp.region ?_
     refine AOps.s0 (Cert.fieldV (Try.tab_ok _ _ rfl) rfl rfl (Try.tab_ok _ _ rfl) rfl rfl (by conv => lhs; whnf)) rfl ?_
     refine AOps.s0 (Cert.loadV (Try.tab_ok _ _ rfl) rfl rfl (congrArg (fun x => some (A.d x)) (TValue.FItemsD_eq _))) rfl ?_
     refine AOps.s0 (Cert.move (by conv => lhs; whnf)) rfl ?_
     obtain ⟨x13, gx13, hE⟩ := bindO_some hE
     refine AOps.s0 (Cert.idxMn (f := TValue.c) (n := s3_6) (Try.tab_ok _ _ rfl) rfl (Try.tab_ok _ _ rfl) rfl rfl rfl gx13) rfl ?_
     refine AOps.s0 (Cert.loadV (Try.tab_ok _ _ rfl) rfl rfl rfl) rfl ?_
     obtain ⟨x14, gx14, hE⟩ := bindO_some hE
     refine AOps.s0 (Cert.callP rfl rfl (fun H => ih_66 gx14 H)) rfl ?_
     refine AOps.s0 (Cert.notB rfl) rfl ?_
     refine AOps.nil ?_
     refine hK12 _ ?_
     clear hK12 K12
     refine AWp.cond rfl (fun hc15 => ?_) (fun hc15 => ?_)
     ·have hE := condT hc15 hE
      try dsimp only at hc15
      refine AWp.seqK fun K16 hK16 => ?_
      refine AWp.region ?_
      refine AOps.s0 (Cert.assign (by conv => lhs; whnf)) rfl ?_
      refine AOps.nil ?_
      refine hK16 _ ?_
      clear hK16 K16
      refine AWp.ret ?_
      repeat (first | refine xBlock_ret ?_ | refine xThen_ret ?_)
      obtain rfl := Option.some.inj hE
      refine retQ.retF H rfl ⟨rfl, rfl⟩ ?_
      exact (fun _ _ h => h)
     ·have hE := condF hc15 hE
      try dsimp only at hc15
      refine AWp.skip ?_
      refine hK11 _ ?_
      clear hK11 K11
      refine AWp.region ?_
      refine AOps.s0 (Cert.move (by conv => lhs; whnf)) rfl ?_
      refine AOps.s0 (Cert.addI rfl rfl (by first | omega | (dsimp only; omega)) (by first | omega | (dsimp only; omega))) rfl ?_
      refine AOps.s0 (Cert.assign (by conv => lhs; whnf)) rfl ?_
      refine AOps.nil ?_
      exact hK5 _ (n5, (s3_6 + 1)) Weak.toA hE (Nat.lt_succ_self _)
    ·have hE := condF hc10 hE
     try dsimp only at hc10
     refine AWp.exit ?_
     exact hK2 _ () Weak.toA hE
 ·rintro _ hE
  try dsimp only at hE
  unfold r06_closed_j2 at hE
  refine AWp.seqK fun K3 hK3 => ?_
  refine AWp.region ?_
  refine AOps.s0 (Cert.fieldV (Try.tab_ok _ _ rfl) rfl rfl (Try.tab_ok _ _ rfl) rfl rfl (by conv => lhs; whnf)) rfl ?_
  refine AOps.s0 (Cert.loadV (Try.tab_ok _ _ rfl) rfl rfl rfl) rfl ?_
  refine AOps.s0 (Cert.binI rfl rfl rfl) rfl ?_
  refine AOps.s0 (Cert.assign (by conv => lhs; whnf)) rfl ?_
  refine AOps.nil ?_
  refine hK3 _ ?_
  clear hK3 K3
  refine AWp.ret ?_
  repeat (first | refine xBlock_ret ?_ | refine xThen_ret ?_)
  obtain rfl := Option.some.inj hE
  refine retQ.retF H rfl ⟨rfl, rfl⟩ ?_
  exact (fun _ _ h => h)
theorem r06_closed_all : ∀ (n : Nat), (∀ {a0 : TValue}   {r : Bool}, r06_closed_n n a0 = some r → ∀ (H : Heap), ACalls Try.prog 66 [.agg (TValue.c a0)] H fun v h' => v = .a (.d (.bool r)) ∧ h' = H)
 | 0 => fun hE => by first | cases hE | (rw [r06_closed_n] at hE; cases hE)
 | n + 1 => r06_closed_step n (r06_closed_all n)
def r06_closed (a0 : TValue) : Option Bool := r06_closed_n F0 a0
theorem r06_closed_walk {a0 : TValue}   {r : Bool} (hE : r06_closed a0 = some r) (H : Heap)  : ACalls Try.prog 66 [.agg (TValue.c a0)] H fun v h' => v = .a (.d (.bool r)) ∧ h' = H := (r06_closed_all F0) hE H 
end Go.Proofs

namespace Go.Proofs
open Go Go.Ab
def r06_dirsRight_j7 (a0 : (Sl TDir))   : Option Bool := some true
def r06_dirsRight_j16 (a0 : (Sl TDir)) (n10 : Nat) (s3_11 : Nat) (k_next_10 : Nat → Option Bool)  : Option Bool := k_next_10 (s3_11 + 1)
def r06_dirsRight_l25 (a0 : (Sl TDir)) (n10 : Nat) (s3_11 : Nat) (x19 : TDir) (x20 : Bool) (x21 : TDir) (k_next_10 : Nat → Option Bool) : Nat → Nat → Option Bool
 | 0, _ => none
 | n25 + 1, s4_26 => (a0.l[s3_11]?).bind fun x29 => bif (decide (((s4_26 : Nat) : Int) < ((x29.FArgs.l.length : Nat) : Int))) then ((a0.l[s3_11]?).bind fun x34 => (x34.FArgs.l[s4_26]?).bind fun x35 => (r01_Name x35.FName).bind fun x37 => guardO (!(!x37)) (r02_Literal x35.FValue) false fun x38 => guardO (!((!x37) || (!x38))) (r06_closed x35.FValue) false fun x39 => bif (((!x37) || (!x38)) || (!x39)) then (some false) else ((r06_dirsRight_l25 a0 n10 s3_11 x19 x20 x21 k_next_10 n25) (s4_26 + 1))) else (r06_dirsRight_j16 a0 n10 s3_11 k_next_10 )
def r06_dirsRight_l10 (a0 : (Sl TDir))  : Nat → Nat → Option Bool
 | 0, _ => none
 | n10 + 1, s3_11 => bif (decide (((s3_11 : Nat) : Int) < ((a0.l.length : Nat) : Int))) then ((a0.l[s3_11]?).bind fun x19 => (r01_Name x19.FName).bind fun x20 => guardO (!(!x20)) (a0.l[s3_11]?) TDir.zero fun x21 => bif ((!x20) || (decide ((16 : Int) < ((x21.FArgs.l.length : Nat) : Int)))) then (some false) else (r06_dirsRight_l25 a0 n10 s3_11 x19 x20 x21 ((r06_dirsRight_l10 a0 n10)) (Option.elim (a0.l[s3_11]?) 1 (fun x29 => x29.FArgs.l.length + 1)) 0)) else (r06_dirsRight_j7 a0  )
def r06_dirsRight (a0 : (Sl TDir)) : Option Bool := bif (decide ((16 : Int) < ((a0.l.length : Nat) : Int))) then (some false) else (r06_dirsRight_l10 a0 (a0.l.length + 1) 0)
set_option maxRecDepth 100000 in
set_option maxHeartbeats 2000000 in
theorem r06_dirsRight_walk {a0 : (Sl TDir)} {w0 : Option Nat}  {r : Bool} (hE : r06_dirsRight a0 = some r) (H : Heap)  : ACalls Try.prog 48 [.d (Sl.d 2 TDir.c w0 a0)] H fun v h' => v = .a (.d (.bool r)) ∧ h' = H := by
 unfold r06_dirsRight at hE
 refine ACalls.of_wp (fn := Try.f48) (c := _) Try.tab_ok (fun _ _ => Try.call48 _ _) Try.func48 rfl (n := 65) rfl (rs := [.tmp 2]) rfl rfl ?_
 refine AWp.seqK fun K1 hK1 => ?_
 refine AWp.region ?_
 refine AOps.s0 (Cert.assign (by conv => lhs; whnf)) rfl ?_
 refine AOps.nil ?_
 refine hK1 _ ?_
 clear hK1 K1
 refine AWp.seqK fun K2 hK2 => ?_
 refine AWp.seqK fun K3 hK3 => ?_
 refine AWp.region ?_
 refine AOps.s0 (Cert.move (by conv => lhs; whnf)) rfl ?_
 refine AOps.sLen (f := TDir.c) (s := a0) (Try.tab_ok _ _ rfl) rfl rfl rfl rfl fun hL4 => ?_
 refine AOps.s0 (Cert.binI rfl rfl rfl) rfl ?_
 refine AOps.nil ?_
 refine hK3 _ ?_
 clear hK3 K3
 refine AWp.cond rfl (fun hc5 => ?_) (fun hc5 => ?_)
 ·have hE := condT hc5 hE
  try dsimp only at hc5
  refine AWp.seqK fun K6 hK6 => ?_
  refine AWp.region ?_
  refine AOps.s0 (Cert.assign (by conv => lhs; whnf)) rfl ?_
  refine AOps.nil ?_
  refine hK6 _ ?_
  clear hK6 K6
  refine AWp.ret ?_
  repeat (first | refine xBlock_ret ?_ | refine xThen_ret ?_)
  obtain rfl := Option.some.inj hE
  refine retQ.retF H rfl ⟨rfl, rfl⟩ ?_
  exact (fun _ _ h => h)
 ·have hE := condF hc5 hE
  try dsimp only at hc5
  refine AWp.skip ?_
  refine hK2 _ ?_
  clear hK2 K2
  refine AWp.seqJH KeepsT.nil (fun (z : Unit) => []) (fun z => H) (fun z => r06_dirsRight_j7 a0  = some r) ?_ ?_
  ·intro K7 hK7
   refine AWp.seqK fun K9 hK9 => ?_
   refine AWp.region ?_
   refine AOps.s0 (Cert.assign (by conv => lhs; whnf)) rfl ?_
   refine AOps.nil ?_
   refine hK9 _ ?_
   clear hK9 K9
   refine AWp.block ?_
   refine AWp.loopH (KeepsT.cons (k := 0) (by conv => lhs; whnf) KeepsT.nil) (fun (z : Nat × Nat) => [(3, .a (.d (.int .i64 ((z.2 : Nat) : Int))))]) (fun z => H) (fun z => z.1) (fun z => r06_dirsRight_l10 a0 z.1 z.2 = some r) ((a0.l.length + 1), 0) hE Weak.toA ?_
   rintro ⟨n10, s3_11⟩ hE K10 hK10
   try dsimp only at hE
   cases n10 with
   | zero => cases hE
   | succ n10 =>
     rw [r06_dirsRight_l10] at hE
     refine AWp.seqK fun K12 hK12 => ?_
     refine AWp.seqK fun K13 hK13 => ?_
     refine AWp.region ?_
     refine AOps.s0 (Cert.move (by conv => lhs; whnf)) rfl ?_
     refine AOps.s0 (Cert.move (by conv => lhs; whnf)) rfl ?_
     refine AOps.sLen (f := TDir.c) (s := a0) (Try.tab_ok _ _ rfl) rfl rfl rfl rfl fun hL14 => ?_
     refine AOps.s0 (Cert.binI rfl rfl rfl) rfl ?_
     refine AOps.nil ?_
     refine hK13 _ ?_
     clear hK13 K13
     refine AWp.cond rfl (fun hc15 => ?_) (fun hc15 => ?_)
     ·have hE := condT hc15 hE
      try dsimp only at hc15
      have hf15 := of_decide_eq_true hc15
      refine AWp.skip ?_
      refine hK12 _ ?_
      clear hK12 K12
      refine AWp.seqJH (KeepsT.cons (k := 0) (by conv => lhs; whnf) (KeepsT.cons (k := 3) (by conv => lhs; whnf) KeepsT.nil)) (fun (z : Unit) => []) (fun z => H) (fun z => r06_dirsRight_j16 a0 n10 s3_11 ((r06_dirsRight_l10 a0 n10))  = some r) ?_ ?_
      ·intro K16 hK16
       refine AWp.block ?_
       refine AWp.seqK fun K17 hK17 => ?_
       refine AWp.seqK fun K18 hK18 => ?_
       refine AWp.region ?_
       refine AOps.s0 (Cert.move (by conv => lhs; whnf)) rfl ?_
       refine AOps.s0 (Cert.move (by conv => lhs; whnf)) rfl ?_
       obtain ⟨x19, gx19, hE⟩ := bindO_some hE
       refine AOps.s0 (Cert.idxMn (f := TDir.c) (n := s3_11) (Try.tab_ok _ _ rfl) rfl (Try.tab_ok _ _ rfl) rfl rfl rfl gx19) rfl ?_
       refine AOps.s0 (Cert.fieldV (Try.tab_ok _ _ rfl) rfl rfl (Try.tab_ok _ _ rfl) rfl rfl (by conv => lhs; whnf)) rfl ?_
       refine AOps.s0 (Cert.loadV (Try.tab_ok _ _ rfl) rfl rfl rfl) rfl ?_
       obtain ⟨x20, gx20, hE⟩ := bindO_some hE
       refine AOps.s0 (Cert.callP rfl rfl (fun H => r01_Name_walk gx20 H)) rfl ?_
       refine AOps.s0 (Cert.notB rfl) rfl ?_
       refine AOps.s0 (Cert.move (by conv => lhs; whnf)) rfl ?_
       refine AOps.gC rfl rfl (fun hC => Cert.move (by conv => lhs; whnf)) rfl ?_
       refine AOps.gC rfl rfl (fun hC => Cert.move (by conv => lhs; whnf)) rfl ?_
       obtain ⟨x21, gx21, hE⟩ := guardO_some hE
       refine AOps.gC rfl rfl (fun hC => Cert.ungd (k := 23) rfl (by first | exact hC | exact andL hC | exact andL (andL hC) | exact andL (andL (andL hC)) | exact andR hC | simp_all) (Cert.ungd (k := 24) rfl (by first | exact hC | exact andL hC | exact andL (andL hC) | exact andL (andL (andL hC)) | exact andR hC | simp_all) (Cert.idxMn (f := TDir.c) (n := s3_11) (Try.tab_ok _ _ rfl) rfl (Try.tab_ok _ _ rfl) rfl rfl rfl (gx21 hC)))) rfl ?_
       refine AOps.gC rfl rfl (fun hC => Cert.ungd (k := 25) rfl (by first | exact hC | exact andL hC | exact andL (andL hC) | exact andL (andL (andL hC)) | exact andR hC | simp_all) (Cert.fieldV (Try.tab_ok _ _ rfl) rfl rfl (Try.tab_ok _ _ rfl) rfl rfl (by conv => lhs; whnf))) rfl ?_
       refine AOps.gC rfl rfl (fun hC => Cert.ungd (k := 26) rfl (by first | exact hC | exact andL hC | exact andL (andL hC) | exact andL (andL (andL hC)) | exact andR hC | simp_all) (Cert.loadV (Try.tab_ok _ _ rfl) rfl rfl rfl)) rfl ?_
       refine AOps.gC rfl rfl (fun hC => Cert.ungd (k := 27) rfl (by first | exact hC | exact andL hC | exact andL (andL hC) | exact andL (andL (andL hC)) | exact andR hC | simp_all) (Cert.lenM' (f := TArg.c) (s := x21.FArgs) (Try.tab_ok _ _ rfl) rfl rfl rfl)) rfl ?_
       refine AOps.gC rfl rfl (fun hC => Cert.ungd (k := 28) rfl (by first | exact hC | exact andL hC | exact andL (andL hC) | exact andL (andL (andL hC)) | exact andR hC | simp_all) (Cert.binI rfl rfl rfl)) rfl ?_
       refine AOps.s0 (Cert.pickOr rfl rfl rfl (fun h => by first | exact h | exact notT h | exact andI hC h | exact andI hC (notT h) | simp_all)) rfl ?_
       refine AOps.nil ?_
       refine hK18 _ ?_
       clear hK18 K18
       refine AWp.cond rfl (fun hc22 => ?_) (fun hc22 => ?_)
       ·have hE := condT hc22 hE
        try dsimp only at hc22
        refine AWp.seqK fun K23 hK23 => ?_
        refine AWp.region ?_
        refine AOps.s0 (Cert.assign (by conv => lhs; whnf)) rfl ?_
        refine AOps.nil ?_
        refine hK23 _ ?_
        clear hK23 K23
        refine AWp.ret ?_
        repeat (first | refine xBlock_ret ?_ | refine xThen_ret ?_)
        obtain rfl := Option.some.inj hE
        refine retQ.retF H rfl ⟨rfl, rfl⟩ ?_
        exact (fun _ _ h => h)
       ·have hE := condF hc22 hE
        try dsimp only at hc22
        refine AWp.skip ?_
        refine hK17 _ ?_
        clear hK17 K17
        refine AWp.seqK fun K24 hK24 => ?_
        refine AWp.region ?_
        refine AOps.s0 (Cert.assign (by conv => lhs; whnf)) rfl ?_
        refine AOps.nil ?_
        refine hK24 _ ?_
        clear hK24 K24
        refine AWp.block ?_
        refine AWp.loopH (KeepsT.cons (k := 0) (by conv => lhs; whnf) (KeepsT.cons (k := 3) (by conv => lhs; whnf) KeepsT.nil)) (fun (z : Nat × Nat) => [(4, .a (.d (.int .i64 ((z.2 : Nat) : Int))))]) (fun z => H) (fun z => z.1) (fun z => r06_dirsRight_l25 a0 n10 s3_11 x19 x20 x21 ((r06_dirsRight_l10 a0 n10)) z.1 z.2 = some r) ((Option.elim (a0.l[s3_11]?) 1 (fun x29 => x29.FArgs.l.length + 1)), 0) hE Weak.toA ?_
        rintro ⟨n25, s4_26⟩ hE K25 hK25
        try dsimp only at hE
        cases n25 with
        | zero => cases hE
        | succ n25 =>
          rw [r06_dirsRight_l25] at hE
          refine AWp.seqK fun K27 hK27 => ?_
          refine AWp.seqK fun K28 hK28 => ?_
          refine AWp.region ?_
          refine AOps.s0 (Cert.move (by conv => lhs; whnf)) rfl ?_
          refine AOps.s0 (Cert.move (by conv => lhs; whnf)) rfl ?_
          refine AOps.s0 (Cert.move (by conv => lhs; whnf)) rfl ?_
          obtain ⟨x29, gx29, hE⟩ := bindO_some hE
          refine AOps.s0 (Cert.idxMn (f := TDir.c) (n := s3_11) (Try.tab_ok _ _ rfl) rfl (Try.tab_ok _ _ rfl) rfl rfl rfl gx29) rfl ?_
          refine AOps.s0 (Cert.fieldV (Try.tab_ok _ _ rfl) rfl rfl (Try.tab_ok _ _ rfl) rfl rfl (by conv => lhs; whnf)) rfl ?_
          refine AOps.s0 (Cert.loadV (Try.tab_ok _ _ rfl) rfl rfl rfl) rfl ?_
          refine AOps.sLen (f := TArg.c) (s := x29.FArgs) (Try.tab_ok _ _ rfl) rfl rfl rfl rfl fun hL30 => ?_
          refine AOps.s0 (Cert.binI rfl rfl rfl) rfl ?_
          refine AOps.nil ?_
          refine hK28 _ ?_
          clear hK28 K28
          refine AWp.cond rfl (fun hc31 => ?_) (fun hc31 => ?_)
          ·have hE := condT hc31 hE
           try dsimp only at hc31
           have hf31 := of_decide_eq_true hc31
           refine AWp.skip ?_
           refine hK27 _ ?_
           clear hK27 K27
           refine AWp.seqK fun K32 hK32 => ?_
           refine AWp.block ?_
           refine AWp.seqK fun K33 hK33 => ?_
           refine AWp.region ?_
           refine AOps.s0 (Cert.move (by conv => lhs; whnf)) rfl ?_
           refine AOps.s0 (Cert.move (by conv => lhs; whnf)) rfl ?_
           obtain ⟨x34, gx34, hE⟩ := bindO_some hE
           refine AOps.s0 (Cert.idxMn (f := TDir.c) (n := s3_11) (Try.tab_ok _ _ rfl) rfl (Try.tab_ok _ _ rfl) rfl rfl rfl gx34) rfl ?_
           refine AOps.s0 (Cert.fieldV (Try.tab_ok _ _ rfl) rfl rfl (Try.tab_ok _ _ rfl) rfl rfl (by conv => lhs; whnf)) rfl ?_
           refine AOps.s0 (Cert.loadV (Try.tab_ok _ _ rfl) rfl rfl rfl) rfl ?_
           refine AOps.s0 (Cert.move (by conv => lhs; whnf)) rfl ?_
           obtain ⟨x35, gx35, hE⟩ := bindO_some hE
           refine AOps.s0 (Cert.idxMn (f := TArg.c) (n := s4_26) (Try.tab_ok _ _ rfl) rfl (Try.tab_ok _ _ rfl) rfl rfl rfl gx35) rfl ?_
           refine AOps.s0 (Cert.loadV (Try.tab_ok _ _ rfl) rfl rfl rfl) rfl ?_
           refine AOps.sL (Cert.allocL (Try.tab_ok _ _ rfl) rfl (by repeat (first | exact Snoc.nil | apply Snoc.cons))) rfl ?_
           refine AOps.sLn (Cert.storeLF (Try.tab_ok _ _ rfl) rfl rfl rfl rfl rfl (by repeat (first | exact SetAt.zero | apply SetAt.succ))) ?_
           refine AOps.nil ?_
           refine hK33 _ ?_
           clear hK33 K33
           refine AWp.freeze 5 _ rfl (by repeat (first | exact Snoc.nil | apply Snoc.cons)) (Keeps.c (k := 0) (by conv => lhs; whnf) (by rfl) (Keeps.c (k := 3) (by conv => lhs; whnf) (by rfl) (Keeps.c (k := 4) (by conv => lhs; whnf) (by rfl) Keeps.nil))) ?_
           refine AWp.seqK fun K36 hK36 => ?_
           refine AWp.region ?_
           refine AOps.s0 (Cert.fieldV (Try.tab_ok _ _ rfl) rfl rfl (Try.tab_ok _ _ rfl) rfl rfl (by conv => lhs; whnf)) rfl ?_
           refine AOps.s0 (Cert.loadV (Try.tab_ok _ _ rfl) rfl rfl rfl) rfl ?_
           obtain ⟨x37, gx37, hE⟩ := bindO_some hE
           refine AOps.s0 (Cert.callP rfl rfl (fun H => r01_Name_walk gx37 H)) rfl ?_
           refine AOps.s0 (Cert.notB rfl) rfl ?_
           refine AOps.s0 (Cert.move (by conv => lhs; whnf)) rfl ?_
           refine AOps.gC rfl rfl (fun hC => Cert.fieldV (Try.tab_ok _ _ rfl) rfl rfl (Try.tab_ok _ _ rfl) rfl rfl (by conv => lhs; whnf)) rfl ?_
           refine AOps.gC rfl rfl (fun hC => Cert.ungd (k := 54) rfl (by first | exact hC | exact andL hC | exact andL (andL hC) | exact andL (andL (andL hC)) | exact andR hC | simp_all) (Cert.loadV (Try.tab_ok _ _ rfl) rfl rfl rfl)) rfl ?_
           obtain ⟨x38, gx38, hE⟩ := guardO_some hE
           refine AOps.gC rfl rfl (fun hC => Cert.ungd (k := 55) rfl (by first | exact hC | exact andL hC | exact andL (andL hC) | exact andL (andL (andL hC)) | exact andR hC | simp_all) (Cert.callP rfl rfl (fun H => r02_Literal_walk (gx38 hC) H))) rfl ?_
           refine AOps.gC rfl rfl (fun hC => Cert.ungd (k := 56) rfl (by first | exact hC | exact andL hC | exact andL (andL hC) | exact andL (andL (andL hC)) | exact andR hC | simp_all) (Cert.notB rfl)) rfl ?_
           refine AOps.s0 (Cert.pickOr rfl rfl rfl (fun h => by first | exact h | exact notT h | exact andI hC h | exact andI hC (notT h) | simp_all)) rfl ?_
           refine AOps.s0 (Cert.move (by conv => lhs; whnf)) rfl ?_
           refine AOps.gC rfl rfl (fun hC => Cert.fieldV (Try.tab_ok _ _ rfl) rfl rfl (Try.tab_ok _ _ rfl) rfl rfl (by conv => lhs; whnf)) rfl ?_
           refine AOps.gC rfl rfl (fun hC => Cert.ungd (k := 60) rfl (by first | exact hC | exact andL hC | exact andL (andL hC) | exact andL (andL (andL hC)) | exact andR hC | simp_all) (Cert.loadV (Try.tab_ok _ _ rfl) rfl rfl rfl)) rfl ?_
           obtain ⟨x39, gx39, hE⟩ := guardO_some hE
           refine AOps.gC rfl rfl (fun hC => Cert.ungd (k := 61) rfl (by first | exact hC | exact andL hC | exact andL (andL hC) | exact andL (andL (andL hC)) | exact andR hC | simp_all) (Cert.callP rfl rfl (fun H => r06_closed_walk (gx39 hC) H))) rfl ?_
           refine AOps.gC rfl rfl (fun hC => Cert.ungd (k := 62) rfl (by first | exact hC | exact andL hC | exact andL (andL hC) | exact andL (andL (andL hC)) | exact andR hC | simp_all) (Cert.notB rfl)) rfl ?_
           refine AOps.s0 (Cert.pickOr rfl rfl rfl (fun h => by first | exact h | exact notT h | exact andI hC h | exact andI hC (notT h) | simp_all)) rfl ?_
           refine AOps.nil ?_
           refine hK36 _ ?_
           clear hK36 K36
           refine AWp.cond rfl (fun hc40 => ?_) (fun hc40 => ?_)
           ·have hE := condT hc40 hE
            try dsimp only at hc40
            refine AWp.seqK fun K41 hK41 => ?_
            refine AWp.region ?_
            refine AOps.s0 (Cert.assign (by conv => lhs; whnf)) rfl ?_
            refine AOps.nil ?_
            refine hK41 _ ?_
            clear hK41 K41
            refine AWp.ret ?_
            repeat (first | refine xBlock_ret ?_ | refine xThen_ret ?_)
            obtain rfl := Option.some.inj hE
            refine retQ.retF H rfl ⟨rfl, rfl⟩ ?_
            exact (fun _ _ h => h)
           ·have hE := condF hc40 hE
            try dsimp only at hc40
            refine AWp.skip ?_
            refine hK32 _ ?_
            clear hK32 K32
            refine AWp.region ?_
            refine AOps.s0 (Cert.move (by conv => lhs; whnf)) rfl ?_
            refine AOps.s0 (Cert.addI rfl rfl (by first | omega | (dsimp only; omega)) (by first | omega | (dsimp only; omega))) rfl ?_
            refine AOps.s0 (Cert.assign (by conv => lhs; whnf)) rfl ?_
            refine AOps.nil ?_
            exact hK25 _ (n25, (s4_26 + 1)) Weak.toA hE (Nat.lt_succ_self _)
          ·have hE := condF hc31 hE
           try dsimp only at hc31
           refine AWp.exit ?_
           exact hK16 _ () Weak.toA hE
      ·rintro _ hE
       try dsimp only at hE
       unfold r06_dirsRight_j16 at hE
       refine AWp.region ?_
       refine AOps.s0 (Cert.move (by conv => lhs; whnf)) rfl ?_
       refine AOps.s0 (Cert.addI rfl rfl (by first | omega | (dsimp only; omega)) (by first | omega | (dsimp only; omega))) rfl ?_
       refine AOps.s0 (Cert.assign (by conv => lhs; whnf)) rfl ?_
       refine AOps.nil ?_
       exact hK10 _ (n10, (s3_11 + 1)) Weak.toA hE (Nat.lt_succ_self _)
     ·have hE := condF hc15 hE
      try dsimp only at hc15
      refine AWp.exit ?_
      exact hK7 _ () Weak.toA hE
  ·rintro _ hE
   try dsimp only at hE
   unfold r06_dirsRight_j7 at hE
   refine AWp.seqK fun K8 hK8 => ?_
   refine AWp.region ?_
   refine AOps.s0 (Cert.assign (by conv => lhs; whnf)) rfl ?_
   refine AOps.nil ?_
   refine hK8 _ ?_
   clear hK8 K8
   refine AWp.ret ?_
   repeat (first | refine xBlock_ret ?_ | refine xThen_ret ?_)
   obtain rfl := Option.some.inj hE
   refine retQ.retF H rfl ⟨rfl, rfl⟩ ?_
   exact (fun _ _ h => h)
def r05_Right_j7 (a0 : TRef) (x4 : Bool)   : Option Bool := some true
def r05_Right_l10 (a0 : TRef) (x4 : Bool)  : Nat → Nat → Option Bool
 | 0, _ => none
 | n10 + 1, s3_11 => bif (decide (((s3_11 : Nat) : Int) < ((a0.FWraps.l.length : Nat) : Int))) then ((a0.FWraps.l[s3_11]?).bind fun x19 => guardO ((!decide (x19 = (1 : Int)))) (a0.FWraps.l[s3_11]?) (0 : Int) fun x20 => bif ((!decide (x19 = (1 : Int))) && (!decide (x20 = (2 : Int)))) then (some false) else (guardO ((decide ((0 : Int) < ((s3_11 : Nat) : Int)))) (a0.FWraps.l[s3_11]?) (0 : Int) fun x24 => guardO (((decide ((0 : Int) < ((s3_11 : Nat) : Int))) && (decide (x24 = (1 : Int))))) (subC ((s3_11 : Nat) : Int) (1 : Int)) (0 : Int) fun x25 => guardO (((decide ((0 : Int) < ((s3_11 : Nat) : Int))) && (decide (x24 = (1 : Int))))) (idxC a0.FWraps.l x25) (0 : Int) fun x26 => bif (((decide ((0 : Int) < ((s3_11 : Nat) : Int))) && (decide (x24 = (1 : Int)))) && (decide (x26 = (1 : Int)))) then (some false) else ((r05_Right_l10 a0 x4 n10) (s3_11 + 1)))) else (r05_Right_j7 a0 x4  )
def r05_Right (a0 : TRef) : Option Bool := (r01_Name a0.FName).bind fun x4 => bif ((!x4) || (decide ((24 : Int) < ((a0.FWraps.l.length : Nat) : Int)))) then (some false) else (r05_Right_l10 a0 x4 (a0.FWraps.l.length + 1) 0)
set_option maxRecDepth 100000 in
set_option maxHeartbeats 2000000 in
theorem r05_Right_walk {a0 : TRef}   {r : Bool} (hE : r05_Right a0 = some r) (H : Heap)  : ACalls Try.prog 54 [.agg (TRef.c a0)] H fun v h' => v = .a (.d (.bool r)) ∧ h' = H := by
 unfold r05_Right at hE
 refine ACalls.of_wp (fn := Try.f54) (c := _) Try.tab_ok (fun _ _ => Try.call54 _ _) Try.func54 rfl (n := 54) rfl (rs := [.tmp 2]) rfl rfl ?_
 refine AWp.seqK fun K1 hK1 => ?_
 refine AWp.region ?_
 refine AOps.s0 (Cert.boxV rfl) rfl ?_
 refine AOps.s0 (Cert.assign (by conv => lhs; whnf)) rfl ?_
 refine AOps.nil ?_
 refine hK1 _ ?_
 clear hK1 K1
 refine AWp.seqK fun K2 hK2 => ?_
 refine AWp.seqK fun K3 hK3 => ?_
 refine AWp.region ?_
 refine AOps.s0 (Cert.fieldV (Try.tab_ok _ _ rfl) rfl rfl (Try.tab_ok _ _ rfl) rfl rfl (by conv => lhs; whnf)) rfl ?_
 refine AOps.s0 (Cert.loadV (Try.tab_ok _ _ rfl) rfl rfl rfl) rfl ?_
 obtain ⟨x4, gx4, hE⟩ := bindO_some hE
 refine AOps.s0 (Cert.callP rfl rfl (fun H => r01_Name_walk gx4 H)) rfl ?_
 refine AOps.s0 (Cert.notB rfl) rfl ?_
 refine AOps.s0 (Cert.move (by conv => lhs; whnf)) rfl ?_
 refine AOps.gC rfl rfl (fun hC => Cert.fieldV (Try.tab_ok _ _ rfl) rfl rfl (Try.tab_ok _ _ rfl) rfl rfl (by conv => lhs; whnf)) rfl ?_
 refine AOps.gC rfl rfl (fun hC => Cert.ungd (k := 9) rfl (by first | exact hC | exact andL hC | exact andL (andL hC) | exact andL (andL (andL hC)) | exact andR hC | simp_all) (Cert.loadV (Try.tab_ok _ _ rfl) rfl rfl rfl)) rfl ?_
 refine AOps.gC rfl rfl (fun hC => Cert.ungd (k := 10) rfl (by first | exact hC | exact andL hC | exact andL (andL hC) | exact andL (andL (andL hC)) | exact andR hC | simp_all) (Cert.lenM' (f := (intE .i64)) (s := a0.FWraps) (Try.tab_ok _ _ rfl) rfl rfl rfl)) rfl ?_
 refine AOps.gC rfl rfl (fun hC => Cert.ungd (k := 11) rfl (by first | exact hC | exact andL hC | exact andL (andL hC) | exact andL (andL (andL hC)) | exact andR hC | simp_all) (Cert.binI rfl rfl rfl)) rfl ?_
 refine AOps.s0 (Cert.pickOr rfl rfl rfl (fun h => by first | exact h | exact notT h | exact andI hC h | exact andI hC (notT h) | simp_all)) rfl ?_
 refine AOps.nil ?_
 refine hK3 _ ?_
 clear hK3 K3
 refine AWp.cond rfl (fun hc5 => ?_) (fun hc5 => ?_)
 ·have hE := condT hc5 hE
  try dsimp only at hc5
  refine AWp.seqK fun K6 hK6 => ?_
  refine AWp.region ?_
  refine AOps.s0 (Cert.assign (by conv => lhs; whnf)) rfl ?_
  refine AOps.nil ?_
  refine hK6 _ ?_
  clear hK6 K6
  refine AWp.ret ?_
  repeat (first | refine xBlock_ret ?_ | refine xThen_ret ?_)
  obtain rfl := Option.some.inj hE
  refine retQ.retF H rfl ⟨rfl, rfl⟩ ?_
  exact (fun _ _ h => h)
 ·have hE := condF hc5 hE
  try dsimp only at hc5
  refine AWp.skip ?_
  refine hK2 _ ?_
  clear hK2 K2
  refine AWp.seqJH KeepsT.nil (fun (z : Unit) => []) (fun z => H) (fun z => r05_Right_j7 a0 x4  = some r) ?_ ?_
  ·intro K7 hK7
   refine AWp.seqK fun K9 hK9 => ?_
   refine AWp.region ?_
   refine AOps.s0 (Cert.assign (by conv => lhs; whnf)) rfl ?_
   refine AOps.nil ?_
   refine hK9 _ ?_
   clear hK9 K9
   refine AWp.block ?_
   refine AWp.loopH (KeepsT.cons (k := 1) (by conv => lhs; whnf) KeepsT.nil) (fun (z : Nat × Nat) => [(3, .a (.d (.int .i64 ((z.2 : Nat) : Int))))]) (fun z => H) (fun z => z.1) (fun z => r05_Right_l10 a0 x4 z.1 z.2 = some r) ((a0.FWraps.l.length + 1), 0) hE Weak.toA ?_
   rintro ⟨n10, s3_11⟩ hE K10 hK10
   try dsimp only at hE
   cases n10 with
   | zero => cases hE
   | succ n10 =>
     rw [r05_Right_l10] at hE
     refine AWp.seqK fun K12 hK12 => ?_
     refine AWp.seqK fun K13 hK13 => ?_
     refine AWp.region ?_
     refine AOps.s0 (Cert.move (by conv => lhs; whnf)) rfl ?_
     refine AOps.s0 (Cert.fieldV (Try.tab_ok _ _ rfl) rfl rfl (Try.tab_ok _ _ rfl) rfl rfl (by conv => lhs; whnf)) rfl ?_
     refine AOps.s0 (Cert.loadV (Try.tab_ok _ _ rfl) rfl rfl rfl) rfl ?_
     refine AOps.sLen (f := (intE .i64)) (s := a0.FWraps) (Try.tab_ok _ _ rfl) rfl rfl rfl rfl fun hL14 => ?_
     refine AOps.s0 (Cert.binI rfl rfl rfl) rfl ?_
     refine AOps.nil ?_
     refine hK13 _ ?_
     clear hK13 K13
     refine AWp.cond rfl (fun hc15 => ?_) (fun hc15 => ?_)
     ·have hE := condT hc15 hE
      try dsimp only at hc15
      have hf15 := of_decide_eq_true hc15
      refine AWp.skip ?_
      refine hK12 _ ?_
      clear hK12 K12
      refine AWp.seqK fun K16 hK16 => ?_
      refine AWp.block ?_
      refine AWp.seqK fun K17 hK17 => ?_
      refine AWp.seqK fun K18 hK18 => ?_
      refine AWp.region ?_
      refine AOps.s0 (Cert.fieldV (Try.tab_ok _ _ rfl) rfl rfl (Try.tab_ok _ _ rfl) rfl rfl (by conv => lhs; whnf)) rfl ?_
      refine AOps.s0 (Cert.loadV (Try.tab_ok _ _ rfl) rfl rfl rfl) rfl ?_
      refine AOps.s0 (Cert.move (by conv => lhs; whnf)) rfl ?_
      obtain ⟨x19, gx19, hE⟩ := bindO_some hE
      refine AOps.s0 (Cert.idxMn (f := (intE .i64)) (n := s3_11) (Try.tab_ok _ _ rfl) rfl (Try.tab_ok _ _ rfl) rfl rfl rfl gx19) rfl ?_
      refine AOps.s0 (Cert.loadV (Try.tab_ok _ _ rfl) rfl rfl rfl) rfl ?_
      refine AOps.s0 (Cert.binI rfl rfl rfl) rfl ?_
      refine AOps.s0 (Cert.move (by conv => lhs; whnf)) rfl ?_
      refine AOps.gC rfl rfl (fun hC => Cert.fieldV (Try.tab_ok _ _ rfl) rfl rfl (Try.tab_ok _ _ rfl) rfl rfl (by conv => lhs; whnf)) rfl ?_
      refine AOps.gC rfl rfl (fun hC => Cert.ungd (k := 28) rfl (by first | exact hC | exact andL hC | exact andL (andL hC) | exact andL (andL (andL hC)) | exact andR hC | simp_all) (Cert.loadV (Try.tab_ok _ _ rfl) rfl rfl rfl)) rfl ?_
      refine AOps.gC rfl rfl (fun hC => Cert.move (by conv => lhs; whnf)) rfl ?_
      obtain ⟨x20, gx20, hE⟩ := guardO_some hE
      refine AOps.gC rfl rfl (fun hC => Cert.ungd (k := 29) rfl (by first | exact hC | exact andL hC | exact andL (andL hC) | exact andL (andL (andL hC)) | exact andR hC | simp_all) (Cert.ungd (k := 30) rfl (by first | exact hC | exact andL hC | exact andL (andL hC) | exact andL (andL (andL hC)) | exact andR hC | simp_all) (Cert.idxMn (f := (intE .i64)) (n := s3_11) (Try.tab_ok _ _ rfl) rfl (Try.tab_ok _ _ rfl) rfl rfl rfl (gx20 hC)))) rfl ?_
      refine AOps.gC rfl rfl (fun hC => Cert.ungd (k := 31) rfl (by first | exact hC | exact andL hC | exact andL (andL hC) | exact andL (andL (andL hC)) | exact andR hC | simp_all) (Cert.loadV (Try.tab_ok _ _ rfl) rfl rfl rfl)) rfl ?_
      refine AOps.gC rfl rfl (fun hC => Cert.ungd (k := 32) rfl (by first | exact hC | exact andL hC | exact andL (andL hC) | exact andL (andL (andL hC)) | exact andR hC | simp_all) (Cert.binI rfl rfl rfl)) rfl ?_
      refine AOps.s0 (Cert.pickAnd rfl rfl (fun h => by first | exact h | exact notT h | exact andI hC h | exact andI hC (notT h) | simp_all) rfl) rfl ?_
      refine AOps.nil ?_
      refine hK18 _ ?_
      clear hK18 K18
      refine AWp.cond rfl (fun hc21 => ?_) (fun hc21 => ?_)
      ·have hE := condT hc21 hE
       try dsimp only at hc21
       refine AWp.seqK fun K22 hK22 => ?_
       refine AWp.region ?_
       refine AOps.s0 (Cert.assign (by conv => lhs; whnf)) rfl ?_
       refine AOps.nil ?_
       refine hK22 _ ?_
       clear hK22 K22
       refine AWp.ret ?_
       repeat (first | refine xBlock_ret ?_ | refine xThen_ret ?_)
       obtain rfl := Option.some.inj hE
       refine retQ.retF H rfl ⟨rfl, rfl⟩ ?_
       exact (fun _ _ h => h)
      ·have hE := condF hc21 hE
       try dsimp only at hc21
       refine AWp.skip ?_
       refine hK17 _ ?_
       clear hK17 K17
       refine AWp.seqK fun K23 hK23 => ?_
       refine AWp.region ?_
       refine AOps.s0 (Cert.move (by conv => lhs; whnf)) rfl ?_
       refine AOps.s0 (Cert.binI rfl rfl rfl) rfl ?_
       refine AOps.s0 (Cert.move (by conv => lhs; whnf)) rfl ?_
       refine AOps.gC rfl rfl (fun hC => Cert.fieldV (Try.tab_ok _ _ rfl) rfl rfl (Try.tab_ok _ _ rfl) rfl rfl (by conv => lhs; whnf)) rfl ?_
       refine AOps.gC rfl rfl (fun hC => Cert.ungd (k := 38) rfl (by first | exact hC | exact andL hC | exact andL (andL hC) | exact andL (andL (andL hC)) | exact andR hC | simp_all) (Cert.loadV (Try.tab_ok _ _ rfl) rfl rfl rfl)) rfl ?_
       refine AOps.gC rfl rfl (fun hC => Cert.move (by conv => lhs; whnf)) rfl ?_
       obtain ⟨x24, gx24, hE⟩ := guardO_some hE
       refine AOps.gC rfl rfl (fun hC => Cert.ungd (k := 39) rfl (by first | exact hC | exact andL hC | exact andL (andL hC) | exact andL (andL (andL hC)) | exact andR hC | simp_all) (Cert.ungd (k := 40) rfl (by first | exact hC | exact andL hC | exact andL (andL hC) | exact andL (andL (andL hC)) | exact andR hC | simp_all) (Cert.idxMn (f := (intE .i64)) (n := s3_11) (Try.tab_ok _ _ rfl) rfl (Try.tab_ok _ _ rfl) rfl rfl rfl (gx24 hC)))) rfl ?_
       refine AOps.gC rfl rfl (fun hC => Cert.ungd (k := 41) rfl (by first | exact hC | exact andL hC | exact andL (andL hC) | exact andL (andL (andL hC)) | exact andR hC | simp_all) (Cert.loadV (Try.tab_ok _ _ rfl) rfl rfl rfl)) rfl ?_
       refine AOps.gC rfl rfl (fun hC => Cert.ungd (k := 42) rfl (by first | exact hC | exact andL hC | exact andL (andL hC) | exact andL (andL (andL hC)) | exact andR hC | simp_all) (Cert.binI rfl rfl rfl)) rfl ?_
       refine AOps.s0 (Cert.pickAnd rfl rfl (fun h => by first | exact h | exact notT h | exact andI hC h | exact andI hC (notT h) | simp_all) rfl) rfl ?_
       refine AOps.s0 (Cert.move (by conv => lhs; whnf)) rfl ?_
       refine AOps.gC rfl rfl (fun hC => Cert.fieldV (Try.tab_ok _ _ rfl) rfl rfl (Try.tab_ok _ _ rfl) rfl rfl (by conv => lhs; whnf)) rfl ?_
       refine AOps.gC rfl rfl (fun hC => Cert.ungd (k := 46) rfl (by first | exact hC | exact andL hC | exact andL (andL hC) | exact andL (andL (andL hC)) | exact andR hC | simp_all) (Cert.loadV (Try.tab_ok _ _ rfl) rfl rfl rfl)) rfl ?_
       refine AOps.gC rfl rfl (fun hC => Cert.move (by conv => lhs; whnf)) rfl ?_
       obtain ⟨x25, gx25, hE⟩ := guardO_some hE
       refine AOps.gC rfl rfl (fun hC => Cert.ungd (k := 48) rfl (by first | exact hC | exact andL hC | exact andL (andL hC) | exact andL (andL (andL hC)) | exact andR hC | simp_all) (Cert.subM rfl rfl (gx25 hC))) rfl ?_
       obtain ⟨x26, gx26, hE⟩ := guardO_some hE
       refine AOps.gC rfl rfl (fun hC => Cert.ungd (k := 47) rfl (by first | exact hC | exact andL hC | exact andL (andL hC) | exact andL (andL (andL hC)) | exact andR hC | simp_all) (Cert.ungd (k := 49) rfl (by first | exact hC | exact andL hC | exact andL (andL hC) | exact andL (andL (andL hC)) | exact andR hC | simp_all) (Cert.idxM (f := (intE .i64)) (Try.tab_ok _ _ rfl) rfl (Try.tab_ok _ _ rfl) rfl rfl rfl (gx26 hC)))) rfl ?_
       refine AOps.gC rfl rfl (fun hC => Cert.ungd (k := 50) rfl (by first | exact hC | exact andL hC | exact andL (andL hC) | exact andL (andL (andL hC)) | exact andR hC | simp_all) (Cert.loadV (Try.tab_ok _ _ rfl) rfl rfl rfl)) rfl ?_
       refine AOps.gC rfl rfl (fun hC => Cert.ungd (k := 51) rfl (by first | exact hC | exact andL hC | exact andL (andL hC) | exact andL (andL (andL hC)) | exact andR hC | simp_all) (Cert.binI rfl rfl rfl)) rfl ?_
       refine AOps.s0 (Cert.pickAnd rfl rfl (fun h => by first | exact h | exact notT h | exact andI hC h | exact andI hC (notT h) | simp_all) rfl) rfl ?_
       refine AOps.nil ?_
       refine hK23 _ ?_
       clear hK23 K23
       refine AWp.cond rfl (fun hc27 => ?_) (fun hc27 => ?_)
       ·have hE := condT hc27 hE
        try dsimp only at hc27
        refine AWp.seqK fun K28 hK28 => ?_
        refine AWp.region ?_
        refine AOps.s0 (Cert.assign (by conv => lhs; whnf)) rfl ?_
        refine AOps.nil ?_
        refine hK28 _ ?_
        clear hK28 K28
        refine AWp.ret ?_
        repeat (first | refine xBlock_ret ?_ | refine xThen_ret ?_)
        obtain rfl := Option.some.inj hE
        refine retQ.retF H rfl ⟨rfl, rfl⟩ ?_
        exact (fun _ _ h => h)
       ·have hE := condF hc27 hE
        try dsimp only at hc27
        refine AWp.skip ?_
        refine hK16 _ ?_
        clear hK16 K16
        refine AWp.region ?_
        refine AOps.s0 (Cert.move (by conv => lhs; whnf)) rfl ?_
        refine AOps.s0 (Cert.addI rfl rfl (by first | omega | (dsimp only; omega)) (by first | omega | (dsimp only; omega))) rfl ?_
        refine AOps.s0 (Cert.assign (by conv => lhs; whnf)) rfl ?_
        refine AOps.nil ?_
        exact hK10 _ (n10, (s3_11 + 1)) Weak.toA hE (Nat.lt_succ_self _)
     ·have hE := condF hc15 hE
      try dsimp only at hc15
      refine AWp.exit ?_
      exact hK7 _ () Weak.toA hE
  ·rintro _ hE
   try dsimp only at hE
   unfold r05_Right_j7 at hE
   refine AWp.seqK fun K8 hK8 => ?_
   refine AWp.region ?_
   refine AOps.s0 (Cert.assign (by conv => lhs; whnf)) rfl ?_
   refine AOps.nil ?_
   refine hK8 _ ?_
   clear hK8 K8
   refine AWp.ret ?_
   repeat (first | refine xBlock_ret ?_ | refine xThen_ret ?_)
   obtain rfl := Option.some.inj hE
   refine retQ.retF H rfl ⟨rfl, rfl⟩ ?_
   exact (fun _ _ h => h)
def r06_null (a0 : TValue) : Option Bool := some (((((decide (a0.FKind = (0 : Int))) && (decide (a0.FInt = (0 : Int)))) && ((a0.FText == ([] : Bs)))) && (decide (((a0.FItems.l.length : Nat) : Int) = (0 : Int)))) && (decide (((a0.FKeys.l.length : Nat) : Int) = (0 : Int))))
set_option maxRecDepth 100000 in
set_option maxHeartbeats 2000000 in
theorem r06_null_walk {a0 : TValue}   {r : Bool} (hE : r06_null a0 = some r) (H : Heap)  : ACalls Try.prog 67 [.agg (TValue.c a0)] H fun v h' => v = .a (.d (.bool r)) ∧ h' = H := by
 unfold r06_null at hE
 refine ACalls.of_wp (fn := Try.f67) (c := _) Try.tab_ok (fun _ _ => Try.call67 _ _) Try.func67 rfl (n := 28) rfl (rs := [.tmp 2]) rfl rfl ?_
 refine AWp.seqK fun K1 hK1 => ?_
 refine AWp.region ?_
 refine AOps.s0 (Cert.boxV rfl) rfl ?_
 refine AOps.s0 (Cert.assign (by conv => lhs; whnf)) rfl ?_
 refine AOps.nil ?_
 refine hK1 _ ?_
 clear hK1 K1
 refine AWp.seqK fun K2 hK2 => ?_
 refine AWp.region ?_
 refine AOps.s0 (Cert.fieldV (Try.tab_ok _ _ rfl) rfl rfl (Try.tab_ok _ _ rfl) rfl rfl (by conv => lhs; whnf)) rfl ?_
 refine AOps.s0 (Cert.loadV (Try.tab_ok _ _ rfl) rfl rfl rfl) rfl ?_
 refine AOps.s0 (Cert.binI rfl rfl rfl) rfl ?_
 refine AOps.s0 (Cert.move (by conv => lhs; whnf)) rfl ?_
 refine AOps.gC rfl rfl (fun hC => Cert.fieldV (Try.tab_ok _ _ rfl) rfl rfl (Try.tab_ok _ _ rfl) rfl rfl (by conv => lhs; whnf)) rfl ?_
 refine AOps.gC rfl rfl (fun hC => Cert.ungd (k := 7) rfl (by first | exact hC | exact andL hC | exact andL (andL hC) | exact andL (andL (andL hC)) | exact andR hC | simp_all) (Cert.loadV (Try.tab_ok _ _ rfl) rfl rfl rfl)) rfl ?_
 refine AOps.gC rfl rfl (fun hC => Cert.ungd (k := 8) rfl (by first | exact hC | exact andL hC | exact andL (andL hC) | exact andL (andL (andL hC)) | exact andR hC | simp_all) (Cert.binI rfl rfl rfl)) rfl ?_
 refine AOps.s0 (Cert.pickAnd rfl rfl (fun h => by first | exact h | exact notT h | exact andI hC h | exact andI hC (notT h) | simp_all) rfl) rfl ?_
 refine AOps.s0 (Cert.move (by conv => lhs; whnf)) rfl ?_
 refine AOps.gC rfl rfl (fun hC => Cert.fieldV (Try.tab_ok _ _ rfl) rfl rfl (Try.tab_ok _ _ rfl) rfl rfl (by conv => lhs; whnf)) rfl ?_
 refine AOps.gC rfl rfl (fun hC => Cert.ungd (k := 12) rfl (by first | exact hC | exact andL hC | exact andL (andL hC) | exact andL (andL (andL hC)) | exact andR hC | simp_all) (Cert.loadV (Try.tab_ok _ _ rfl) rfl rfl rfl)) rfl ?_
 refine AOps.gC rfl rfl (fun hC => Cert.ungd (k := 13) rfl (by first | exact hC | exact andL hC | exact andL (andL hC) | exact andL (andL (andL hC)) | exact andR hC | simp_all) (Cert.binS rfl rfl rfl)) rfl ?_
 refine AOps.s0 (Cert.pickAnd rfl rfl (fun h => by first | exact h | exact notT h | exact andI hC h | exact andI hC (notT h) | simp_all) rfl) rfl ?_
 refine AOps.s0 (Cert.move (by conv => lhs; whnf)) rfl ?_
 refine AOps.gC rfl rfl (fun hC => Cert.fieldV (Try.tab_ok _ _ rfl) rfl rfl (Try.tab_ok _ _ rfl) rfl rfl (by conv => lhs; whnf)) rfl ?_
 refine AOps.gC rfl rfl (fun hC => Cert.ungd (k := 17) rfl (by first | exact hC | exact andL hC | exact andL (andL hC) | exact andL (andL (andL hC)) | exact andR hC | simp_all) (Cert.loadV (Try.tab_ok _ _ rfl) rfl rfl (congrArg (fun x => some (A.d x)) (TValue.FItemsD_eq _)))) rfl ?_
 refine AOps.gC rfl rfl (fun hC => Cert.ungd (k := 18) rfl (by first | exact hC | exact andL hC | exact andL (andL hC) | exact andL (andL (andL hC)) | exact andR hC | simp_all) (Cert.lenM' (f := TValue.c) (s := a0.FItems) (Try.tab_ok _ _ rfl) rfl rfl rfl)) rfl ?_
 refine AOps.gC rfl rfl (fun hC => Cert.ungd (k := 19) rfl (by first | exact hC | exact andL hC | exact andL (andL hC) | exact andL (andL (andL hC)) | exact andR hC | simp_all) (Cert.binI rfl rfl rfl)) rfl ?_
 refine AOps.s0 (Cert.pickAnd rfl rfl (fun h => by first | exact h | exact notT h | exact andI hC h | exact andI hC (notT h) | simp_all) rfl) rfl ?_
 refine AOps.s0 (Cert.move (by conv => lhs; whnf)) rfl ?_
 refine AOps.gC rfl rfl (fun hC => Cert.fieldV (Try.tab_ok _ _ rfl) rfl rfl (Try.tab_ok _ _ rfl) rfl rfl (by conv => lhs; whnf)) rfl ?_
 refine AOps.gC rfl rfl (fun hC => Cert.ungd (k := 23) rfl (by first | exact hC | exact andL hC | exact andL (andL hC) | exact andL (andL (andL hC)) | exact andR hC | simp_all) (Cert.loadV (Try.tab_ok _ _ rfl) rfl rfl rfl)) rfl ?_
 refine AOps.gC rfl rfl (fun hC => Cert.ungd (k := 24) rfl (by first | exact hC | exact andL hC | exact andL (andL hC) | exact andL (andL (andL hC)) | exact andR hC | simp_all) (Cert.lenM' (f := strE) (s := a0.FKeys) (Try.tab_ok _ _ rfl) rfl rfl rfl)) rfl ?_
 refine AOps.gC rfl rfl (fun hC => Cert.ungd (k := 25) rfl (by first | exact hC | exact andL hC | exact andL (andL hC) | exact andL (andL (andL hC)) | exact andR hC | simp_all) (Cert.binI rfl rfl rfl)) rfl ?_
 refine AOps.s0 (Cert.pickAnd rfl rfl (fun h => by first | exact h | exact notT h | exact andI hC h | exact andI hC (notT h) | simp_all) rfl) rfl ?_
 refine AOps.s0 (Cert.assign (by conv => lhs; whnf)) rfl ?_
 refine AOps.nil ?_
 refine hK2 _ ?_
 clear hK2 K2
 refine AWp.ret ?_
 repeat (first | refine xBlock_ret ?_ | refine xThen_ret ?_)
 obtain rfl := Option.some.inj hE
 refine retQ.retF H rfl ⟨rfl, rfl⟩ ?_
 exact (fun _ _ h => h)
def r06_inputsRight_j7 (a0 : (Sl TInput))   : Option Bool := some true
def r06_inputsRight_l10 (a0 : (Sl TInput))  : Nat → Nat → Option Bool
 | 0, _ => none
 | n10 + 1, s3_11 => bif (decide (((s3_11 : Nat) : Int) < ((a0.l.length : Nat) : Int))) then ((a0.l[s3_11]?).bind fun x18 => (r01_Name x18.FName).bind fun x21 => guardO (!(!x21)) (r05_Right x18.FType) false fun x22 => guardO (!((!x21) || (!x22))) (r06_dirsRight x18.FDirs) false fun x23 => bif (((!x21) || (!x22)) || (!x23)) then (some false) else (guardO (x18.FHas) (r02_Literal x18.FDefault) false fun x27 => guardO ((x18.FHas && !(!x27))) (r06_closed x18.FDefault) false fun x28 => guardO ((!(x18.FHas && ((!x27) || (!x28))) && (!x18.FHas))) (r06_null x18.FDefault) false fun x29 => bif ((x18.FHas && ((!x27) || (!x28))) || ((!x18.FHas) && (!x29))) then (some false) else ((r06_inputsRight_l10 a0 n10) (s3_11 + 1)))) else (r06_inputsRight_j7 a0  )
def r06_inputsRight (a0 : (Sl TInput)) : Option Bool := bif (decide ((16 : Int) < ((a0.l.length : Nat) : Int))) then (some false) else (r06_inputsRight_l10 a0 (a0.l.length + 1) 0)
set_option maxRecDepth 100000 in
set_option maxHeartbeats 2000000 in
theorem r06_inputsRight_walk {a0 : (Sl TInput)} {w0 : Option Nat}  {r : Bool} (hE : r06_inputsRight a0 = some r) (H : Heap)  : ACalls Try.prog 51 [.d (Sl.d 10 TInput.c w0 a0)] H fun v h' => v = .a (.d (.bool r)) ∧ h' = H := by
 unfold r06_inputsRight at hE
 refine ACalls.of_wp (fn := Try.f51) (c := _) Try.tab_ok (fun _ _ => Try.call51 _ _) Try.func51 rfl (n := 59) rfl (rs := [.tmp 2]) rfl rfl ?_
 refine AWp.seqK fun K1 hK1 => ?_
 refine AWp.region ?_
 refine AOps.s0 (Cert.assign (by conv => lhs; whnf)) rfl ?_
 refine AOps.nil ?_
 refine hK1 _ ?_
 clear hK1 K1
 refine AWp.seqK fun K2 hK2 => ?_
 refine AWp.seqK fun K3 hK3 => ?_
 refine AWp.region ?_
 refine AOps.s0 (Cert.move (by conv => lhs; whnf)) rfl ?_
 refine AOps.sLen (f := TInput.c) (s := a0) (Try.tab_ok _ _ rfl) rfl rfl rfl rfl fun hL4 => ?_
 refine AOps.s0 (Cert.binI rfl rfl rfl) rfl ?_
 refine AOps.nil ?_
 refine hK3 _ ?_
 clear hK3 K3
 refine AWp.cond rfl (fun hc5 => ?_) (fun hc5 => ?_)
 ·have hE := condT hc5 hE
  try dsimp only at hc5
  refine AWp.seqK fun K6 hK6 => ?_
  refine AWp.region ?_
  refine AOps.s0 (Cert.assign (by conv => lhs; whnf)) rfl ?_
  refine AOps.nil ?_
  refine hK6 _ ?_
  clear hK6 K6
  refine AWp.ret ?_
  repeat (first | refine xBlock_ret ?_ | refine xThen_ret ?_)
  obtain rfl := Option.some.inj hE
  refine retQ.retF H rfl ⟨rfl, rfl⟩ ?_
  exact (fun _ _ h => h)
 ·have hE := condF hc5 hE
  try dsimp only at hc5
  refine AWp.skip ?_
  refine hK2 _ ?_
  clear hK2 K2
  refine AWp.seqJH KeepsT.nil (fun (z : Unit) => []) (fun z => H) (fun z => r06_inputsRight_j7 a0  = some r) ?_ ?_
  ·intro K7 hK7
   refine AWp.seqK fun K9 hK9 => ?_
   refine AWp.region ?_
   refine AOps.s0 (Cert.assign (by conv => lhs; whnf)) rfl ?_
   refine AOps.nil ?_
   refine hK9 _ ?_
   clear hK9 K9
   refine AWp.block ?_
   refine AWp.loopH (KeepsT.cons (k := 0) (by conv => lhs; whnf) KeepsT.nil) (fun (z : Nat × Nat) => [(3, .a (.d (.int .i64 ((z.2 : Nat) : Int))))]) (fun z => H) (fun z => z.1) (fun z => r06_inputsRight_l10 a0 z.1 z.2 = some r) ((a0.l.length + 1), 0) hE Weak.toA ?_
   rintro ⟨n10, s3_11⟩ hE K10 hK10
   try dsimp only at hE
   cases n10 with
   | zero => cases hE
   | succ n10 =>
     rw [r06_inputsRight_l10] at hE
     refine AWp.seqK fun K12 hK12 => ?_
     refine AWp.seqK fun K13 hK13 => ?_
     refine AWp.region ?_
     refine AOps.s0 (Cert.move (by conv => lhs; whnf)) rfl ?_
     refine AOps.s0 (Cert.move (by conv => lhs; whnf)) rfl ?_
     refine AOps.sLen (f := TInput.c) (s := a0) (Try.tab_ok _ _ rfl) rfl rfl rfl rfl fun hL14 => ?_
     refine AOps.s0 (Cert.binI rfl rfl rfl) rfl ?_
     refine AOps.nil ?_
     refine hK13 _ ?_
     clear hK13 K13
     refine AWp.cond rfl (fun hc15 => ?_) (fun hc15 => ?_)
     ·have hE := condT hc15 hE
      try dsimp only at hc15
      have hf15 := of_decide_eq_true hc15
      refine AWp.skip ?_
      refine hK12 _ ?_
      clear hK12 K12
      refine AWp.seqK fun K16 hK16 => ?_
      refine AWp.block ?_
      refine AWp.seqK fun K17 hK17 => ?_
      refine AWp.region ?_
      refine AOps.s0 (Cert.move (by conv => lhs; whnf)) rfl ?_
      refine AOps.s0 (Cert.move (by conv => lhs; whnf)) rfl ?_
      obtain ⟨x18, gx18, hE⟩ := bindO_some hE
      refine AOps.s0 (Cert.idxMn (f := TInput.c) (n := s3_11) (Try.tab_ok _ _ rfl) rfl (Try.tab_ok _ _ rfl) rfl rfl rfl gx18) rfl ?_
      refine AOps.s0 (Cert.loadV (Try.tab_ok _ _ rfl) rfl rfl rfl) rfl ?_
      refine AOps.sL (Cert.allocL (Try.tab_ok _ _ rfl) rfl (by repeat (first | exact Snoc.nil | apply Snoc.cons))) rfl ?_
      refine AOps.sLn (Cert.storeLF (Try.tab_ok _ _ rfl) rfl rfl rfl rfl rfl (by repeat (first | exact SetAt.zero | apply SetAt.succ))) ?_
      refine AOps.nil ?_
      refine hK17 _ ?_
      clear hK17 K17
      refine AWp.freeze 4 _ rfl (by repeat (first | exact Snoc.nil | apply Snoc.cons)) (Keeps.c (k := 0) (by conv => lhs; whnf) (by rfl) (Keeps.c (k := 3) (by conv => lhs; whnf) (by rfl) Keeps.nil)) ?_
      refine AWp.seqK fun K19 hK19 => ?_
      refine AWp.seqK fun K20 hK20 => ?_
      refine AWp.region ?_
      refine AOps.s0 (Cert.fieldV (Try.tab_ok _ _ rfl) rfl rfl (Try.tab_ok _ _ rfl) rfl rfl (by conv => lhs; whnf)) rfl ?_
      refine AOps.s0 (Cert.loadV (Try.tab_ok _ _ rfl) rfl rfl rfl) rfl ?_
      obtain ⟨x21, gx21, hE⟩ := bindO_some hE
      refine AOps.s0 (Cert.callP rfl rfl (fun H => r01_Name_walk gx21 H)) rfl ?_
      refine AOps.s0 (Cert.notB rfl) rfl ?_
      refine AOps.s0 (Cert.move (by conv => lhs; whnf)) rfl ?_
      refine AOps.gC rfl rfl (fun hC => Cert.fieldV (Try.tab_ok _ _ rfl) rfl rfl (Try.tab_ok _ _ rfl) rfl rfl (by conv => lhs; whnf)) rfl ?_
      refine AOps.gC rfl rfl (fun hC => Cert.ungd (k := 23) rfl (by first | exact hC | exact andL hC | exact andL (andL hC) | exact andL (andL (andL hC)) | exact andR hC | simp_all) (Cert.loadV (Try.tab_ok _ _ rfl) rfl rfl rfl)) rfl ?_
      obtain ⟨x22, gx22, hE⟩ := guardO_some hE
      refine AOps.gC rfl rfl (fun hC => Cert.ungd (k := 24) rfl (by first | exact hC | exact andL hC | exact andL (andL hC) | exact andL (andL (andL hC)) | exact andR hC | simp_all) (Cert.callP rfl rfl (fun H => r05_Right_walk (gx22 hC) H))) rfl ?_
      refine AOps.gC rfl rfl (fun hC => Cert.ungd (k := 25) rfl (by first | exact hC | exact andL hC | exact andL (andL hC) | exact andL (andL (andL hC)) | exact andR hC | simp_all) (Cert.notB rfl)) rfl ?_
      refine AOps.s0 (Cert.pickOr rfl rfl rfl (fun h => by first | exact h | exact notT h | exact andI hC h | exact andI hC (notT h) | simp_all)) rfl ?_
      refine AOps.s0 (Cert.move (by conv => lhs; whnf)) rfl ?_
      refine AOps.gC rfl rfl (fun hC => Cert.fieldV (Try.tab_ok _ _ rfl) rfl rfl (Try.tab_ok _ _ rfl) rfl rfl (by conv => lhs; whnf)) rfl ?_
      refine AOps.gC rfl rfl (fun hC => Cert.ungd (k := 29) rfl (by first | exact hC | exact andL hC | exact andL (andL hC) | exact andL (andL (andL hC)) | exact andR hC | simp_all) (Cert.loadV (Try.tab_ok _ _ rfl) rfl rfl rfl)) rfl ?_
      obtain ⟨x23, gx23, hE⟩ := guardO_some hE
      refine AOps.gC rfl rfl (fun hC => Cert.ungd (k := 30) rfl (by first | exact hC | exact andL hC | exact andL (andL hC) | exact andL (andL (andL hC)) | exact andR hC | simp_all) (Cert.callP rfl rfl (fun H => r06_dirsRight_walk (gx23 hC) H))) rfl ?_
      refine AOps.gC rfl rfl (fun hC => Cert.ungd (k := 31) rfl (by first | exact hC | exact andL hC | exact andL (andL hC) | exact andL (andL (andL hC)) | exact andR hC | simp_all) (Cert.notB rfl)) rfl ?_
      refine AOps.s0 (Cert.pickOr rfl rfl rfl (fun h => by first | exact h | exact notT h | exact andI hC h | exact andI hC (notT h) | simp_all)) rfl ?_
      refine AOps.nil ?_
      refine hK20 _ ?_
      clear hK20 K20
      refine AWp.cond rfl (fun hc24 => ?_) (fun hc24 => ?_)
      ·have hE := condT hc24 hE
       try dsimp only at hc24
       refine AWp.seqK fun K25 hK25 => ?_
       refine AWp.region ?_
       refine AOps.s0 (Cert.assign (by conv => lhs; whnf)) rfl ?_
       refine AOps.nil ?_
       refine hK25 _ ?_
       clear hK25 K25
       refine AWp.ret ?_
       repeat (first | refine xBlock_ret ?_ | refine xThen_ret ?_)
       obtain rfl := Option.some.inj hE
       refine retQ.retF H rfl ⟨rfl, rfl⟩ ?_
       exact (fun _ _ h => h)
      ·have hE := condF hc24 hE
       try dsimp only at hc24
       refine AWp.skip ?_
       refine hK19 _ ?_
       clear hK19 K19
       refine AWp.seqK fun K26 hK26 => ?_
       refine AWp.region ?_
       refine AOps.s0 (Cert.fieldV (Try.tab_ok _ _ rfl) rfl rfl (Try.tab_ok _ _ rfl) rfl rfl (by conv => lhs; whnf)) rfl ?_
       refine AOps.s0 (Cert.loadV (Try.tab_ok _ _ rfl) rfl rfl rfl) rfl ?_
       refine AOps.s0 (Cert.move (by conv => lhs; whnf)) rfl ?_
       refine AOps.gC rfl rfl (fun hC => Cert.fieldV (Try.tab_ok _ _ rfl) rfl rfl (Try.tab_ok _ _ rfl) rfl rfl (by conv => lhs; whnf)) rfl ?_
       refine AOps.gC rfl rfl (fun hC => Cert.ungd (k := 37) rfl (by first | exact hC | exact andL hC | exact andL (andL hC) | exact andL (andL (andL hC)) | exact andR hC | simp_all) (Cert.loadV (Try.tab_ok _ _ rfl) rfl rfl rfl)) rfl ?_
       obtain ⟨x27, gx27, hE⟩ := guardO_some hE
       refine AOps.gC rfl rfl (fun hC => Cert.ungd (k := 38) rfl (by first | exact hC | exact andL hC | exact andL (andL hC) | exact andL (andL (andL hC)) | exact andR hC | simp_all) (Cert.callP rfl rfl (fun H => r02_Literal_walk (gx27 hC) H))) rfl ?_
       refine AOps.gC rfl rfl (fun hC => Cert.ungd (k := 39) rfl (by first | exact hC | exact andL hC | exact andL (andL hC) | exact andL (andL (andL hC)) | exact andR hC | simp_all) (Cert.notB rfl)) rfl ?_
       refine AOps.gC rfl rfl (fun hC => Cert.ungd (k := 40) rfl (by first | exact hC | exact andL hC | exact andL (andL hC) | exact andL (andL (andL hC)) | exact andR hC | simp_all) (Cert.move (by conv => lhs; whnf))) rfl ?_
       refine AOps.gC rfl rfl (fun hC => Cert.fieldV (Try.tab_ok _ _ rfl) rfl rfl (Try.tab_ok _ _ rfl) rfl rfl (by conv => lhs; whnf)) rfl ?_
       refine AOps.gC rfl rfl (fun hC => Cert.ungd (k := 42) rfl (by first | exact hC | exact andL hC | exact andL (andL hC) | exact andL (andL (andL hC)) | exact andR hC | simp_all) (Cert.loadV (Try.tab_ok _ _ rfl) rfl rfl rfl)) rfl ?_
       obtain ⟨x28, gx28, hE⟩ := guardO_some hE
       refine AOps.gC rfl rfl (fun hC => Cert.ungd (k := 43) rfl (by first | exact hC | exact andL hC | exact andL (andL hC) | exact andL (andL (andL hC)) | exact andR hC | simp_all) (Cert.callP rfl rfl (fun H => r06_closed_walk (gx28 hC) H))) rfl ?_
       refine AOps.gC rfl rfl (fun hC => Cert.ungd (k := 44) rfl (by first | exact hC | exact andL hC | exact andL (andL hC) | exact andL (andL (andL hC)) | exact andR hC | simp_all) (Cert.notB rfl)) rfl ?_
       refine AOps.gC rfl rfl (fun hC => Cert.ungd (k := 41) rfl (by first | exact hC | exact andL hC | exact andL (andL hC) | exact andL (andL (andL hC)) | exact andR hC | simp_all) (Cert.pickOr rfl rfl rfl (fun h => by first | exact h | exact notT h | exact andI hC h | exact andI hC (notT h) | simp_all))) rfl ?_
       refine AOps.s0 (Cert.pickAnd rfl rfl (fun h => by first | exact h | exact notT h | exact andI hC h | exact andI hC (notT h) | simp_all) rfl) rfl ?_
       refine AOps.s0 (Cert.move (by conv => lhs; whnf)) rfl ?_
       refine AOps.gC rfl rfl (fun hC => Cert.fieldV (Try.tab_ok _ _ rfl) rfl rfl (Try.tab_ok _ _ rfl) rfl rfl (by conv => lhs; whnf)) rfl ?_
       refine AOps.gC rfl rfl (fun hC => Cert.ungd (k := 49) rfl (by first | exact hC | exact andL hC | exact andL (andL hC) | exact andL (andL (andL hC)) | exact andR hC | simp_all) (Cert.loadV (Try.tab_ok _ _ rfl) rfl rfl rfl)) rfl ?_
       refine AOps.gC rfl rfl (fun hC => Cert.ungd (k := 50) rfl (by first | exact hC | exact andL hC | exact andL (andL hC) | exact andL (andL (andL hC)) | exact andR hC | simp_all) (Cert.notB rfl)) rfl ?_
       refine AOps.gC rfl rfl (fun hC => Cert.ungd (k := 51) rfl (by first | exact hC | exact andL hC | exact andL (andL hC) | exact andL (andL (andL hC)) | exact andR hC | simp_all) (Cert.move (by conv => lhs; whnf))) rfl ?_
       refine AOps.gC rfl rfl (fun hC => Cert.fieldV (Try.tab_ok _ _ rfl) rfl rfl (Try.tab_ok _ _ rfl) rfl rfl (by conv => lhs; whnf)) rfl ?_
       refine AOps.gC rfl rfl (fun hC => Cert.ungd (k := 53) rfl (by first | exact hC | exact andL hC | exact andL (andL hC) | exact andL (andL (andL hC)) | exact andR hC | simp_all) (Cert.loadV (Try.tab_ok _ _ rfl) rfl rfl rfl)) rfl ?_
       obtain ⟨x29, gx29, hE⟩ := guardO_some hE
       refine AOps.gC rfl rfl (fun hC => Cert.ungd (k := 54) rfl (by first | exact hC | exact andL hC | exact andL (andL hC) | exact andL (andL (andL hC)) | exact andR hC | simp_all) (Cert.callP rfl rfl (fun H => r06_null_walk (gx29 hC) H))) rfl ?_
       refine AOps.gC rfl rfl (fun hC => Cert.ungd (k := 55) rfl (by first | exact hC | exact andL hC | exact andL (andL hC) | exact andL (andL (andL hC)) | exact andR hC | simp_all) (Cert.notB rfl)) rfl ?_
       refine AOps.gC rfl rfl (fun hC => Cert.ungd (k := 52) rfl (by first | exact hC | exact andL hC | exact andL (andL hC) | exact andL (andL (andL hC)) | exact andR hC | simp_all) (Cert.pickAnd rfl rfl (fun h => by first | exact h | exact notT h | exact andI hC h | exact andI hC (notT h) | simp_all) rfl)) rfl ?_
       refine AOps.s0 (Cert.pickOr rfl rfl rfl (fun h => by first | exact h | exact notT h | exact andI hC h | exact andI hC (notT h) | simp_all)) rfl ?_
       refine AOps.nil ?_
       refine hK26 _ ?_
       clear hK26 K26
       refine AWp.cond rfl (fun hc30 => ?_) (fun hc30 => ?_)
       ·have hE := condT hc30 hE
        try dsimp only at hc30
        refine AWp.seqK fun K31 hK31 => ?_
        refine AWp.region ?_
        refine AOps.s0 (Cert.assign (by conv => lhs; whnf)) rfl ?_
        refine AOps.nil ?_
        refine hK31 _ ?_
        clear hK31 K31
        refine AWp.ret ?_
        repeat (first | refine xBlock_ret ?_ | refine xThen_ret ?_)
        obtain rfl := Option.some.inj hE
        refine retQ.retF H rfl ⟨rfl, rfl⟩ ?_
        exact (fun _ _ h => h)
       ·have hE := condF hc30 hE
        try dsimp only at hc30
        refine AWp.skip ?_
        refine hK16 _ ?_
        clear hK16 K16
        refine AWp.region ?_
        refine AOps.s0 (Cert.move (by conv => lhs; whnf)) rfl ?_
        refine AOps.s0 (Cert.addI rfl rfl (by first | omega | (dsimp only; omega)) (by first | omega | (dsimp only; omega))) rfl ?_
        refine AOps.s0 (Cert.assign (by conv => lhs; whnf)) rfl ?_
        refine AOps.nil ?_
        exact hK10 _ (n10, (s3_11 + 1)) Weak.toA hE (Nat.lt_succ_self _)
     ·have hE := condF hc15 hE
      try dsimp only at hc15
      refine AWp.exit ?_
      exact hK7 _ () Weak.toA hE
  ·rintro _ hE
   try dsimp only at hE
   unfold r06_inputsRight_j7 at hE
   refine AWp.seqK fun K8 hK8 => ?_
   refine AWp.region ?_
   refine AOps.s0 (Cert.assign (by conv => lhs; whnf)) rfl ?_
   refine AOps.nil ?_
   refine hK8 _ ?_
   clear hK8 K8
   refine AWp.ret ?_
   repeat (first | refine xBlock_ret ?_ | refine xThen_ret ?_)
   obtain rfl := Option.some.inj hE
   refine retQ.retF H rfl ⟨rfl, rfl⟩ ?_
   exact (fun _ _ h => h)
def r06_fieldsRight_j7 (a0 : (Sl TField))   : Option Bool := some true
def r06_fieldsRight_l10 (a0 : (Sl TField))  : Nat → Nat → Option Bool
 | 0, _ => none
 | n10 + 1, s3_11 => bif (decide (((s3_11 : Nat) : Int) < ((a0.l.length : Nat) : Int))) then ((a0.l[s3_11]?).bind fun x18 => (r01_Name x18.FName).bind fun x19 => guardO (!(!x19)) (a0.l[s3_11]?) TField.zero fun x20 => guardO (!(!x19)) (r06_inputsRight x20.FArgs) false fun x21 => guardO (!((!x19) || (!x21))) (a0.l[s3_11]?) TField.zero fun x22 => guardO (!((!x19) || (!x21))) (r05_Right x22.FType) false fun x23 => guardO (!(((!x19) || (!x21)) || (!x23))) (a0.l[s3_11]?) TField.zero fun x24 => guardO (!(((!x19) || (!x21)) || (!x23))) (r06_dirsRight x24.FDirs) false fun x25 => bif ((((!x19) || (!x21)) || (!x23)) || (!x25)) then (some false) else ((r06_fieldsRight_l10 a0 n10) (s3_11 + 1))) else (r06_fieldsRight_j7 a0  )
def r06_fieldsRight (a0 : (Sl TField)) : Option Bool := bif ((decide (((a0.l.length : Nat) : Int) < (1 : Int))) || (decide ((64 : Int) < ((a0.l.length : Nat) : Int)))) then (some false) else (r06_fieldsRight_l10 a0 (a0.l.length + 1) 0)
set_option maxRecDepth 100000 in
set_option maxHeartbeats 2000000 in
theorem r06_fieldsRight_walk {a0 : (Sl TField)} {w0 : Option Nat}  {r : Bool} (hE : r06_fieldsRight a0 = some r) (H : Heap)  : ACalls Try.prog 49 [.d (Sl.d 5 TField.c w0 a0)] H fun v h' => v = .a (.d (.bool r)) ∧ h' = H := by
 unfold r06_fieldsRight at hE
 refine ACalls.of_wp (fn := Try.f49) (c := _) Try.tab_ok (fun _ _ => Try.call49 _ _) Try.func49 rfl (n := 52) rfl (rs := [.tmp 2]) rfl rfl ?_
 refine AWp.seqK fun K1 hK1 => ?_
 refine AWp.region ?_
 refine AOps.s0 (Cert.assign (by conv => lhs; whnf)) rfl ?_
 refine AOps.nil ?_
 refine hK1 _ ?_
 clear hK1 K1
 refine AWp.seqK fun K2 hK2 => ?_
 refine AWp.seqK fun K3 hK3 => ?_
 refine AWp.region ?_
 refine AOps.s0 (Cert.move (by conv => lhs; whnf)) rfl ?_
 refine AOps.sLen (f := TField.c) (s := a0) (Try.tab_ok _ _ rfl) rfl rfl rfl rfl fun hL4 => ?_
 refine AOps.s0 (Cert.binI rfl rfl rfl) rfl ?_
 refine AOps.s0 (Cert.move (by conv => lhs; whnf)) rfl ?_
 refine AOps.gC rfl rfl (fun hC => Cert.move (by conv => lhs; whnf)) rfl ?_
 refine AOps.gC rfl rfl (fun hC => Cert.ungd (k := 8) rfl (by first | exact hC | exact andL hC | exact andL (andL hC) | exact andL (andL (andL hC)) | exact andR hC | simp_all) (Cert.lenM' (f := TField.c) (s := a0) (Try.tab_ok _ _ rfl) rfl rfl rfl)) rfl ?_
 refine AOps.gC rfl rfl (fun hC => Cert.ungd (k := 9) rfl (by first | exact hC | exact andL hC | exact andL (andL hC) | exact andL (andL (andL hC)) | exact andR hC | simp_all) (Cert.binI rfl rfl rfl)) rfl ?_
 refine AOps.s0 (Cert.pickOr rfl rfl rfl (fun h => by first | exact h | exact notT h | exact andI hC h | exact andI hC (notT h) | simp_all)) rfl ?_
 refine AOps.nil ?_
 refine hK3 _ ?_
 clear hK3 K3
 refine AWp.cond rfl (fun hc5 => ?_) (fun hc5 => ?_)
 ·have hE := condT hc5 hE
  try dsimp only at hc5
  refine AWp.seqK fun K6 hK6 => ?_
  refine AWp.region ?_
  refine AOps.s0 (Cert.assign (by conv => lhs; whnf)) rfl ?_
  refine AOps.nil ?_
  refine hK6 _ ?_
  clear hK6 K6
  refine AWp.ret ?_
  repeat (first | refine xBlock_ret ?_ | refine xThen_ret ?_)
  obtain rfl := Option.some.inj hE
  refine retQ.retF H rfl ⟨rfl, rfl⟩ ?_
  exact (fun _ _ h => h)
 ·have hE := condF hc5 hE
  try dsimp only at hc5
  refine AWp.skip ?_
  refine hK2 _ ?_
  clear hK2 K2
  refine AWp.seqJH KeepsT.nil (fun (z : Unit) => []) (fun z => H) (fun z => r06_fieldsRight_j7 a0  = some r) ?_ ?_
  ·intro K7 hK7
   refine AWp.seqK fun K9 hK9 => ?_
   refine AWp.region ?_
   refine AOps.s0 (Cert.assign (by conv => lhs; whnf)) rfl ?_
   refine AOps.nil ?_
   refine hK9 _ ?_
   clear hK9 K9
   refine AWp.block ?_
   refine AWp.loopH (KeepsT.cons (k := 0) (by conv => lhs; whnf) KeepsT.nil) (fun (z : Nat × Nat) => [(3, .a (.d (.int .i64 ((z.2 : Nat) : Int))))]) (fun z => H) (fun z => z.1) (fun z => r06_fieldsRight_l10 a0 z.1 z.2 = some r) ((a0.l.length + 1), 0) hE Weak.toA ?_
   rintro ⟨n10, s3_11⟩ hE K10 hK10
   try dsimp only at hE
   cases n10 with
   | zero => cases hE
   | succ n10 =>
     rw [r06_fieldsRight_l10] at hE
     refine AWp.seqK fun K12 hK12 => ?_
     refine AWp.seqK fun K13 hK13 => ?_
     refine AWp.region ?_
     refine AOps.s0 (Cert.move (by conv => lhs; whnf)) rfl ?_
     refine AOps.s0 (Cert.move (by conv => lhs; whnf)) rfl ?_
     refine AOps.sLen (f := TField.c) (s := a0) (Try.tab_ok _ _ rfl) rfl rfl rfl rfl fun hL14 => ?_
     refine AOps.s0 (Cert.binI rfl rfl rfl) rfl ?_
     refine AOps.nil ?_
     refine hK13 _ ?_
     clear hK13 K13
     refine AWp.cond rfl (fun hc15 => ?_) (fun hc15 => ?_)
     ·have hE := condT hc15 hE
      try dsimp only at hc15
      have hf15 := of_decide_eq_true hc15
      refine AWp.skip ?_
      refine hK12 _ ?_
      clear hK12 K12
      refine AWp.seqK fun K16 hK16 => ?_
      refine AWp.block ?_
      refine AWp.seqK fun K17 hK17 => ?_
      refine AWp.region ?_
      refine AOps.s0 (Cert.move (by conv => lhs; whnf)) rfl ?_
      refine AOps.s0 (Cert.move (by conv => lhs; whnf)) rfl ?_
      obtain ⟨x18, gx18, hE⟩ := bindO_some hE
      refine AOps.s0 (Cert.idxMn (f := TField.c) (n := s3_11) (Try.tab_ok _ _ rfl) rfl (Try.tab_ok _ _ rfl) rfl rfl rfl gx18) rfl ?_
      refine AOps.s0 (Cert.fieldV (Try.tab_ok _ _ rfl) rfl rfl (Try.tab_ok _ _ rfl) rfl rfl (by conv => lhs; whnf)) rfl ?_
      refine AOps.s0 (Cert.loadV (Try.tab_ok _ _ rfl) rfl rfl rfl) rfl ?_
      obtain ⟨x19, gx19, hE⟩ := bindO_some hE
      refine AOps.s0 (Cert.callP rfl rfl (fun H => r01_Name_walk gx19 H)) rfl ?_
      refine AOps.s0 (Cert.notB rfl) rfl ?_
      refine AOps.s0 (Cert.move (by conv => lhs; whnf)) rfl ?_
      refine AOps.gC rfl rfl (fun hC => Cert.move (by conv => lhs; whnf)) rfl ?_
      refine AOps.gC rfl rfl (fun hC => Cert.move (by conv => lhs; whnf)) rfl ?_
      obtain ⟨x20, gx20, hE⟩ := guardO_some hE
      refine AOps.gC rfl rfl (fun hC => Cert.ungd (k := 26) rfl (by first | exact hC | exact andL hC | exact andL (andL hC) | exact andL (andL (andL hC)) | exact andR hC | simp_all) (Cert.ungd (k := 27) rfl (by first | exact hC | exact andL hC | exact andL (andL hC) | exact andL (andL (andL hC)) | exact andR hC | simp_all) (Cert.idxMn (f := TField.c) (n := s3_11) (Try.tab_ok _ _ rfl) rfl (Try.tab_ok _ _ rfl) rfl rfl rfl (gx20 hC)))) rfl ?_
      refine AOps.gC rfl rfl (fun hC => Cert.ungd (k := 28) rfl (by first | exact hC | exact andL hC | exact andL (andL hC) | exact andL (andL (andL hC)) | exact andR hC | simp_all) (Cert.fieldV (Try.tab_ok _ _ rfl) rfl rfl (Try.tab_ok _ _ rfl) rfl rfl (by conv => lhs; whnf))) rfl ?_
      refine AOps.gC rfl rfl (fun hC => Cert.ungd (k := 29) rfl (by first | exact hC | exact andL hC | exact andL (andL hC) | exact andL (andL (andL hC)) | exact andR hC | simp_all) (Cert.loadV (Try.tab_ok _ _ rfl) rfl rfl rfl)) rfl ?_
      obtain ⟨x21, gx21, hE⟩ := guardO_some hE
      refine AOps.gC rfl rfl (fun hC => Cert.ungd (k := 30) rfl (by first | exact hC | exact andL hC | exact andL (andL hC) | exact andL (andL (andL hC)) | exact andR hC | simp_all) (Cert.callP rfl rfl (fun H => r06_inputsRight_walk (gx21 hC) H))) rfl ?_
      refine AOps.gC rfl rfl (fun hC => Cert.ungd (k := 31) rfl (by first | exact hC | exact andL hC | exact andL (andL hC) | exact andL (andL (andL hC)) | exact andR hC | simp_all) (Cert.notB rfl)) rfl ?_
      refine AOps.s0 (Cert.pickOr rfl rfl rfl (fun h => by first | exact h | exact notT h | exact andI hC h | exact andI hC (notT h) | simp_all)) rfl ?_
      refine AOps.s0 (Cert.move (by conv => lhs; whnf)) rfl ?_
      refine AOps.gC rfl rfl (fun hC => Cert.move (by conv => lhs; whnf)) rfl ?_
      refine AOps.gC rfl rfl (fun hC => Cert.move (by conv => lhs; whnf)) rfl ?_
      obtain ⟨x22, gx22, hE⟩ := guardO_some hE
      refine AOps.gC rfl rfl (fun hC => Cert.ungd (k := 35) rfl (by first | exact hC | exact andL hC | exact andL (andL hC) | exact andL (andL (andL hC)) | exact andR hC | simp_all) (Cert.ungd (k := 36) rfl (by first | exact hC | exact andL hC | exact andL (andL hC) | exact andL (andL (andL hC)) | exact andR hC | simp_all) (Cert.idxMn (f := TField.c) (n := s3_11) (Try.tab_ok _ _ rfl) rfl (Try.tab_ok _ _ rfl) rfl rfl rfl (gx22 hC)))) rfl ?_
      refine AOps.gC rfl rfl (fun hC => Cert.ungd (k := 37) rfl (by first | exact hC | exact andL hC | exact andL (andL hC) | exact andL (andL (andL hC)) | exact andR hC | simp_all) (Cert.fieldV (Try.tab_ok _ _ rfl) rfl rfl (Try.tab_ok _ _ rfl) rfl rfl (by conv => lhs; whnf))) rfl ?_
      refine AOps.gC rfl rfl (fun hC => Cert.ungd (k := 38) rfl (by first | exact hC | exact andL hC | exact andL (andL hC) | exact andL (andL (andL hC)) | exact andR hC | simp_all) (Cert.loadV (Try.tab_ok _ _ rfl) rfl rfl rfl)) rfl ?_
      obtain ⟨x23, gx23, hE⟩ := guardO_some hE
      refine AOps.gC rfl rfl (fun hC => Cert.ungd (k := 39) rfl (by first | exact hC | exact andL hC | exact andL (andL hC) | exact andL (andL (andL hC)) | exact andR hC | simp_all) (Cert.callP rfl rfl (fun H => r05_Right_walk (gx23 hC) H))) rfl ?_
      refine AOps.gC rfl rfl (fun hC => Cert.ungd (k := 40) rfl (by first | exact hC | exact andL hC | exact andL (andL hC) | exact andL (andL (andL hC)) | exact andR hC | simp_all) (Cert.notB rfl)) rfl ?_
      refine AOps.s0 (Cert.pickOr rfl rfl rfl (fun h => by first | exact h | exact notT h | exact andI hC h | exact andI hC (notT h) | simp_all)) rfl ?_
      refine AOps.s0 (Cert.move (by conv => lhs; whnf)) rfl ?_
      refine AOps.gC rfl rfl (fun hC => Cert.move (by conv => lhs; whnf)) rfl ?_
      refine AOps.gC rfl rfl (fun hC => Cert.move (by conv => lhs; whnf)) rfl ?_
      obtain ⟨x24, gx24, hE⟩ := guardO_some hE
      refine AOps.gC rfl rfl (fun hC => Cert.ungd (k := 44) rfl (by first | exact hC | exact andL hC | exact andL (andL hC) | exact andL (andL (andL hC)) | exact andR hC | simp_all) (Cert.ungd (k := 45) rfl (by first | exact hC | exact andL hC | exact andL (andL hC) | exact andL (andL (andL hC)) | exact andR hC | simp_all) (Cert.idxMn (f := TField.c) (n := s3_11) (Try.tab_ok _ _ rfl) rfl (Try.tab_ok _ _ rfl) rfl rfl rfl (gx24 hC)))) rfl ?_
      refine AOps.gC rfl rfl (fun hC => Cert.ungd (k := 46) rfl (by first | exact hC | exact andL hC | exact andL (andL hC) | exact andL (andL (andL hC)) | exact andR hC | simp_all) (Cert.fieldV (Try.tab_ok _ _ rfl) rfl rfl (Try.tab_ok _ _ rfl) rfl rfl (by conv => lhs; whnf))) rfl ?_
      refine AOps.gC rfl rfl (fun hC => Cert.ungd (k := 47) rfl (by first | exact hC | exact andL hC | exact andL (andL hC) | exact andL (andL (andL hC)) | exact andR hC | simp_all) (Cert.loadV (Try.tab_ok _ _ rfl) rfl rfl rfl)) rfl ?_
      obtain ⟨x25, gx25, hE⟩ := guardO_some hE
      refine AOps.gC rfl rfl (fun hC => Cert.ungd (k := 48) rfl (by first | exact hC | exact andL hC | exact andL (andL hC) | exact andL (andL (andL hC)) | exact andR hC | simp_all) (Cert.callP rfl rfl (fun H => r06_dirsRight_walk (gx25 hC) H))) rfl ?_
      refine AOps.gC rfl rfl (fun hC => Cert.ungd (k := 49) rfl (by first | exact hC | exact andL hC | exact andL (andL hC) | exact andL (andL (andL hC)) | exact andR hC | simp_all) (Cert.notB rfl)) rfl ?_
      refine AOps.s0 (Cert.pickOr rfl rfl rfl (fun h => by first | exact h | exact notT h | exact andI hC h | exact andI hC (notT h) | simp_all)) rfl ?_
      refine AOps.nil ?_
      refine hK17 _ ?_
      clear hK17 K17
      refine AWp.cond rfl (fun hc26 => ?_) (fun hc26 => ?_)
      ·have hE := condT hc26 hE
       try dsimp only at hc26
       refine AWp.seqK fun K27 hK27 => ?_
       refine AWp.region ?_
       refine AOps.s0 (Cert.assign (by conv => lhs; whnf)) rfl ?_
       refine AOps.nil ?_
       refine hK27 _ ?_
       clear hK27 K27
       refine AWp.ret ?_
       repeat (first | refine xBlock_ret ?_ | refine xThen_ret ?_)
       obtain rfl := Option.some.inj hE
       refine retQ.retF H rfl ⟨rfl, rfl⟩ ?_
       exact (fun _ _ h => h)
      ·have hE := condF hc26 hE
       try dsimp only at hc26
       refine AWp.skip ?_
       refine hK16 _ ?_
       clear hK16 K16
       refine AWp.region ?_
       refine AOps.s0 (Cert.move (by conv => lhs; whnf)) rfl ?_
       refine AOps.s0 (Cert.addI rfl rfl (by first | omega | (dsimp only; omega)) (by first | omega | (dsimp only; omega))) rfl ?_
       refine AOps.s0 (Cert.assign (by conv => lhs; whnf)) rfl ?_
       refine AOps.nil ?_
       exact hK10 _ (n10, (s3_11 + 1)) Weak.toA hE (Nat.lt_succ_self _)
     ·have hE := condF hc15 hE
      try dsimp only at hc15
      refine AWp.exit ?_
      exact hK7 _ () Weak.toA hE
  ·rintro _ hE
   try dsimp only at hE
   unfold r06_fieldsRight_j7 at hE
   refine AWp.seqK fun K8 hK8 => ?_
   refine AWp.region ?_
   refine AOps.s0 (Cert.assign (by conv => lhs; whnf)) rfl ?_
   refine AOps.nil ?_
   refine hK8 _ ?_
   clear hK8 K8
   refine AWp.ret ?_
   repeat (first | refine xBlock_ret ?_ | refine xThen_ret ?_)
   obtain rfl := Option.some.inj hE
   refine retQ.retF H rfl ⟨rfl, rfl⟩ ?_
   exact (fun _ _ h => h)
end Go.Proofs
