import Derived.Test.YtjghdpblmakljaaV2
set_option linter.unusedVariables false
set_option linter.unusedSimpArgs false
namespace Go.Proofs
open Go Go.Ab
def fields_checker_known_j9 (a0 : Fields_checker) (a1 : (Sl TInput)) (a2 : (Sl TArg)) (a3 : Bool) (a4 : Bs) (n3 : Nat) (s20_4 : Nat) (y5_c0 : Fields_checker) (k_next_3 : Nat → Fields_checker → Option Fields_checker) (y10_c0 : Fields_checker) : Option Fields_checker := k_next_3 (s20_4 + 1) y10_c0
def fields_checker_known_l3 (a0 : Fields_checker) (a1 : (Sl TInput)) (a2 : (Sl TArg)) (a3 : Bool) (a4 : Bs)  : Nat → Nat → Fields_checker → Option Fields_checker
 | 0, _, _ => none
 | n3 + 1, s20_4, y5_c0 => bif (decide (((s20_4 : Nat) : Int) < ((a2.l.length : Nat) : Int))) then ((a2.l[s20_4]?).bind fun x12 => (schema_InputOf a1 x12.FName).bind fun x14 => (partC a2 none (some ((s20_4 : Nat) : Int))).bind fun x16 => (fields_given x16 x12.FName).bind fun x17 => bif ((!x14.2) || x17.2) then ((fields_checker_add y5_c0 true (22 : Int) a4).bind fun x22 => fields_checker_known_j9 a0 a1 a2 a3 a4 n3 s20_4 y5_c0 ((fields_checker_known_l3 a0 a1 a2 a3 a4 n3)) x22) else ((fields_fits y5_c0.Fd x14.1.FType x12.FValue).bind fun x23 => (fields_checker_add y5_c0 ((!x23) || (a3 && (((decide (x12.FValue.FKind = (7 : Int))) || ((decide (x12.FValue.FKind = (3 : Int))) && ((x12.FValue.FText == ([] : Bs))))) || ((decide (x12.FValue.FKind = (2 : Int))) && (decide (x12.FValue.FInt < (0 : Int))))))) (23 : Int) a4).bind fun x24 => fields_checker_known_j9 a0 a1 a2 a3 a4 n3 s20_4 y5_c0 ((fields_checker_known_l3 a0 a1 a2 a3 a4 n3)) x24)) else (some y5_c0)
def fields_checker_known (a0 : Fields_checker) (a1 : (Sl TInput)) (a2 : (Sl TArg)) (a3 : Bool) (a4 : Bs) : Option Fields_checker := fields_checker_known_l3 a0 a1 a2 a3 a4 (a2.l.length + 1) 0 a0
set_option maxRecDepth 100000 in
set_option maxHeartbeats 2000000 in
theorem fields_checker_known_walk {a0 : Fields_checker} {a1 : (Sl TInput)} {a2 : (Sl TArg)} {a3 : Bool} {a4 : Bs} {w1 : Option Nat} {w2 : Option Nat} {c0 : Nat} {c0_2 : Nat} {r : Fields_checker} (hE : fields_checker_known a0 a1 a2 a3 a4 = some r) (H : Heap) (hc0 : H c0 = some (.cells (Fields_checker.cg (some c0_2) a0))) (ht0_2 : H c0_2 = some (.tok 2 a0.Fout.l.length)) : ACalls Try.prog 62 [.d (.ptr c0 0), .d (Sl.d 10 TInput.c w1 a1), .d (Sl.d 6 TArg.c w2 a2), .d (.bool a3), .d (.str a4)] H fun v h' => v = .tup [] ∧ h' = ((H.set c0_2 (some (.tok 2 r.Fout.l.length))).set c0 (some (.cells (Fields_checker.cg (some c0_2) r)))) := by
 unfold fields_checker_known at hE
 refine ACalls.of_wp (fn := Try.f62) (c := _) Try.tab_ok (fun _ _ => Try.call62 _ _) Try.func62 rfl (n := 94) rfl (rs := []) rfl rfl ?_
 have ne_c0_c0_2 : c0 ≠ c0_2 := fun e_ => by subst e_; simp_all
 refine AWp.heqA (h' := ((H.set c0_2 (some (.tok 2 a0.Fout.l.length))).set c0 (some (.cells (Fields_checker.cg (some c0_2) a0))))) (by funext n_; simp only [Heap.set]; (repeat' split) <;> simp_all) ?_
 refine AWp.seqK fun K1 hK1 => ?_
 refine AWp.region ?_
 refine AOps.s0 (Cert.move (by conv => lhs; whnf)) rfl ?_
 refine AOps.sLen (f := TArg.c) (s := a2) (Try.tab_ok _ _ rfl) rfl rfl rfl rfl fun hL2 => ?_
 refine AOps.s0 (Cert.move (by conv => lhs; whnf)) rfl ?_
 refine AOps.nil ?_
 refine hK1 _ ?_
 clear hK1 K1
 refine AWp.block ?_
 refine AWp.loopH (KeepsT.cons (k := 0) (by conv => lhs; whnf) (KeepsT.cons (k := 1) (by conv => lhs; whnf) (KeepsT.cons (k := 2) (by conv => lhs; whnf) (KeepsT.cons (k := 3) (by conv => lhs; whnf) (KeepsT.cons (k := 4) (by conv => lhs; whnf) (KeepsT.cons (k := 18) (by conv => lhs; whnf) (KeepsT.cons (k := 19) (by conv => lhs; whnf) KeepsT.nil))))))) (fun (z : Nat × Nat × Fields_checker) => [(20, .a (.d (.int .i64 ((z.2.1 : Nat) : Int))))]) (fun z => ((H.set c0_2 (some (.tok 2 z.2.2.Fout.l.length))).set c0 (some (.cells (Fields_checker.cg (some c0_2) z.2.2))))) (fun z => z.1) (fun z => fields_checker_known_l3 a0 a1 a2 a3 a4 z.1 z.2.1 z.2.2 = some r) ((a2.l.length + 1), 0, a0) hE Weak.toA ?_
 rintro ⟨n3, s20_4, y5_c0⟩ hE K3 hK3
 try dsimp only at hE
 cases n3 with
 | zero => cases hE
 | succ n3 =>
   rw [fields_checker_known_l3] at hE
   refine AWp.seqK fun K6 hK6 => ?_
   refine AWp.region ?_
   refine AOps.s0 (Cert.binI rfl rfl rfl) rfl ?_
   refine AOps.nil ?_
   refine hK6 _ ?_
   clear hK6 K6
   refine AWp.seqK fun K7 hK7 => ?_
   refine AWp.cond rfl (fun hc8 => ?_) (fun hc8 => ?_)
   ·have hE := condT hc8 hE
    try dsimp only at hc8
    have hf8 := of_decide_eq_true hc8
    refine AWp.skip ?_
    refine hK7 _ ?_
    clear hK7 K7
    refine AWp.seqJH (KeepsT.cons (k := 0) (by conv => lhs; whnf) (KeepsT.cons (k := 1) (by conv => lhs; whnf) (KeepsT.cons (k := 2) (by conv => lhs; whnf) (KeepsT.cons (k := 3) (by conv => lhs; whnf) (KeepsT.cons (k := 4) (by conv => lhs; whnf) (KeepsT.cons (k := 18) (by conv => lhs; whnf) (KeepsT.cons (k := 19) (by conv => lhs; whnf) (KeepsT.cons (k := 20) (by conv => lhs; whnf) KeepsT.nil)))))))) (fun (z : Fields_checker) => []) (fun z => ((H.set c0_2 (some (.tok 2 z.Fout.l.length))).set c0 (some (.cells (Fields_checker.cg (some c0_2) z))))) (fun z => fields_checker_known_j9 a0 a1 a2 a3 a4 n3 s20_4 y5_c0 ((fields_checker_known_l3 a0 a1 a2 a3 a4 n3)) z = some r) ?_ ?_
    ·intro K9 hK9
     refine AWp.block ?_
     refine AWp.seqK fun K11 hK11 => ?_
     refine AWp.region ?_
     refine AOps.s0 (Cert.move (by conv => lhs; whnf)) rfl ?_
     obtain ⟨x12, gx12, hE⟩ := bindO_some hE
     refine AOps.s0 (Cert.idxMn (f := TArg.c) (n := s20_4) (Try.tab_ok _ _ rfl) rfl (Try.tab_ok _ _ rfl) rfl rfl rfl gx12) rfl ?_
     refine AOps.s0 (Cert.loadV (Try.tab_ok _ _ rfl) rfl rfl rfl) rfl ?_
     refine AOps.sL (Cert.allocL (Try.tab_ok _ _ rfl) rfl (by repeat (first | exact Snoc.nil | apply Snoc.cons))) rfl ?_
     refine AOps.s0 (Cert.assign (by conv => lhs; whnf)) rfl ?_
     refine AOps.sLn (Cert.storeLF (Try.tab_ok _ _ rfl) rfl rfl rfl rfl rfl (by repeat (first | exact SetAt.zero | apply SetAt.succ))) ?_
     refine AOps.nil ?_
     refine hK11 _ ?_
     clear hK11 K11
     refine AWp.freeze 11 _ rfl (by repeat (first | exact Snoc.nil | apply Snoc.cons)) (Keeps.c (k := 0) (by conv => lhs; whnf) (by rfl) (Keeps.c (k := 1) (by conv => lhs; whnf) (by rfl) (Keeps.c (k := 2) (by conv => lhs; whnf) (by rfl) (Keeps.c (k := 3) (by conv => lhs; whnf) (by rfl) (Keeps.c (k := 4) (by conv => lhs; whnf) (by rfl) (Keeps.c (k := 10) (by conv => lhs; whnf) (by rfl) (Keeps.c (k := 18) (by conv => lhs; whnf) (by rfl) (Keeps.c (k := 19) (by conv => lhs; whnf) (by rfl) (Keeps.c (k := 20) (by conv => lhs; whnf) (by rfl) Keeps.nil))))))))) ?_
     refine AWp.seqK fun K13 hK13 => ?_
     refine AWp.region ?_
     refine AOps.s0 (Cert.move (by conv => lhs; whnf)) rfl ?_
     refine AOps.s0 (Cert.fieldV (Try.tab_ok _ _ rfl) rfl rfl (Try.tab_ok _ _ rfl) rfl rfl (by conv => lhs; whnf)) rfl ?_
     refine AOps.s0 (Cert.loadV (Try.tab_ok _ _ rfl) rfl rfl rfl) rfl ?_
     obtain ⟨x14, gx14, hE⟩ := bindO_some hE
     refine AOps.s0 (Cert.callP rfl rfl (fun H => schema_InputOf_walk gx14 H)) rfl ?_
     refine AOps.s0 (Cert.move (by conv => lhs; whnf)) rfl ?_
     refine AOps.s0 (Cert.extract rfl rfl) rfl ?_
     refine AOps.s0 (Cert.extract rfl rfl) rfl ?_
     refine AOps.sL (Cert.allocL (Try.tab_ok _ _ rfl) rfl (by repeat (first | exact Snoc.nil | apply Snoc.cons))) rfl ?_
     refine AOps.sLn (Cert.storeLF (Try.tab_ok _ _ rfl) rfl rfl rfl rfl rfl (by repeat (first | exact SetAt.zero | apply SetAt.succ))) ?_
     refine AOps.s0 (Cert.assign (by conv => lhs; whnf)) rfl ?_
     refine AOps.nil ?_
     refine hK13 _ ?_
     clear hK13 K13
     refine AWp.freeze 12 _ rfl (by repeat (first | exact Snoc.nil | apply Snoc.cons)) (Keeps.c (k := 0) (by conv => lhs; whnf) (by rfl) (Keeps.c (k := 1) (by conv => lhs; whnf) (by rfl) (Keeps.c (k := 2) (by conv => lhs; whnf) (by rfl) (Keeps.c (k := 3) (by conv => lhs; whnf) (by rfl) (Keeps.c (k := 4) (by conv => lhs; whnf) (by rfl) (Keeps.c (k := 10) (by conv => lhs; whnf) (by rfl) (Keeps.c (k := 11) (by conv => lhs; whnf) (by rfl) (Keeps.c (k := 13) (by conv => lhs; whnf) (by rfl) (Keeps.c (k := 18) (by conv => lhs; whnf) (by rfl) (Keeps.c (k := 19) (by conv => lhs; whnf) (by rfl) (Keeps.c (k := 20) (by conv => lhs; whnf) (by rfl) Keeps.nil))))))))))) ?_
     refine AWp.seqK fun K15 hK15 => ?_
     refine AWp.draw rfl ?_
     refine DOps.s0 (Cert.move (by conv => lhs; whnf)) rfl ?_
     refine DOps.s0 (Cert.move (by conv => lhs; whnf)) rfl ?_
     obtain ⟨x16, gx16, hE⟩ := bindO_some hE
     refine DOps.s0 (Cert.partM (f := TArg.c) (l := none) (r := (some ((s20_4 : Nat) : Int))) (Try.tab_ok _ _ rfl) rfl (Try.tab_ok _ _ rfl) rfl rfl trivial rfl gx16) rfl ?_
     refine DOps.s0 (Cert.fieldV (Try.tab_ok _ _ rfl) rfl rfl (Try.tab_ok _ _ rfl) rfl rfl (by conv => lhs; whnf)) rfl ?_
     refine DOps.s0 (Cert.loadV (Try.tab_ok _ _ rfl) rfl rfl rfl) rfl ?_
     obtain ⟨x17, gx17, hE⟩ := bindO_some hE
     refine DOps.s0 (Cert.callP rfl rfl (fun H => fields_given_walk gx17 H)) rfl ?_
     refine DOps.s0 (Cert.move (by conv => lhs; whnf)) rfl ?_
     refine DOps.s0 (Cert.extract rfl rfl) rfl ?_
     refine DOps.s0 (Cert.extract rfl rfl) rfl ?_
     refine DOps.sL (Cert.allocL (Try.tab_ok _ _ rfl) rfl (by repeat (first | exact Snoc.nil | apply Snoc.cons))) rfl ?_
     refine DOps.sLn (Cert.storeLF (Try.tab_ok _ _ rfl) rfl rfl rfl rfl rfl (by repeat (first | exact SetAt.zero | apply SetAt.succ))) ?_
     refine DOps.s0 (Cert.assign (by conv => lhs; whnf)) rfl ?_
     refine DOps.nil (by decide +kernel) ?_
     refine hK15 _ ?_
     clear hK15 K15
     refine AWp.freeze 14 _ rfl (by repeat (first | exact Snoc.nil | apply Snoc.cons)) (Keeps.c (k := 0) (by conv => lhs; whnf) (by rfl) (Keeps.c (k := 1) (by conv => lhs; whnf) (by rfl) (Keeps.c (k := 2) (by conv => lhs; whnf) (by rfl) (Keeps.c (k := 3) (by conv => lhs; whnf) (by rfl) (Keeps.c (k := 4) (by conv => lhs; whnf) (by rfl) (Keeps.c (k := 11) (by conv => lhs; whnf) (by rfl) (Keeps.c (k := 12) (by conv => lhs; whnf) (by rfl) (Keeps.c (k := 13) (by conv => lhs; whnf) (by rfl) (Keeps.c (k := 15) (by conv => lhs; whnf) (by rfl) (Keeps.c (k := 18) (by conv => lhs; whnf) (by rfl) (Keeps.c (k := 19) (by conv => lhs; whnf) (by rfl) (Keeps.c (k := 20) (by conv => lhs; whnf) (by rfl) Keeps.nil)))))))))))) ?_
     refine AWp.seqK fun K18 hK18 => ?_
     refine AWp.region ?_
     refine AOps.s0 (Cert.fieldV (Try.tab_ok _ _ rfl) rfl rfl (Try.tab_ok _ _ rfl) rfl rfl (by conv => lhs; whnf)) rfl ?_
     refine AOps.s0 (Cert.loadV (Try.tab_ok _ _ rfl) rfl rfl rfl) rfl ?_
     refine AOps.sL (Cert.allocL (Try.tab_ok _ _ rfl) rfl (by repeat (first | exact Snoc.nil | apply Snoc.cons))) rfl ?_
     refine AOps.sLn (Cert.storeLF (Try.tab_ok _ _ rfl) rfl rfl rfl rfl rfl (by repeat (first | exact SetAt.zero | apply SetAt.succ))) ?_
     refine AOps.nil ?_
     refine hK18 _ ?_
     clear hK18 K18
     refine AWp.freeze 16 _ rfl (by repeat (first | exact Snoc.nil | apply Snoc.cons)) (Keeps.c (k := 0) (by conv => lhs; whnf) (by rfl) (Keeps.c (k := 1) (by conv => lhs; whnf) (by rfl) (Keeps.c (k := 2) (by conv => lhs; whnf) (by rfl) (Keeps.c (k := 3) (by conv => lhs; whnf) (by rfl) (Keeps.c (k := 4) (by conv => lhs; whnf) (by rfl) (Keeps.c (k := 12) (by conv => lhs; whnf) (by rfl) (Keeps.c (k := 13) (by conv => lhs; whnf) (by rfl) (Keeps.c (k := 15) (by conv => lhs; whnf) (by rfl) (Keeps.c (k := 18) (by conv => lhs; whnf) (by rfl) (Keeps.c (k := 19) (by conv => lhs; whnf) (by rfl) (Keeps.c (k := 20) (by conv => lhs; whnf) (by rfl) Keeps.nil))))))))))) ?_
     refine AWp.seqK fun K19 hK19 => ?_
     refine AWp.region ?_
     refine AOps.s0 (Cert.fieldV (Try.tab_ok _ _ rfl) rfl rfl (Try.tab_ok _ _ rfl) rfl rfl (by conv => lhs; whnf)) rfl ?_
     refine AOps.s0 (Cert.loadV (Try.tab_ok _ _ rfl) rfl rfl rfl) rfl ?_
     refine AOps.s0 (Cert.binI rfl rfl rfl) rfl ?_
     refine AOps.s0 (Cert.move (by conv => lhs; whnf)) rfl ?_
     refine AOps.gC rfl rfl (fun hC => Cert.fieldV (Try.tab_ok _ _ rfl) rfl rfl (Try.tab_ok _ _ rfl) rfl rfl (by conv => lhs; whnf)) rfl ?_
     refine AOps.gC rfl rfl (fun hC => Cert.ungd (k := 47) rfl (by first | exact hC | exact andL hC | exact andL (andL hC) | exact andL (andL (andL hC)) | exact andR hC | simp_all) (Cert.loadV (Try.tab_ok _ _ rfl) rfl rfl rfl)) rfl ?_
     refine AOps.gC rfl rfl (fun hC => Cert.ungd (k := 48) rfl (by first | exact hC | exact andL hC | exact andL (andL hC) | exact andL (andL (andL hC)) | exact andR hC | simp_all) (Cert.binI rfl rfl rfl)) rfl ?_
     refine AOps.gC rfl rfl (fun hC => Cert.ungd (k := 49) rfl (by first | exact hC | exact andL hC | exact andL (andL hC) | exact andL (andL (andL hC)) | exact andR hC | simp_all) (Cert.move (by conv => lhs; whnf))) rfl ?_
     refine AOps.gC rfl rfl (fun hC => Cert.fieldV (Try.tab_ok _ _ rfl) rfl rfl (Try.tab_ok _ _ rfl) rfl rfl (by conv => lhs; whnf)) rfl ?_
     refine AOps.gC rfl rfl (fun hC => Cert.ungd (k := 51) rfl (by first | exact hC | exact andL hC | exact andL (andL hC) | exact andL (andL (andL hC)) | exact andR hC | simp_all) (Cert.loadV (Try.tab_ok _ _ rfl) rfl rfl rfl)) rfl ?_
     refine AOps.gC rfl rfl (fun hC => Cert.ungd (k := 52) rfl (by first | exact hC | exact andL hC | exact andL (andL hC) | exact andL (andL (andL hC)) | exact andR hC | simp_all) (Cert.binS rfl rfl rfl)) rfl ?_
     refine AOps.gC rfl rfl (fun hC => Cert.ungd (k := 50) rfl (by first | exact hC | exact andL hC | exact andL (andL hC) | exact andL (andL (andL hC)) | exact andR hC | simp_all) (Cert.pickAnd rfl rfl (fun h => by first | exact h | exact notT h | exact andI hC h | exact andI hC (notT h) | simp_all) rfl)) rfl ?_
     refine AOps.s0 (Cert.pickOr rfl rfl rfl (fun h => by first | exact h | exact notT h | exact andI hC h | exact andI hC (notT h) | simp_all)) rfl ?_
     refine AOps.s0 (Cert.move (by conv => lhs; whnf)) rfl ?_
     refine AOps.gC rfl rfl (fun hC => Cert.fieldV (Try.tab_ok _ _ rfl) rfl rfl (Try.tab_ok _ _ rfl) rfl rfl (by conv => lhs; whnf)) rfl ?_
     refine AOps.gC rfl rfl (fun hC => Cert.ungd (k := 57) rfl (by first | exact hC | exact andL hC | exact andL (andL hC) | exact andL (andL (andL hC)) | exact andR hC | simp_all) (Cert.loadV (Try.tab_ok _ _ rfl) rfl rfl rfl)) rfl ?_
     refine AOps.gC rfl rfl (fun hC => Cert.ungd (k := 58) rfl (by first | exact hC | exact andL hC | exact andL (andL hC) | exact andL (andL (andL hC)) | exact andR hC | simp_all) (Cert.binI rfl rfl rfl)) rfl ?_
     refine AOps.gC rfl rfl (fun hC => Cert.ungd (k := 59) rfl (by first | exact hC | exact andL hC | exact andL (andL hC) | exact andL (andL (andL hC)) | exact andR hC | simp_all) (Cert.move (by conv => lhs; whnf))) rfl ?_
     refine AOps.gC rfl rfl (fun hC => Cert.fieldV (Try.tab_ok _ _ rfl) rfl rfl (Try.tab_ok _ _ rfl) rfl rfl (by conv => lhs; whnf)) rfl ?_
     refine AOps.gC rfl rfl (fun hC => Cert.ungd (k := 61) rfl (by first | exact hC | exact andL hC | exact andL (andL hC) | exact andL (andL (andL hC)) | exact andR hC | simp_all) (Cert.loadV (Try.tab_ok _ _ rfl) rfl rfl rfl)) rfl ?_
     refine AOps.gC rfl rfl (fun hC => Cert.ungd (k := 62) rfl (by first | exact hC | exact andL hC | exact andL (andL hC) | exact andL (andL (andL hC)) | exact andR hC | simp_all) (Cert.binI rfl rfl rfl)) rfl ?_
     refine AOps.gC rfl rfl (fun hC => Cert.ungd (k := 60) rfl (by first | exact hC | exact andL hC | exact andL (andL hC) | exact andL (andL (andL hC)) | exact andR hC | simp_all) (Cert.pickAnd rfl rfl (fun h => by first | exact h | exact notT h | exact andI hC h | exact andI hC (notT h) | simp_all) rfl)) rfl ?_
     refine AOps.s0 (Cert.pickOr rfl rfl rfl (fun h => by first | exact h | exact notT h | exact andI hC h | exact andI hC (notT h) | simp_all)) rfl ?_
     refine AOps.s0 (Cert.assign (by conv => lhs; whnf)) rfl ?_
     refine AOps.nil ?_
     refine hK19 _ ?_
     clear hK19 K19
     refine AWp.block ?_
     refine AWp.seqK fun K20 hK20 => ?_
     refine AWp.region ?_
     refine AOps.s0 (Cert.move (by conv => lhs; whnf)) rfl ?_
     refine AOps.s0 (Cert.notB rfl) rfl ?_
     refine AOps.s0 (Cert.move (by conv => lhs; whnf)) rfl ?_
     refine AOps.gC rfl rfl (fun hC => Cert.move (by conv => lhs; whnf)) rfl ?_
     refine AOps.s0 (Cert.pickOr rfl rfl rfl (fun h => by first | exact h | exact notT h | exact andI hC h | exact andI hC (notT h) | simp_all)) rfl ?_
     refine AOps.s0 (Cert.assign (by conv => lhs; whnf)) rfl ?_
     refine AOps.nil ?_
     refine hK20 _ ?_
     clear hK20 K20
     refine AWp.cond rfl (fun hc21 => ?_) (fun hc21 => ?_)
     ·have hE := condT hc21 hE
      try dsimp only at hc21
      refine AWp.region ?_
      refine AOps.s0 (Cert.move (by conv => lhs; whnf)) rfl ?_
      refine AOps.s0 (Cert.move (by conv => lhs; whnf)) rfl ?_
      obtain ⟨x22, gx22, hE⟩ := bindO_some hE
      refine AOps.sH (Cert.callH rfl rfl (fields_checker_add_walk gx22 _ hpG hpG)) rfl ?_
      refine AOps.heq (h' := ((H.set c0_2 (some (.tok 2 x22.Fout.l.length))).set c0 (some (.cells (Fields_checker.cg (some c0_2) x22))))) (by first | rfl | (rw [Heap.set_set]; rfl) | (funext n_; simp only [Heap.set]; (repeat' split) <;> first | rfl | (exfalso; simp_all; done) | (simp_all; done))) ?_
      refine AOps.nil ?_
      exact hK9 _ x22 Weak.toA hE
     ·have hE := condF hc21 hE
      try dsimp only at hc21
      refine AWp.draw rfl ?_
      refine DOps.s0 (Cert.move (by conv => lhs; whnf)) rfl ?_
      refine DOps.s0 (Cert.move (by conv => lhs; whnf)) rfl ?_
      refine DOps.s0 (Cert.nilP rfl) rfl ?_
      refine DOps.s0 (Cert.fieldP (Try.tab_ok _ _ rfl) rfl rfl (Try.tab_ok _ _ rfl) rfl rfl) rfl ?_
      refine DOps.s0 (Cert.loadP (Try.tab_ok _ _ rfl) rfl rfl hpG rfl) rfl ?_
      refine DOps.s0 (Cert.fieldV (Try.tab_ok _ _ rfl) rfl rfl (Try.tab_ok _ _ rfl) rfl rfl (by conv => lhs; whnf)) rfl ?_
      refine DOps.s0 (Cert.loadV (Try.tab_ok _ _ rfl) rfl rfl rfl) rfl ?_
      refine DOps.s0 (Cert.loadV (Try.tab_ok _ _ rfl) rfl rfl rfl) rfl ?_
      obtain ⟨x23, gx23, hE⟩ := bindO_some hE
      refine DOps.s0 (Cert.callP rfl rfl (fun H => fields_fits_walk gx23 H)) rfl ?_
      refine DOps.s0 (Cert.notB rfl) rfl ?_
      refine DOps.s0 (Cert.move (by conv => lhs; whnf)) rfl ?_
      refine DOps.gC rfl rfl (fun hC => Cert.move (by conv => lhs; whnf)) rfl ?_
      refine DOps.gC rfl rfl (fun hC => Cert.ungd (k := 77) rfl (by first | exact hC | exact andL hC | exact andL (andL hC) | exact andL (andL (andL hC)) | exact andR hC | simp_all) (Cert.move (by conv => lhs; whnf))) rfl ?_
      refine DOps.gC rfl rfl (fun hC => Cert.move (by conv => lhs; whnf)) rfl ?_
      refine DOps.gC rfl rfl (fun hC => Cert.ungd (k := 78) rfl (by first | exact hC | exact andL hC | exact andL (andL hC) | exact andL (andL (andL hC)) | exact andR hC | simp_all) (Cert.pickAnd rfl rfl (fun h => by first | exact h | exact notT h | exact andI hC h | exact andI hC (notT h) | simp_all) rfl)) rfl ?_
      refine DOps.s0 (Cert.pickOr rfl rfl rfl (fun h => by first | exact h | exact notT h | exact andI hC h | exact andI hC (notT h) | simp_all)) rfl ?_
      refine DOps.s0 (Cert.move (by conv => lhs; whnf)) rfl ?_
      obtain ⟨x24, gx24, hE⟩ := bindO_some hE
      refine DOps.sH (Cert.callH rfl rfl (fields_checker_add_walk gx24 _ hpG hpG)) rfl ?_
      refine DOps.heq (h' := ((H.set c0_2 (some (.tok 2 x24.Fout.l.length))).set c0 (some (.cells (Fields_checker.cg (some c0_2) x24))))) (by first | rfl | (rw [Heap.set_set]; rfl) | (funext n_; simp only [Heap.set]; (repeat' split) <;> first | rfl | (exfalso; simp_all; done) | (simp_all; done))) ?_
      refine DOps.nil (by decide +kernel) ?_
      exact hK9 _ x24 Weak.toA hE
    ·rintro y10_c0 hE
     try dsimp only at hE
     unfold fields_checker_known_j9 at hE
     refine AWp.region ?_
     refine AOps.s0 (Cert.addI rfl rfl (by first | omega | (dsimp only; omega)) (by first | omega | (dsimp only; omega))) rfl ?_
     refine AOps.s0 (Cert.move (by conv => lhs; whnf)) rfl ?_
     refine AOps.nil ?_
     exact hK3 _ (n3, (s20_4 + 1), y10_c0) Weak.toA hE (Nat.lt_succ_self _)
   ·have hE := condF hc8 hE
    try dsimp only at hc8
    refine AWp.exit ?_
    repeat (first | refine xBlock_normal ?_ | refine xThen_exit ?_ | refine xBlock_exit ?_)
    obtain rfl := Option.some.inj hE
    refine retQ.normalF ((H.set c0_2 (some (.tok 2 y5_c0.Fout.l.length))).set c0 (some (.cells (Fields_checker.cg (some c0_2) y5_c0)))) (xs := []) rfl ⟨rfl, rfl⟩ ?_
    exact (fun _ _ h => h)
def fields_checker_dirs_j10 (a0 : Fields_checker) (a1 : TSel) (a2 : TRef) (a3 : Bool) (a4 : Bs) (n4 : Nat) (s21_5 : Nat) (y6_c0 : Fields_checker) (k_next_4 : Nat → Fields_checker → Option Fields_checker) (y11_c0 : Fields_checker) : Option Fields_checker := k_next_4 (s21_5 + 1) y11_c0
def fields_checker_dirs_l30 (a0 : Fields_checker) (a1 : TSel) (a2 : TRef) (a3 : Bool) (a4 : Bs) (n4 : Nat) (s21_5 : Nat) (y6_c0 : Fields_checker) (x13 : TDir) (x16 : (Sl TInput)) (s13_18 : (Sl TInput)) (x21 : (Sl TDir)) (x22 : Bool) (x27 : Fields_checker) (k_next_4 : Nat → Fields_checker → Option Fields_checker) : Nat → Nat → Fields_checker → Option Fields_checker
 | 0, _, _ => none
 | n30 + 1, s78_31, y32_c0 => bif (decide (((s78_31 : Nat) : Int) < ((s13_18.l.length : Nat) : Int))) then ((s13_18.l[s78_31]?).bind fun x38 => (fields_given x13.FArgs x38.FName).bind fun x40 => (fields_checker_add y32_c0 (!x40.2) (22 : Int) a4).bind fun x41 => (fields_checker_dirs_l30 a0 a1 a2 a3 a4 n4 s21_5 y6_c0 x13 x16 s13_18 x21 x22 x27 k_next_4 n30) (s78_31 + 1) x41) else (fields_checker_dirs_j10 a0 a1 a2 a3 a4 n4 s21_5 y6_c0 k_next_4 y32_c0)
def fields_checker_dirs_j17 (a0 : Fields_checker) (a1 : TSel) (a2 : TRef) (a3 : Bool) (a4 : Bs) (n4 : Nat) (s21_5 : Nat) (y6_c0 : Fields_checker) (x13 : TDir) (x16 : (Sl TInput)) (k_next_4 : Nat → Fields_checker → Option Fields_checker) (s13_18 : (Sl TInput)) : Option Fields_checker := guardO (!s13_18.nl) (partC a1.FDirs none (some ((s21_5 : Nat) : Int))) (Sl.nil : Sl TDir) fun x21 => guardO (!s13_18.nl) (slices_ContainsFunc_apiDirapiDir x21 (fun y0 => fields_checker_dirs_1 y0 x13)) false fun x22 => bif (s13_18.nl || x22) then ((fields_checker_add y6_c0 true (29 : Int) a4).bind fun x25 => fields_checker_dirs_j10 a0 a1 a2 a3 a4 n4 s21_5 y6_c0 k_next_4 x25) else ((fields_checker_known y6_c0 s13_18 x13.FArgs (((x13.FName == ([100, 101, 102, 101, 114] : Bs))) || ((x13.FName == ([115, 116, 114, 101, 97, 109] : Bs)))) a4).bind fun x27 => fields_checker_dirs_l30 a0 a1 a2 a3 a4 n4 s21_5 y6_c0 x13 x16 s13_18 x21 x22 x27 k_next_4 (s13_18.l.length + 1) 0 x27)
def fields_checker_dirs_l4 (a0 : Fields_checker) (a1 : TSel) (a2 : TRef) (a3 : Bool) (a4 : Bs)  : Nat → Nat → Fields_checker → Option Fields_checker
 | 0, _, _ => none
 | n4 + 1, s21_5, y6_c0 => bif (decide (((s21_5 : Nat) : Int) < ((a1.FDirs.l.length : Nat) : Int))) then ((a1.FDirs.l[s21_5]?).bind fun x13 => (fields_argsOf x13.FName ((!decide (a1.FKind = (2 : Int))) && (!decide (a1.FKind = (3 : Int))))).bind fun x16 => guardO ((((x13.FName == ([115, 116, 114, 101, 97, 109] : Bs))) && a3)) (typeref_IsList a2) false fun x43 => bif ((((x13.FName == ([115, 116, 114, 101, 97, 109] : Bs))) && a3) && (!x43)) then (fields_checker_dirs_j17 a0 a1 a2 a3 a4 n4 s21_5 y6_c0 x13 x16 ((fields_checker_dirs_l4 a0 a1 a2 a3 a4 n4)) (Sl.nil : Sl TInput)) else (fields_checker_dirs_j17 a0 a1 a2 a3 a4 n4 s21_5 y6_c0 x13 x16 ((fields_checker_dirs_l4 a0 a1 a2 a3 a4 n4)) x16)) else (some y6_c0)
def fields_checker_dirs (a0 : Fields_checker) (a1 : TSel) (a2 : TRef) (a3 : Bool) (a4 : Bs) : Option Fields_checker := fields_checker_dirs_l4 a0 a1 a2 a3 a4 (a1.FDirs.l.length + 1) 0 a0
set_option maxRecDepth 100000 in
set_option maxHeartbeats 2000000 in
theorem fields_checker_dirs_walk {a0 : Fields_checker} {a1 : TSel} {a2 : TRef} {a3 : Bool} {a4 : Bs}  {c0 : Nat} {c0_2 : Nat} {r : Fields_checker} (hE : fields_checker_dirs a0 a1 a2 a3 a4 = some r) (H : Heap) (hc0 : H c0 = some (.cells (Fields_checker.cg (some c0_2) a0))) (ht0_2 : H c0_2 = some (.tok 2 a0.Fout.l.length)) : ACalls Try.prog 45 [.d (.ptr c0 0), .agg (TSel.c a1), .agg (TRef.c a2), .d (.bool a3), .d (.str a4)] H fun v h' => v = .tup [] ∧ h' = ((H.set c0_2 (some (.tok 2 r.Fout.l.length))).set c0 (some (.cells (Fields_checker.cg (some c0_2) r)))) := by
 unfold fields_checker_dirs at hE
 refine ACalls.of_wp (fn := Try.f45) (c := _) Try.tab_ok (fun _ _ => Try.call45 _ _) Try.func45 rfl (n := 97) rfl (rs := []) rfl rfl ?_
 have ne_c0_c0_2 : c0 ≠ c0_2 := fun e_ => by subst e_; simp_all
 refine AWp.heqA (h' := ((H.set c0_2 (some (.tok 2 a0.Fout.l.length))).set c0 (some (.cells (Fields_checker.cg (some c0_2) a0))))) (by funext n_; simp only [Heap.set]; (repeat' split) <;> simp_all) ?_
 refine AWp.seqK fun K1 hK1 => ?_
 refine AWp.region ?_
 refine AOps.s0 (Cert.boxV rfl) rfl ?_
 refine AOps.s0 (Cert.boxV rfl) rfl ?_
 refine AOps.nil ?_
 refine hK1 _ ?_
 clear hK1 K1
 refine AWp.seqK fun K2 hK2 => ?_
 refine AWp.region ?_
 refine AOps.s0 (Cert.fieldV (Try.tab_ok _ _ rfl) rfl rfl (Try.tab_ok _ _ rfl) rfl rfl (by conv => lhs; whnf)) rfl ?_
 refine AOps.s0 (Cert.loadV (Try.tab_ok _ _ rfl) rfl rfl rfl) rfl ?_
 refine AOps.sLen (f := TDir.c) (s := a1.FDirs) (Try.tab_ok _ _ rfl) rfl rfl rfl rfl fun hL3 => ?_
 refine AOps.s0 (Cert.move (by conv => lhs; whnf)) rfl ?_
 refine AOps.nil ?_
 refine hK2 _ ?_
 clear hK2 K2
 refine AWp.block ?_
 refine AWp.loopH (KeepsT.cons (k := 0) (by conv => lhs; whnf) (KeepsT.cons (k := 3) (by conv => lhs; whnf) (KeepsT.cons (k := 4) (by conv => lhs; whnf) (KeepsT.cons (k := 6) (by conv => lhs; whnf) (KeepsT.cons (k := 7) (by conv => lhs; whnf) (KeepsT.cons (k := 19) (by conv => lhs; whnf) (KeepsT.cons (k := 20) (by conv => lhs; whnf) KeepsT.nil))))))) (fun (z : Nat × Nat × Fields_checker) => [(21, .a (.d (.int .i64 ((z.2.1 : Nat) : Int))))]) (fun z => ((H.set c0_2 (some (.tok 2 z.2.2.Fout.l.length))).set c0 (some (.cells (Fields_checker.cg (some c0_2) z.2.2))))) (fun z => z.1) (fun z => fields_checker_dirs_l4 a0 a1 a2 a3 a4 z.1 z.2.1 z.2.2 = some r) ((a1.FDirs.l.length + 1), 0, a0) hE Weak.toA ?_
 rintro ⟨n4, s21_5, y6_c0⟩ hE K4 hK4
 try dsimp only at hE
 cases n4 with
 | zero => cases hE
 | succ n4 =>
   rw [fields_checker_dirs_l4] at hE
   refine AWp.seqK fun K7 hK7 => ?_
   refine AWp.region ?_
   refine AOps.s0 (Cert.binI rfl rfl rfl) rfl ?_
   refine AOps.nil ?_
   refine hK7 _ ?_
   clear hK7 K7
   refine AWp.seqK fun K8 hK8 => ?_
   refine AWp.cond rfl (fun hc9 => ?_) (fun hc9 => ?_)
   ·have hE := condT hc9 hE
    try dsimp only at hc9
    have hf9 := of_decide_eq_true hc9
    refine AWp.skip ?_
    refine hK8 _ ?_
    clear hK8 K8
    refine AWp.seqJH (KeepsT.cons (k := 0) (by conv => lhs; whnf) (KeepsT.cons (k := 3) (by conv => lhs; whnf) (KeepsT.cons (k := 4) (by conv => lhs; whnf) (KeepsT.cons (k := 6) (by conv => lhs; whnf) (KeepsT.cons (k := 7) (by conv => lhs; whnf) (KeepsT.cons (k := 19) (by conv => lhs; whnf) (KeepsT.cons (k := 20) (by conv => lhs; whnf) (KeepsT.cons (k := 21) (by conv => lhs; whnf) KeepsT.nil)))))))) (fun (z : Fields_checker) => []) (fun z => ((H.set c0_2 (some (.tok 2 z.Fout.l.length))).set c0 (some (.cells (Fields_checker.cg (some c0_2) z))))) (fun z => fields_checker_dirs_j10 a0 a1 a2 a3 a4 n4 s21_5 y6_c0 ((fields_checker_dirs_l4 a0 a1 a2 a3 a4 n4)) z = some r) ?_ ?_
    ·intro K10 hK10
     refine AWp.block ?_
     refine AWp.seqK fun K12 hK12 => ?_
     refine AWp.region ?_
     refine AOps.s0 (Cert.move (by conv => lhs; whnf)) rfl ?_
     obtain ⟨x13, gx13, hE⟩ := bindO_some hE
     refine AOps.s0 (Cert.idxMn (f := TDir.c) (n := s21_5) (Try.tab_ok _ _ rfl) rfl (Try.tab_ok _ _ rfl) rfl rfl rfl gx13) rfl ?_
     refine AOps.s0 (Cert.loadV (Try.tab_ok _ _ rfl) rfl rfl rfl) rfl ?_
     refine AOps.sL (Cert.allocL (Try.tab_ok _ _ rfl) rfl (by repeat (first | exact Snoc.nil | apply Snoc.cons))) rfl ?_
     refine AOps.s0 (Cert.assign (by conv => lhs; whnf)) rfl ?_
     refine AOps.sLn (Cert.storeLF (Try.tab_ok _ _ rfl) rfl rfl rfl rfl rfl (by repeat (first | exact SetAt.zero | apply SetAt.succ))) ?_
     refine AOps.nil ?_
     refine hK12 _ ?_
     clear hK12 K12
     refine AWp.freeze 11 _ rfl (by repeat (first | exact Snoc.nil | apply Snoc.cons)) (Keeps.c (k := 0) (by conv => lhs; whnf) (by rfl) (Keeps.c (k := 3) (by conv => lhs; whnf) (by rfl) (Keeps.c (k := 4) (by conv => lhs; whnf) (by rfl) (Keeps.c (k := 6) (by conv => lhs; whnf) (by rfl) (Keeps.c (k := 7) (by conv => lhs; whnf) (by rfl) (Keeps.c (k := 10) (by conv => lhs; whnf) (by rfl) (Keeps.c (k := 19) (by conv => lhs; whnf) (by rfl) (Keeps.c (k := 20) (by conv => lhs; whnf) (by rfl) (Keeps.c (k := 21) (by conv => lhs; whnf) (by rfl) Keeps.nil))))))))) ?_
     refine AWp.seqK fun K14 hK14 => ?_
     refine AWp.region ?_
     refine AOps.s0 (Cert.fieldV (Try.tab_ok _ _ rfl) rfl rfl (Try.tab_ok _ _ rfl) rfl rfl (by conv => lhs; whnf)) rfl ?_
     refine AOps.s0 (Cert.loadV (Try.tab_ok _ _ rfl) rfl rfl rfl) rfl ?_
     refine AOps.s0 (Cert.binI rfl rfl rfl) rfl ?_
     refine AOps.s0 (Cert.move (by conv => lhs; whnf)) rfl ?_
     refine AOps.gC rfl rfl (fun hC => Cert.fieldV (Try.tab_ok _ _ rfl) rfl rfl (Try.tab_ok _ _ rfl) rfl rfl (by conv => lhs; whnf)) rfl ?_
     refine AOps.gC rfl rfl (fun hC => Cert.ungd (k := 30) rfl (by first | exact hC | exact andL hC | exact andL (andL hC) | exact andL (andL (andL hC)) | exact andR hC | simp_all) (Cert.loadV (Try.tab_ok _ _ rfl) rfl rfl rfl)) rfl ?_
     refine AOps.gC rfl rfl (fun hC => Cert.ungd (k := 31) rfl (by first | exact hC | exact andL hC | exact andL (andL hC) | exact andL (andL (andL hC)) | exact andR hC | simp_all) (Cert.binI rfl rfl rfl)) rfl ?_
     refine AOps.s0 (Cert.pickAnd rfl rfl (fun h => by first | exact h | exact notT h | exact andI hC h | exact andI hC (notT h) | simp_all) rfl) rfl ?_
     refine AOps.s0 (Cert.assign (by conv => lhs; whnf)) rfl ?_
     refine AOps.nil ?_
     refine hK14 _ ?_
     clear hK14 K14
     refine AWp.seqK fun K15 hK15 => ?_
     refine AWp.region ?_
     refine AOps.s0 (Cert.fieldV (Try.tab_ok _ _ rfl) rfl rfl (Try.tab_ok _ _ rfl) rfl rfl (by conv => lhs; whnf)) rfl ?_
     refine AOps.s0 (Cert.loadV (Try.tab_ok _ _ rfl) rfl rfl rfl) rfl ?_
     refine AOps.s0 (Cert.move (by conv => lhs; whnf)) rfl ?_
     obtain ⟨x16, gx16, hE⟩ := bindO_some hE
     refine AOps.s0 (Cert.callP rfl rfl (fun H => fields_argsOf_walk gx16 H)) rfl ?_
     refine AOps.s0 (Cert.assign (by conv => lhs; whnf)) rfl ?_
     refine AOps.nil ?_
     refine hK15 _ ?_
     clear hK15 K15
     refine AWp.seqJH (KeepsT.cons (k := 0) (by conv => lhs; whnf) (KeepsT.cons (k := 3) (by conv => lhs; whnf) (KeepsT.cons (k := 4) (by conv => lhs; whnf) (KeepsT.cons (k := 6) (by conv => lhs; whnf) (KeepsT.cons (k := 7) (by conv => lhs; whnf) (KeepsT.cons (k := 10) (by conv => lhs; whnf) (KeepsT.cons (k := 11) (by conv => lhs; whnf) (KeepsT.cons (k := 19) (by conv => lhs; whnf) (KeepsT.cons (k := 20) (by conv => lhs; whnf) (KeepsT.cons (k := 21) (by conv => lhs; whnf) KeepsT.nil)))))))))) (fun (z : (Sl TInput)) => [(13, .a (.d (Sl.d 10 TInput.c none z)))]) (fun z => ((H.set c0_2 (some (.tok 2 y6_c0.Fout.l.length))).set c0 (some (.cells (Fields_checker.cg (some c0_2) y6_c0))))) (fun z => fields_checker_dirs_j17 a0 a1 a2 a3 a4 n4 s21_5 y6_c0 x13 x16 ((fields_checker_dirs_l4 a0 a1 a2 a3 a4 n4)) z = some r) ?_ ?_
     ·intro K17 hK17
      refine AWp.seqK fun K42 hK42 => ?_
      refine AWp.region ?_
      refine AOps.s0 (Cert.fieldV (Try.tab_ok _ _ rfl) rfl rfl (Try.tab_ok _ _ rfl) rfl rfl (by conv => lhs; whnf)) rfl ?_
      refine AOps.s0 (Cert.loadV (Try.tab_ok _ _ rfl) rfl rfl rfl) rfl ?_
      refine AOps.s0 (Cert.binS rfl rfl rfl) rfl ?_
      refine AOps.s0 (Cert.move (by conv => lhs; whnf)) rfl ?_
      refine AOps.gC rfl rfl (fun hC => Cert.move (by conv => lhs; whnf)) rfl ?_
      refine AOps.s0 (Cert.pickAnd rfl rfl (fun h => by first | exact h | exact notT h | exact andI hC h | exact andI hC (notT h) | simp_all) rfl) rfl ?_
      refine AOps.s0 (Cert.move (by conv => lhs; whnf)) rfl ?_
      refine AOps.gC rfl rfl (fun hC => Cert.loadV (Try.tab_ok _ _ rfl) rfl rfl rfl) rfl ?_
      obtain ⟨x43, gx43, hE⟩ := guardO_some hE
      refine AOps.gC rfl rfl (fun hC => Cert.ungd (k := 45) rfl (by first | exact hC | exact andL hC | exact andL (andL hC) | exact andL (andL (andL hC)) | exact andR hC | simp_all) (Cert.callP rfl rfl (fun H => typeref_IsList_walk (gx43 hC) H))) rfl ?_
      refine AOps.gC rfl rfl (fun hC => Cert.ungd (k := 46) rfl (by first | exact hC | exact andL hC | exact andL (andL hC) | exact andL (andL (andL hC)) | exact andR hC | simp_all) (Cert.notB rfl)) rfl ?_
      refine AOps.s0 (Cert.pickAnd rfl rfl (fun h => by first | exact h | exact notT h | exact andI hC h | exact andI hC (notT h) | simp_all) rfl) rfl ?_
      refine AOps.nil ?_
      refine hK42 _ ?_
      clear hK42 K42
      refine AWp.cond rfl (fun hc44 => ?_) (fun hc44 => ?_)
      ·have hE := condT hc44 hE
       try dsimp only at hc44
       refine AWp.region ?_
       refine AOps.s0 (Cert.assignNil (k' := 10) rfl) rfl ?_
       refine AOps.nil ?_
       exact hK17 _ (Sl.nil : Sl TInput) Weak.toA hE
      ·have hE := condF hc44 hE
       try dsimp only at hc44
       refine AWp.skip ?_
       exact hK17 _ x16 Weak.toA hE
     ·rintro s13_18 hE
      try dsimp only at hE
      unfold fields_checker_dirs_j17 at hE
      refine AWp.seqK fun K19 hK19 => ?_
      refine AWp.seqK fun K20 hK20 => ?_
      refine AWp.region ?_
      refine AOps.s0 (Cert.move (by conv => lhs; whnf)) rfl ?_
      refine AOps.s0 (Cert.eqNil (Try.tab_ok _ _ rfl) rfl rfl) rfl ?_
      refine AOps.s0 (Cert.move (by conv => lhs; whnf)) rfl ?_
      refine AOps.gC rfl rfl (fun hC => Cert.fieldV (Try.tab_ok _ _ rfl) rfl rfl (Try.tab_ok _ _ rfl) rfl rfl (by conv => lhs; whnf)) rfl ?_
      refine AOps.gC rfl rfl (fun hC => Cert.ungd (k := 52) rfl (by first | exact hC | exact andL hC | exact andL (andL hC) | exact andL (andL (andL hC)) | exact andR hC | simp_all) (Cert.loadV (Try.tab_ok _ _ rfl) rfl rfl rfl)) rfl ?_
      refine AOps.gC rfl rfl (fun hC => Cert.move (by conv => lhs; whnf)) rfl ?_
      obtain ⟨x21, gx21, hE⟩ := guardO_some hE
      refine AOps.gC rfl rfl (fun hC => Cert.ungd (k := 53) rfl (by first | exact hC | exact andL hC | exact andL (andL hC) | exact andL (andL (andL hC)) | exact andR hC | simp_all) (Cert.ungd (k := 54) rfl (by first | exact hC | exact andL hC | exact andL (andL hC) | exact andL (andL (andL hC)) | exact andR hC | simp_all) (Cert.partM (f := TDir.c) (l := none) (r := (some ((s21_5 : Nat) : Int))) (Try.tab_ok _ _ rfl) rfl (Try.tab_ok _ _ rfl) rfl rfl trivial rfl (gx21 hC)))) rfl ?_
      refine AOps.gC rfl rfl (fun hC => Cert.makeFunc rfl) rfl ?_
      obtain ⟨x22, gx22, hE⟩ := guardO_some hE
      refine AOps.gC rfl rfl (fun hC => Cert.ungd (k := 55) rfl (by first | exact hC | exact andL hC | exact andL (andL hC) | exact andL (andL (andL hC)) | exact andR hC | simp_all) (Cert.ungd (k := 56) rfl (by first | exact hC | exact andL hC | exact andL (andL hC) | exact andL (andL (andL hC)) | exact andR hC | simp_all) (Cert.callP rfl rfl (fun H => slices_ContainsFunc_apiDirapiDir_walk (gx22 hC) H (fun _ _ hx => fields_checker_dirs_1_walk hx))))) rfl ?_
      refine AOps.s0 (Cert.pickOr rfl rfl rfl (fun h => by first | exact h | exact notT h | exact andI hC h | exact andI hC (notT h) | simp_all)) rfl ?_
      refine AOps.nil ?_
      refine hK20 _ ?_
      clear hK20 K20
      refine AWp.cond rfl (fun hc23 => ?_) (fun hc23 => ?_)
      ·have hE := condT hc23 hE
       try dsimp only at hc23
       refine AWp.seqK fun K24 hK24 => ?_
       refine AWp.region ?_
       refine AOps.s0 (Cert.move (by conv => lhs; whnf)) rfl ?_
       refine AOps.s0 (Cert.move (by conv => lhs; whnf)) rfl ?_
       obtain ⟨x25, gx25, hE⟩ := bindO_some hE
       refine AOps.sH (Cert.callH rfl rfl (fields_checker_add_walk gx25 _ hpG hpG)) rfl ?_
       refine AOps.heq (h' := ((H.set c0_2 (some (.tok 2 x25.Fout.l.length))).set c0 (some (.cells (Fields_checker.cg (some c0_2) x25))))) (by first | rfl | (rw [Heap.set_set]; rfl) | (funext n_; simp only [Heap.set]; (repeat' split) <;> first | rfl | (exfalso; simp_all; done) | (simp_all; done))) ?_
       refine AOps.nil ?_
       refine hK24 _ ?_
       clear hK24 K24
       refine AWp.exit ?_
       exact hK10 _ x25 Weak.toA hE
      ·have hE := condF hc23 hE
       try dsimp only at hc23
       refine AWp.skip ?_
       refine hK19 _ ?_
       clear hK19 K19
       refine AWp.seqK fun K26 hK26 => ?_
       refine AWp.region ?_
       refine AOps.s0 (Cert.move (by conv => lhs; whnf)) rfl ?_
       refine AOps.s0 (Cert.move (by conv => lhs; whnf)) rfl ?_
       refine AOps.s0 (Cert.fieldV (Try.tab_ok _ _ rfl) rfl rfl (Try.tab_ok _ _ rfl) rfl rfl (by conv => lhs; whnf)) rfl ?_
       refine AOps.s0 (Cert.loadV (Try.tab_ok _ _ rfl) rfl rfl rfl) rfl ?_
       refine AOps.s0 (Cert.fieldV (Try.tab_ok _ _ rfl) rfl rfl (Try.tab_ok _ _ rfl) rfl rfl (by conv => lhs; whnf)) rfl ?_
       refine AOps.s0 (Cert.loadV (Try.tab_ok _ _ rfl) rfl rfl rfl) rfl ?_
       refine AOps.s0 (Cert.binS rfl rfl rfl) rfl ?_
       refine AOps.s0 (Cert.move (by conv => lhs; whnf)) rfl ?_
       refine AOps.gC rfl rfl (fun hC => Cert.fieldV (Try.tab_ok _ _ rfl) rfl rfl (Try.tab_ok _ _ rfl) rfl rfl (by conv => lhs; whnf)) rfl ?_
       refine AOps.gC rfl rfl (fun hC => Cert.ungd (k := 70) rfl (by first | exact hC | exact andL hC | exact andL (andL hC) | exact andL (andL (andL hC)) | exact andR hC | simp_all) (Cert.loadV (Try.tab_ok _ _ rfl) rfl rfl rfl)) rfl ?_
       refine AOps.gC rfl rfl (fun hC => Cert.ungd (k := 71) rfl (by first | exact hC | exact andL hC | exact andL (andL hC) | exact andL (andL (andL hC)) | exact andR hC | simp_all) (Cert.binS rfl rfl rfl)) rfl ?_
       refine AOps.s0 (Cert.pickOr rfl rfl rfl (fun h => by first | exact h | exact notT h | exact andI hC h | exact andI hC (notT h) | simp_all)) rfl ?_
       refine AOps.s0 (Cert.move (by conv => lhs; whnf)) rfl ?_
       obtain ⟨x27, gx27, hE⟩ := bindO_some hE
       refine AOps.sH (Cert.callH rfl rfl (fields_checker_known_walk gx27 _ hpG hpG)) rfl ?_
       refine AOps.heq (h' := ((H.set c0_2 (some (.tok 2 x27.Fout.l.length))).set c0 (some (.cells (Fields_checker.cg (some c0_2) x27))))) (by first | rfl | (rw [Heap.set_set]; rfl) | (funext n_; simp only [Heap.set]; (repeat' split) <;> first | rfl | (exfalso; simp_all; done) | (simp_all; done))) ?_
       refine AOps.nil ?_
       refine hK26 _ ?_
       clear hK26 K26
       refine AWp.seqK fun K28 hK28 => ?_
       refine AWp.region ?_
       refine AOps.s0 (Cert.move (by conv => lhs; whnf)) rfl ?_
       refine AOps.sLen (f := TInput.c) (s := s13_18) (Try.tab_ok _ _ rfl) rfl rfl rfl rfl fun hL29 => ?_
       refine AOps.s0 (Cert.move (by conv => lhs; whnf)) rfl ?_
       refine AOps.nil ?_
       refine hK28 _ ?_
       clear hK28 K28
       refine AWp.block ?_
       refine AWp.loopH (KeepsT.cons (k := 0) (by conv => lhs; whnf) (KeepsT.cons (k := 3) (by conv => lhs; whnf) (KeepsT.cons (k := 4) (by conv => lhs; whnf) (KeepsT.cons (k := 6) (by conv => lhs; whnf) (KeepsT.cons (k := 7) (by conv => lhs; whnf) (KeepsT.cons (k := 11) (by conv => lhs; whnf) (KeepsT.cons (k := 19) (by conv => lhs; whnf) (KeepsT.cons (k := 20) (by conv => lhs; whnf) (KeepsT.cons (k := 21) (by conv => lhs; whnf) (KeepsT.cons (k := 76) (by conv => lhs; whnf) (KeepsT.cons (k := 77) (by conv => lhs; whnf) KeepsT.nil))))))))))) (fun (z : Nat × Nat × Fields_checker) => [(78, .a (.d (.int .i64 ((z.2.1 : Nat) : Int))))]) (fun z => ((H.set c0_2 (some (.tok 2 z.2.2.Fout.l.length))).set c0 (some (.cells (Fields_checker.cg (some c0_2) z.2.2))))) (fun z => z.1) (fun z => fields_checker_dirs_l30 a0 a1 a2 a3 a4 n4 s21_5 y6_c0 x13 x16 s13_18 x21 x22 x27 ((fields_checker_dirs_l4 a0 a1 a2 a3 a4 n4)) z.1 z.2.1 z.2.2 = some r) ((s13_18.l.length + 1), 0, x27) hE Weak.toA ?_
       rintro ⟨n30, s78_31, y32_c0⟩ hE K30 hK30
       try dsimp only at hE
       cases n30 with
       | zero => cases hE
       | succ n30 =>
         rw [fields_checker_dirs_l30] at hE
         refine AWp.seqK fun K33 hK33 => ?_
         refine AWp.region ?_
         refine AOps.s0 (Cert.binI rfl rfl rfl) rfl ?_
         refine AOps.nil ?_
         refine hK33 _ ?_
         clear hK33 K33
         refine AWp.seqK fun K34 hK34 => ?_
         refine AWp.cond rfl (fun hc35 => ?_) (fun hc35 => ?_)
         ·have hE := condT hc35 hE
          try dsimp only at hc35
          have hf35 := of_decide_eq_true hc35
          refine AWp.skip ?_
          refine hK34 _ ?_
          clear hK34 K34
          refine AWp.seqK fun K36 hK36 => ?_
          refine AWp.block ?_
          refine AWp.seqK fun K37 hK37 => ?_
          refine AWp.region ?_
          obtain ⟨x38, gx38, hE⟩ := bindO_some hE
          refine AOps.s0 (Cert.idxMn (f := TInput.c) (n := s78_31) (Try.tab_ok _ _ rfl) rfl (Try.tab_ok _ _ rfl) rfl rfl rfl gx38) rfl ?_
          refine AOps.s0 (Cert.loadV (Try.tab_ok _ _ rfl) rfl rfl rfl) rfl ?_
          refine AOps.sL (Cert.allocL (Try.tab_ok _ _ rfl) rfl (by repeat (first | exact Snoc.nil | apply Snoc.cons))) rfl ?_
          refine AOps.sLn (Cert.storeLF (Try.tab_ok _ _ rfl) rfl rfl rfl rfl rfl (by repeat (first | exact SetAt.zero | apply SetAt.succ))) ?_
          refine AOps.nil ?_
          refine hK37 _ ?_
          clear hK37 K37
          refine AWp.freeze 15 _ rfl (by repeat (first | exact Snoc.nil | apply Snoc.cons)) (Keeps.c (k := 0) (by conv => lhs; whnf) (by rfl) (Keeps.c (k := 3) (by conv => lhs; whnf) (by rfl) (Keeps.c (k := 4) (by conv => lhs; whnf) (by rfl) (Keeps.c (k := 6) (by conv => lhs; whnf) (by rfl) (Keeps.c (k := 7) (by conv => lhs; whnf) (by rfl) (Keeps.c (k := 11) (by conv => lhs; whnf) (by rfl) (Keeps.c (k := 19) (by conv => lhs; whnf) (by rfl) (Keeps.c (k := 20) (by conv => lhs; whnf) (by rfl) (Keeps.c (k := 21) (by conv => lhs; whnf) (by rfl) (Keeps.c (k := 76) (by conv => lhs; whnf) (by rfl) (Keeps.c (k := 77) (by conv => lhs; whnf) (by rfl) (Keeps.c (k := 78) (by conv => lhs; whnf) (by rfl) Keeps.nil)))))))))))) ?_
          refine AWp.seqK fun K39 hK39 => ?_
          refine AWp.region ?_
          refine AOps.s0 (Cert.fieldV (Try.tab_ok _ _ rfl) rfl rfl (Try.tab_ok _ _ rfl) rfl rfl (by conv => lhs; whnf)) rfl ?_
          refine AOps.s0 (Cert.loadV (Try.tab_ok _ _ rfl) rfl rfl rfl) rfl ?_
          refine AOps.s0 (Cert.fieldV (Try.tab_ok _ _ rfl) rfl rfl (Try.tab_ok _ _ rfl) rfl rfl (by conv => lhs; whnf)) rfl ?_
          refine AOps.s0 (Cert.loadV (Try.tab_ok _ _ rfl) rfl rfl rfl) rfl ?_
          obtain ⟨x40, gx40, hE⟩ := bindO_some hE
          refine AOps.s0 (Cert.callP rfl rfl (fun H => fields_given_walk gx40 H)) rfl ?_
          refine AOps.s0 (Cert.move (by conv => lhs; whnf)) rfl ?_
          refine AOps.s0 (Cert.extract rfl rfl) rfl ?_
          refine AOps.s0 (Cert.extract rfl rfl) rfl ?_
          refine AOps.sL (Cert.allocL (Try.tab_ok _ _ rfl) rfl (by repeat (first | exact Snoc.nil | apply Snoc.cons))) rfl ?_
          refine AOps.sLn (Cert.storeLF (Try.tab_ok _ _ rfl) rfl rfl rfl rfl rfl (by repeat (first | exact SetAt.zero | apply SetAt.succ))) ?_
          refine AOps.s0 (Cert.assign (by conv => lhs; whnf)) rfl ?_
          refine AOps.nil ?_
          refine hK39 _ ?_
          clear hK39 K39
          refine AWp.freeze 16 _ rfl (by repeat (first | exact Snoc.nil | apply Snoc.cons)) (Keeps.c (k := 0) (by conv => lhs; whnf) (by rfl) (Keeps.c (k := 3) (by conv => lhs; whnf) (by rfl) (Keeps.c (k := 4) (by conv => lhs; whnf) (by rfl) (Keeps.c (k := 6) (by conv => lhs; whnf) (by rfl) (Keeps.c (k := 7) (by conv => lhs; whnf) (by rfl) (Keeps.c (k := 11) (by conv => lhs; whnf) (by rfl) (Keeps.c (k := 17) (by conv => lhs; whnf) (by rfl) (Keeps.c (k := 19) (by conv => lhs; whnf) (by rfl) (Keeps.c (k := 20) (by conv => lhs; whnf) (by rfl) (Keeps.c (k := 21) (by conv => lhs; whnf) (by rfl) (Keeps.c (k := 76) (by conv => lhs; whnf) (by rfl) (Keeps.c (k := 77) (by conv => lhs; whnf) (by rfl) (Keeps.c (k := 78) (by conv => lhs; whnf) (by rfl) Keeps.nil))))))))))))) ?_
          refine AWp.region ?_
          refine AOps.s0 (Cert.move (by conv => lhs; whnf)) rfl ?_
          refine AOps.s0 (Cert.move (by conv => lhs; whnf)) rfl ?_
          refine AOps.s0 (Cert.notB rfl) rfl ?_
          refine AOps.s0 (Cert.move (by conv => lhs; whnf)) rfl ?_
          obtain ⟨x41, gx41, hE⟩ := bindO_some hE
          refine AOps.sH (Cert.callH rfl rfl (fields_checker_add_walk gx41 _ hpG hpG)) rfl ?_
          refine AOps.heq (h' := ((H.set c0_2 (some (.tok 2 x41.Fout.l.length))).set c0 (some (.cells (Fields_checker.cg (some c0_2) x41))))) (by first | rfl | (rw [Heap.set_set]; rfl) | (funext n_; simp only [Heap.set]; (repeat' split) <;> first | rfl | (exfalso; simp_all; done) | (simp_all; done))) ?_
          refine AOps.nil ?_
          refine hK36 _ ?_
          clear hK36 K36
          refine AWp.region ?_
          refine AOps.s0 (Cert.addI rfl rfl (by first | omega | (dsimp only; omega)) (by first | omega | (dsimp only; omega))) rfl ?_
          refine AOps.s0 (Cert.move (by conv => lhs; whnf)) rfl ?_
          refine AOps.nil ?_
          exact hK30 _ (n30, (s78_31 + 1), x41) Weak.toA hE (Nat.lt_succ_self _)
         ·have hE := condF hc35 hE
          try dsimp only at hc35
          refine AWp.exit ?_
          exact hK10 _ y32_c0 Weak.toA hE
    ·rintro y11_c0 hE
     try dsimp only at hE
     unfold fields_checker_dirs_j10 at hE
     refine AWp.region ?_
     refine AOps.s0 (Cert.addI rfl rfl (by first | omega | (dsimp only; omega)) (by first | omega | (dsimp only; omega))) rfl ?_
     refine AOps.s0 (Cert.move (by conv => lhs; whnf)) rfl ?_
     refine AOps.nil ?_
     exact hK4 _ (n4, (s21_5 + 1), y11_c0) Weak.toA hE (Nat.lt_succ_self _)
   ·have hE := condF hc9 hE
    try dsimp only at hc9
    refine AWp.exit ?_
    repeat (first | refine xBlock_normal ?_ | refine xThen_exit ?_ | refine xBlock_exit ?_)
    obtain rfl := Option.some.inj hE
    refine retQ.normalF ((H.set c0_2 (some (.tok 2 y6_c0.Fout.l.length))).set c0 (some (.cells (Fields_checker.cg (some c0_2) y6_c0)))) (xs := []) rfl ⟨rfl, rfl⟩ ?_
    exact (fun _ _ h => h)
def internal_stringslite_HasPrefix (a0 : Bs) (a1 : Bs) : Option Bool := guardO ((decide (((a1.length : Nat) : Int) ≤ ((a0.length : Nat) : Int)))) (cutC a0 none (some ((a1.length : Nat) : Int))) ([] : Bs) fun x5 => some ((decide (((a1.length : Nat) : Int) ≤ ((a0.length : Nat) : Int))) && ((x5 == a1)))
set_option maxRecDepth 100000 in
set_option maxHeartbeats 2000000 in
theorem internal_stringslite_HasPrefix_walk {a0 : Bs} {a1 : Bs}   {r : Bool} (hE : internal_stringslite_HasPrefix a0 a1 = some r) (H : Heap)  : ACalls Try.prog 86 [.d (.str a0), .d (.str a1)] H fun v h' => v = .a (.d (.bool r)) ∧ h' = H := by
 unfold internal_stringslite_HasPrefix at hE
 refine ACalls.of_wp (fn := Try.f86) (c := _) Try.tab_ok (fun _ _ => Try.call86 _ _) Try.func86 rfl (n := 18) rfl (rs := [.tmp 4]) rfl rfl ?_
 refine AWp.seqK fun K1 hK1 => ?_
 refine AWp.region ?_
 refine AOps.s0 (Cert.assign (by conv => lhs; whnf)) rfl ?_
 refine AOps.nil ?_
 refine hK1 _ ?_
 clear hK1 K1
 refine AWp.seqK fun K2 hK2 => ?_
 refine AWp.region ?_
 refine AOps.s0 (Cert.move (by conv => lhs; whnf)) rfl ?_
 refine AOps.sLenS (Try.tab_ok _ _ rfl) rfl rfl rfl rfl fun hL3 => ?_
 refine AOps.s0 (Cert.move (by conv => lhs; whnf)) rfl ?_
 refine AOps.sLenS (Try.tab_ok _ _ rfl) rfl rfl rfl rfl fun hL4 => ?_
 refine AOps.s0 (Cert.binI rfl rfl rfl) rfl ?_
 refine AOps.s0 (Cert.move (by conv => lhs; whnf)) rfl ?_
 refine AOps.gC rfl rfl (fun hC => Cert.move (by conv => lhs; whnf)) rfl ?_
 refine AOps.gC rfl rfl (fun hC => Cert.move (by conv => lhs; whnf)) rfl ?_
 refine AOps.gC rfl rfl (fun hC => Cert.ungd (k := 12) rfl (by first | exact hC | exact andL hC | exact andL (andL hC) | exact andL (andL (andL hC)) | exact andR hC | simp_all) (Cert.lenS (Try.tab_ok _ _ rfl) rfl rfl rfl)) rfl ?_
 obtain ⟨x5, gx5, hE⟩ := guardO_some hE
 refine AOps.gC rfl rfl (fun hC => Cert.ungd (k := 11) rfl (by first | exact hC | exact andL hC | exact andL (andL hC) | exact andL (andL (andL hC)) | exact andR hC | simp_all) (Cert.ungd (k := 13) rfl (by first | exact hC | exact andL hC | exact andL (andL hC) | exact andL (andL (andL hC)) | exact andR hC | simp_all) (Cert.cutM (l := none) (r := (some ((a1.length : Nat) : Int))) (Try.tab_ok _ _ rfl) rfl rfl trivial rfl (by simp) (gx5 hC)))) rfl ?_
 refine AOps.gC rfl rfl (fun hC => Cert.move (by conv => lhs; whnf)) rfl ?_
 refine AOps.gC rfl rfl (fun hC => Cert.ungd (k := 14) rfl (by first | exact hC | exact andL hC | exact andL (andL hC) | exact andL (andL (andL hC)) | exact andR hC | simp_all) (Cert.ungd (k := 15) rfl (by first | exact hC | exact andL hC | exact andL (andL hC) | exact andL (andL (andL hC)) | exact andR hC | simp_all) (Cert.binS rfl rfl rfl))) rfl ?_
 refine AOps.s0 (Cert.pickAnd rfl rfl (fun h => by first | exact h | exact notT h | exact andI hC h | exact andI hC (notT h) | simp_all) rfl) rfl ?_
 refine AOps.s0 (Cert.assign (by conv => lhs; whnf)) rfl ?_
 refine AOps.nil ?_
 refine hK2 _ ?_
 clear hK2 K2
 refine AWp.ret ?_
 repeat (first | refine xBlock_ret ?_ | refine xThen_ret ?_)
 obtain rfl := Option.some.inj hE
 refine retQ.retF H rfl ⟨rfl, rfl⟩ ?_
 exact (fun _ _ h => h)
def strings_HasPrefix (a0 : Bs) (a1 : Bs) : Option Bool := (internal_stringslite_HasPrefix a0 a1).bind fun x3 => some x3
set_option maxRecDepth 100000 in
set_option maxHeartbeats 2000000 in
theorem strings_HasPrefix_walk {a0 : Bs} {a1 : Bs}   {r : Bool} (hE : strings_HasPrefix a0 a1 = some r) (H : Heap)  : ACalls Try.prog 77 [.d (.str a0), .d (.str a1)] H fun v h' => v = .a (.d (.bool r)) ∧ h' = H := by
 unfold strings_HasPrefix at hE
 refine ACalls.of_wp (fn := Try.f77) (c := _) Try.tab_ok (fun _ _ => Try.call77 _ _) Try.func77 rfl (n := 8) rfl (rs := [.tmp 4]) rfl rfl ?_
 refine AWp.seqK fun K1 hK1 => ?_
 refine AWp.region ?_
 refine AOps.s0 (Cert.assign (by conv => lhs; whnf)) rfl ?_
 refine AOps.nil ?_
 refine hK1 _ ?_
 clear hK1 K1
 refine AWp.seqK fun K2 hK2 => ?_
 refine AWp.region ?_
 refine AOps.s0 (Cert.move (by conv => lhs; whnf)) rfl ?_
 refine AOps.s0 (Cert.move (by conv => lhs; whnf)) rfl ?_
 obtain ⟨x3, gx3, hE⟩ := bindO_some hE
 refine AOps.s0 (Cert.callP rfl rfl (fun H => internal_stringslite_HasPrefix_walk gx3 H)) rfl ?_
 refine AOps.s0 (Cert.assign (by conv => lhs; whnf)) rfl ?_
 refine AOps.nil ?_
 refine hK2 _ ?_
 clear hK2 K2
 refine AWp.ret ?_
 repeat (first | refine xBlock_ret ?_ | refine xThen_ret ?_)
 obtain rfl := Option.some.inj hE
 refine retQ.retF H rfl ⟨rfl, rfl⟩ ?_
 exact (fun _ _ h => h)
def text_Reserved (a0 : Bs) : Option Bool := (strings_HasPrefix a0 ([95, 95] : Bs)).bind fun x3 => some x3
set_option maxRecDepth 100000 in
set_option maxHeartbeats 2000000 in
theorem text_Reserved_walk {a0 : Bs}   {r : Bool} (hE : text_Reserved a0 = some r) (H : Heap)  : ACalls Try.prog 64 [.d (.str a0)] H fun v h' => v = .a (.d (.bool r)) ∧ h' = H := by
 unfold text_Reserved at hE
 refine ACalls.of_wp (fn := Try.f64) (c := _) Try.tab_ok (fun _ _ => Try.call64 _ _) Try.func64 rfl (n := 5) rfl (rs := [.tmp 2]) rfl rfl ?_
 refine AWp.seqK fun K1 hK1 => ?_
 refine AWp.region ?_
 refine AOps.s0 (Cert.assign (by conv => lhs; whnf)) rfl ?_
 refine AOps.nil ?_
 refine hK1 _ ?_
 clear hK1 K1
 refine AWp.seqK fun K2 hK2 => ?_
 refine AWp.region ?_
 refine AOps.s0 (Cert.move (by conv => lhs; whnf)) rfl ?_
 obtain ⟨x3, gx3, hE⟩ := bindO_some hE
 refine AOps.s0 (Cert.callP rfl rfl (fun H => strings_HasPrefix_walk gx3 H)) rfl ?_
 refine AOps.s0 (Cert.assign (by conv => lhs; whnf)) rfl ?_
 refine AOps.nil ?_
 refine hK2 _ ?_
 clear hK2 K2
 refine AWp.ret ?_
 repeat (first | refine xBlock_ret ?_ | refine xThen_ret ?_)
 obtain rfl := Option.some.inj hE
 refine retQ.retF H rfl ⟨rfl, rfl⟩ ?_
 exact (fun _ _ h => h)
end Go.Proofs

namespace Go.Proofs
open Go Go.Ab
def fields_checker_sels_j9 (a0 : Fields_checker) (a1 : (Sl TSel)) (a2 : Bs) (a3 : Bs) (n3 : Nat) (s13_4 : Nat) (y5_c0 : Fields_checker) (k_next_3 : Nat → Fields_checker → Option Fields_checker) (y10_c0 : Fields_checker) : Option Fields_checker := k_next_3 (s13_4 + 1) y10_c0
def fields_checker_sels_j22 (a0 : Fields_checker) (a1 : (Sl TSel)) (a2 : Bs) (a3 : Bs) (n3 : Nat) (s13_4 : Nat) (y5_c0 : Fields_checker) (x12 : TSel) (x20 : Fields_checker) (k_next_3 : Nat → Fields_checker → Option Fields_checker) (k_rec_32 : Fields_checker → (Sl TSel) → Bs → Bs → Option Fields_checker) (s10_23 : Bs) : Option Fields_checker := (k_rec_32 x20 x12.FSels s10_23 a3).bind fun x24 => fields_checker_sels_j9 a0 a1 a2 a3 n3 s13_4 y5_c0 k_next_3 x24
def fields_checker_sels_l3 (a0 : Fields_checker) (a1 : (Sl TSel)) (a2 : Bs) (a3 : Bs) (k_rec_32 : Fields_checker → (Sl TSel) → Bs → Bs → Option Fields_checker) (k_rec_46 : Fields_checker → TSel → Bs → Bs → Option Fields_checker) : Nat → Nat → Fields_checker → Option Fields_checker
 | 0, _, _ => none
 | n3 + 1, s13_4, y5_c0 => bif (decide (((s13_4 : Nat) : Int) < ((a1.l.length : Nat) : Int))) then ((a1.l[s13_4]?).bind fun x12 => bif (decide (x12.FKind = (2 : Int))) then ((fields_checker_dirs y5_c0 x12 (TRef.mk ([] : Bs) (Sl.nil : Sl Int)) false a3).bind fun x16 => fields_checker_sels_j9 a0 a1 a2 a3 n3 s13_4 y5_c0 ((fields_checker_sels_l3 a0 a1 a2 a3 k_rec_32 k_rec_46 n3)) x16) else (bif (decide (x12.FKind = (3 : Int))) then ((fields_checker_dirs y5_c0 x12 (TRef.mk ([] : Bs) (Sl.nil : Sl Int)) false a3).bind fun x20 => bif (!(x12.FOn == ([] : Bs))) then (fields_checker_sels_j22 a0 a1 a2 a3 n3 s13_4 y5_c0 x12 x20 ((fields_checker_sels_l3 a0 a1 a2 a3 k_rec_32 k_rec_46 n3)) k_rec_32 x12.FOn) else (fields_checker_sels_j22 a0 a1 a2 a3 n3 s13_4 y5_c0 x12 x20 ((fields_checker_sels_l3 a0 a1 a2 a3 k_rec_32 k_rec_46 n3)) k_rec_32 a2)) else ((k_rec_46 y5_c0 x12 a2 a3).bind fun x27 => fields_checker_sels_j9 a0 a1 a2 a3 n3 s13_4 y5_c0 ((fields_checker_sels_l3 a0 a1 a2 a3 k_rec_32 k_rec_46 n3)) x27))) else (some y5_c0)
def fields_checker_field_j16 (a0 : Fields_checker) (a1 : TSel) (a2 : Bs) (a3 : Bs) (s8_4 : Bs) (x6 : Bs) (x7 : Bs) (x9 : Bool) (x10 : Fields_checker) (x12 : (TRef × Bool)) (x14 : Bool) (x15 : Fields_checker) (k_rec_32 : Fields_checker → (Sl TSel) → Bs → Bs → Option Fields_checker) (y17_c0 : Fields_checker) : Option Fields_checker := (fields_checker_dirs y17_c0 a1 x12.1 x12.2 x7).bind fun x19 => (k_rec_32 x19 a1.FSels x12.1.FName x7).bind fun x20 => some x20
def fields_checker_field_l37 (a0 : Fields_checker) (a1 : TSel) (a2 : Bs) (a3 : Bs) (s8_4 : Bs) (x6 : Bs) (x7 : Bs) (x9 : Bool) (x10 : Fields_checker) (x12 : (TRef × Bool)) (x14 : Bool) (x15 : Fields_checker) (x24 : Bool) (x26 : Bool) (x27 : Fields_checker) (x29 : (TDef × Bool)) (y32_l0 : TField) (x34 : Fields_checker) (k_rec_32 : Fields_checker → (Sl TSel) → Bs → Bs → Option Fields_checker) : Nat → Nat → Fields_checker → Option Fields_checker
 | 0, _, _ => none
 | n37 + 1, s122_38, y39_c0 => bif (decide (((s122_38 : Nat) : Int) < ((y32_l0.FArgs.l.length : Nat) : Int))) then ((y32_l0.FArgs.l[s122_38]?).bind fun x45 => (fields_given a1.FArgs x45.FName).bind fun x47 => (typeref_IsNonNull x45.FType).bind fun x48 => (fields_checker_add y39_c0 ((x48 && (!x45.FHas)) && (!x47.2)) (22 : Int) x7).bind fun x49 => (fields_checker_field_l37 a0 a1 a2 a3 s8_4 x6 x7 x9 x10 x12 x14 x15 x24 x26 x27 x29 y32_l0 x34 k_rec_32 n37) (s122_38 + 1) x49) else (fields_checker_field_j16 a0 a1 a2 a3 s8_4 x6 x7 x9 x10 x12 x14 x15 k_rec_32 y39_c0)
def fields_checker_field_j31 (a0 : Fields_checker) (a1 : TSel) (a2 : Bs) (a3 : Bs) (s8_4 : Bs) (x6 : Bs) (x7 : Bs) (x9 : Bool) (x10 : Fields_checker) (x12 : (TRef × Bool)) (x14 : Bool) (x15 : Fields_checker) (x24 : Bool) (x26 : Bool) (x27 : Fields_checker) (x29 : (TDef × Bool)) (k_rec_32 : Fields_checker → (Sl TSel) → Bs → Bs → Option Fields_checker) (y32_l0 : TField) : Option Fields_checker := (fields_checker_known x27 y32_l0.FArgs a1.FArgs false x7).bind fun x34 => fields_checker_field_l37 a0 a1 a2 a3 s8_4 x6 x7 x9 x10 x12 x14 x15 x24 x26 x27 x29 y32_l0 x34 k_rec_32 (y32_l0.FArgs.l.length + 1) 0 x34
def fields_checker_field_j3 (a0 : Fields_checker) (a1 : TSel) (a2 : Bs) (a3 : Bs) (k_rec_32 : Fields_checker → (Sl TSel) → Bs → Bs → Option Fields_checker) (s8_4 : Bs) : Option Fields_checker := (catC ([47] : Bs) s8_4).bind fun x6 => (catC a3 x6).bind fun x7 => (text_Reserved a1.FAlias).bind fun x9 => (fields_checker_add a0 x9 (6 : Int) x7).bind fun x10 => (fields_Type x10.Fd a2 a1.FName).bind fun x12 => guardO ((!x12.2)) (schema_Composite x10.Fd a2) false fun x14 => (fields_checker_add x10 ((!x12.2) && x14) (20 : Int) x7).bind fun x15 => bif x12.2 then ((schema_Leaf x15.Fd x12.1.FName).bind fun x24 => guardO (!(x24 && (decide ((0 : Int) < ((a1.FSels.l.length : Nat) : Int))))) (schema_Composite x15.Fd x12.1.FName) false fun x26 => (fields_checker_add x15 ((x24 && (decide ((0 : Int) < ((a1.FSels.l.length : Nat) : Int)))) || (x26 && (decide (((a1.FSels.l.length : Nat) : Int) = (0 : Int))))) (21 : Int) x7).bind fun x27 => (schema_Find x27.Fd a2).bind fun x29 => bif (!(a1.FName == ([95, 95, 116, 121, 112, 101, 110, 97, 109, 101] : Bs))) then ((schema_FieldOf x29.1 a1.FName).bind fun x52 => fields_checker_field_j31 a0 a1 a2 a3 s8_4 x6 x7 x9 x10 x12 x14 x15 x24 x26 x27 x29 k_rec_32 x52.1) else (fields_checker_field_j31 a0 a1 a2 a3 s8_4 x6 x7 x9 x10 x12 x14 x15 x24 x26 x27 x29 k_rec_32 (TField.mk ([] : Bs) (Sl.nil : Sl TInput) TRef.zero (Sl.nil : Sl TDir)))) else (fields_checker_field_j16 a0 a1 a2 a3 s8_4 x6 x7 x9 x10 x12 x14 x15 k_rec_32 x15)
mutual
def fields_checker_sels_n : Nat → Fields_checker → (Sl TSel) → Bs → Bs → Option Fields_checker
 | 0, _, _, _, _ => none
 | n + 1, a0, a1, a2, a3 => fields_checker_sels_l3 a0 a1 a2 a3 (fields_checker_sels_n n) (fields_checker_field_n n) (a1.l.length + 1) 0 a0
def fields_checker_field_n : Nat → Fields_checker → TSel → Bs → Bs → Option Fields_checker
 | 0, _, _, _, _ => none
 | n + 1, a0, a1, a2, a3 => bif ((a1.FAlias == ([] : Bs))) then (fields_checker_field_j3 a0 a1 a2 a3 (fields_checker_sels_n n) a1.FName) else (fields_checker_field_j3 a0 a1 a2 a3 (fields_checker_sels_n n) a1.FAlias)
end
set_option maxRecDepth 100000 in
set_option maxHeartbeats 2000000 in
theorem fields_checker_sels_step (n : Nat) (ih_32 : ∀ {a0 : Fields_checker} {a1 : (Sl TSel)} {a2 : Bs} {a3 : Bs} {w1 : Option Nat} {c0 : Nat} {c0_2 : Nat} {r : Fields_checker}, fields_checker_sels_n n a0 a1 a2 a3 = some r → ∀ (H : Heap) (hc0 : H c0 = some (.cells (Fields_checker.cg (some c0_2) a0))) (ht0_2 : H c0_2 = some (.tok 2 a0.Fout.l.length)), ACalls Try.prog 32 [.d (.ptr c0 0), .d (Sl.d 7 TSel.c w1 a1), .d (.str a2), .d (.str a3)] H fun v h' => v = .tup [] ∧ h' = ((H.set c0_2 (some (.tok 2 r.Fout.l.length))).set c0 (some (.cells (Fields_checker.cg (some c0_2) r))))) (ih_46 : ∀ {a0 : Fields_checker} {a1 : TSel} {a2 : Bs} {a3 : Bs}  {c0 : Nat} {c0_2 : Nat} {r : Fields_checker}, fields_checker_field_n n a0 a1 a2 a3 = some r → ∀ (H : Heap) (hc0 : H c0 = some (.cells (Fields_checker.cg (some c0_2) a0))) (ht0_2 : H c0_2 = some (.tok 2 a0.Fout.l.length)), ACalls Try.prog 46 [.d (.ptr c0 0), .agg (TSel.c a1), .d (.str a2), .d (.str a3)] H fun v h' => v = .tup [] ∧ h' = ((H.set c0_2 (some (.tok 2 r.Fout.l.length))).set c0 (some (.cells (Fields_checker.cg (some c0_2) r))))) : ∀ {a0 : Fields_checker} {a1 : (Sl TSel)} {a2 : Bs} {a3 : Bs} {w1 : Option Nat} {c0 : Nat} {c0_2 : Nat} {r : Fields_checker}, fields_checker_sels_n (n + 1) a0 a1 a2 a3 = some r → ∀ (H : Heap) (hc0 : H c0 = some (.cells (Fields_checker.cg (some c0_2) a0))) (ht0_2 : H c0_2 = some (.tok 2 a0.Fout.l.length)), ACalls Try.prog 32 [.d (.ptr c0 0), .d (Sl.d 7 TSel.c w1 a1), .d (.str a2), .d (.str a3)] H fun v h' => v = .tup [] ∧ h' = ((H.set c0_2 (some (.tok 2 r.Fout.l.length))).set c0 (some (.cells (Fields_checker.cg (some c0_2) r)))) := by
 intro a0 a1 a2 a3 w1 c0 c0_2 r hE H hc0 ht0_2
 rw [fields_checker_sels_n] at hE
 refine ACalls.of_wp (fn := Try.f32) (c := _) Try.tab_ok (fun _ _ => Try.call32 _ _) Try.func32 rfl (n := 51) rfl (rs := []) rfl rfl ?_
 have ne_c0_c0_2 : c0 ≠ c0_2 := fun e_ => by subst e_; simp_all
 refine AWp.heqA (h' := ((H.set c0_2 (some (.tok 2 a0.Fout.l.length))).set c0 (some (.cells (Fields_checker.cg (some c0_2) a0))))) (by funext n_; simp only [Heap.set]; (repeat' split) <;> simp_all) ?_
 refine AWp.seqK fun K1 hK1 => ?_
 refine AWp.region ?_
 refine AOps.s0 (Cert.move (by conv => lhs; whnf)) rfl ?_
 refine AOps.sLen (f := TSel.c) (s := a1) (Try.tab_ok _ _ rfl) rfl rfl rfl rfl fun hL2 => ?_
 refine AOps.s0 (Cert.move (by conv => lhs; whnf)) rfl ?_
 refine AOps.nil ?_
 refine hK1 _ ?_
 clear hK1 K1
 refine AWp.block ?_
 refine AWp.loopH (KeepsT.cons (k := 0) (by conv => lhs; whnf) (KeepsT.cons (k := 2) (by conv => lhs; whnf) (KeepsT.cons (k := 3) (by conv => lhs; whnf) (KeepsT.cons (k := 11) (by conv => lhs; whnf) (KeepsT.cons (k := 12) (by conv => lhs; whnf) KeepsT.nil))))) (fun (z : Nat × Nat × Fields_checker) => [(13, .a (.d (.int .i64 ((z.2.1 : Nat) : Int))))]) (fun z => ((H.set c0_2 (some (.tok 2 z.2.2.Fout.l.length))).set c0 (some (.cells (Fields_checker.cg (some c0_2) z.2.2))))) (fun z => z.1) (fun z => fields_checker_sels_l3 a0 a1 a2 a3 (fields_checker_sels_n n) (fields_checker_field_n n) z.1 z.2.1 z.2.2 = some r) ((a1.l.length + 1), 0, a0) hE Weak.toA ?_
 rintro ⟨n3, s13_4, y5_c0⟩ hE K3 hK3
 try dsimp only at hE
 cases n3 with
 | zero => cases hE
 | succ n3 =>
   rw [fields_checker_sels_l3] at hE
   refine AWp.seqK fun K6 hK6 => ?_
   refine AWp.region ?_
   refine AOps.s0 (Cert.binI rfl rfl rfl) rfl ?_
   refine AOps.nil ?_
   refine hK6 _ ?_
   clear hK6 K6
   refine AWp.seqK fun K7 hK7 => ?_
   refine AWp.cond rfl (fun hc8 => ?_) (fun hc8 => ?_)
   ·have hE := condT hc8 hE
    try dsimp only at hc8
    have hf8 := of_decide_eq_true hc8
    refine AWp.skip ?_
    refine hK7 _ ?_
    clear hK7 K7
    refine AWp.seqJH (KeepsT.cons (k := 0) (by conv => lhs; whnf) (KeepsT.cons (k := 2) (by conv => lhs; whnf) (KeepsT.cons (k := 3) (by conv => lhs; whnf) (KeepsT.cons (k := 11) (by conv => lhs; whnf) (KeepsT.cons (k := 12) (by conv => lhs; whnf) (KeepsT.cons (k := 13) (by conv => lhs; whnf) KeepsT.nil)))))) (fun (z : Fields_checker) => []) (fun z => ((H.set c0_2 (some (.tok 2 z.Fout.l.length))).set c0 (some (.cells (Fields_checker.cg (some c0_2) z))))) (fun z => fields_checker_sels_j9 a0 a1 a2 a3 n3 s13_4 y5_c0 ((fields_checker_sels_l3 a0 a1 a2 a3 (fields_checker_sels_n n) (fields_checker_field_n n) n3)) z = some r) ?_ ?_
    ·intro K9 hK9
     refine AWp.block ?_
     refine AWp.seqK fun K11 hK11 => ?_
     refine AWp.region ?_
     obtain ⟨x12, gx12, hE⟩ := bindO_some hE
     refine AOps.s0 (Cert.idxMn (f := TSel.c) (n := s13_4) (Try.tab_ok _ _ rfl) rfl (Try.tab_ok _ _ rfl) rfl rfl rfl gx12) rfl ?_
     refine AOps.s0 (Cert.loadV (Try.tab_ok _ _ rfl) rfl rfl rfl) rfl ?_
     refine AOps.sL (Cert.allocL (Try.tab_ok _ _ rfl) rfl (by repeat (first | exact Snoc.nil | apply Snoc.cons))) rfl ?_
     refine AOps.sLn (Cert.storeLF (Try.tab_ok _ _ rfl) rfl rfl rfl rfl rfl (by repeat (first | exact SetAt.zero | apply SetAt.succ))) ?_
     refine AOps.nil ?_
     refine hK11 _ ?_
     clear hK11 K11
     refine AWp.freeze 9 _ rfl (by repeat (first | exact Snoc.nil | apply Snoc.cons)) (Keeps.c (k := 0) (by conv => lhs; whnf) (by rfl) (Keeps.c (k := 2) (by conv => lhs; whnf) (by rfl) (Keeps.c (k := 3) (by conv => lhs; whnf) (by rfl) (Keeps.c (k := 11) (by conv => lhs; whnf) (by rfl) (Keeps.c (k := 12) (by conv => lhs; whnf) (by rfl) (Keeps.c (k := 13) (by conv => lhs; whnf) (by rfl) Keeps.nil)))))) ?_
     refine AWp.seqK fun K13 hK13 => ?_
     refine AWp.region ?_
     refine AOps.s0 (Cert.fieldV (Try.tab_ok _ _ rfl) rfl rfl (Try.tab_ok _ _ rfl) rfl rfl (by conv => lhs; whnf)) rfl ?_
     refine AOps.s0 (Cert.loadV (Try.tab_ok _ _ rfl) rfl rfl rfl) rfl ?_
     refine AOps.nil ?_
     refine hK13 _ ?_
     clear hK13 K13
     refine AWp.block ?_
     refine AWp.seqK fun K14 hK14 => ?_
     refine AWp.region ?_
     refine AOps.s0 (Cert.binI rfl rfl rfl) rfl ?_
     refine AOps.s0 (Cert.assign (by conv => lhs; whnf)) rfl ?_
     refine AOps.nil ?_
     refine hK14 _ ?_
     clear hK14 K14
     refine AWp.cond rfl (fun hc15 => ?_) (fun hc15 => ?_)
     ·have hE := condT hc15 hE
      try dsimp only at hc15
      refine AWp.region ?_
      refine AOps.s0 (Cert.move (by conv => lhs; whnf)) rfl ?_
      refine AOps.s0 (Cert.loadV (Try.tab_ok _ _ rfl) rfl rfl rfl) rfl ?_
      refine AOps.s0 (Cert.build Try.tab_ok rfl rfl rfl rfl rfl rfl) rfl ?_
      refine AOps.s0 (Cert.move (by conv => lhs; whnf)) rfl ?_
      obtain ⟨x16, gx16, hE⟩ := bindO_some hE
      refine AOps.sH (Cert.callH rfl rfl (fields_checker_dirs_walk gx16 _ hpG hpG)) rfl ?_
      refine AOps.heq (h' := ((H.set c0_2 (some (.tok 2 x16.Fout.l.length))).set c0 (some (.cells (Fields_checker.cg (some c0_2) x16))))) (by first | rfl | (rw [Heap.set_set]; rfl) | (funext n_; simp only [Heap.set]; (repeat' split) <;> first | rfl | (exfalso; simp_all; done) | (simp_all; done))) ?_
      refine AOps.nil ?_
      exact hK9 _ x16 Weak.toA hE
     ·have hE := condF hc15 hE
      try dsimp only at hc15
      refine AWp.seqK fun K17 hK17 => ?_
      refine AWp.region ?_
      refine AOps.s0 (Cert.binI rfl rfl rfl) rfl ?_
      refine AOps.s0 (Cert.assign (by conv => lhs; whnf)) rfl ?_
      refine AOps.nil ?_
      refine hK17 _ ?_
      clear hK17 K17
      refine AWp.cond rfl (fun hc18 => ?_) (fun hc18 => ?_)
      ·have hE := condT hc18 hE
       try dsimp only at hc18
       refine AWp.seqK fun K19 hK19 => ?_
       refine AWp.region ?_
       refine AOps.s0 (Cert.move (by conv => lhs; whnf)) rfl ?_
       refine AOps.s0 (Cert.loadV (Try.tab_ok _ _ rfl) rfl rfl rfl) rfl ?_
       refine AOps.s0 (Cert.build Try.tab_ok rfl rfl rfl rfl rfl rfl) rfl ?_
       refine AOps.s0 (Cert.move (by conv => lhs; whnf)) rfl ?_
       obtain ⟨x20, gx20, hE⟩ := bindO_some hE
       refine AOps.sH (Cert.callH rfl rfl (fields_checker_dirs_walk gx20 _ hpG hpG)) rfl ?_
       refine AOps.heq (h' := ((H.set c0_2 (some (.tok 2 x20.Fout.l.length))).set c0 (some (.cells (Fields_checker.cg (some c0_2) x20))))) (by first | rfl | (rw [Heap.set_set]; rfl) | (funext n_; simp only [Heap.set]; (repeat' split) <;> first | rfl | (exfalso; simp_all; done) | (simp_all; done))) ?_
       refine AOps.nil ?_
       refine hK19 _ ?_
       clear hK19 K19
       refine AWp.seqK fun K21 hK21 => ?_
       refine AWp.region ?_
       refine AOps.s0 (Cert.move (by conv => lhs; whnf)) rfl ?_
       refine AOps.s0 (Cert.assign (by conv => lhs; whnf)) rfl ?_
       refine AOps.nil ?_
       refine hK21 _ ?_
       clear hK21 K21
       refine AWp.seqJH (KeepsT.cons (k := 0) (by conv => lhs; whnf) (KeepsT.cons (k := 2) (by conv => lhs; whnf) (KeepsT.cons (k := 3) (by conv => lhs; whnf) (KeepsT.cons (k := 9) (by conv => lhs; whnf) (KeepsT.cons (k := 11) (by conv => lhs; whnf) (KeepsT.cons (k := 12) (by conv => lhs; whnf) (KeepsT.cons (k := 13) (by conv => lhs; whnf) KeepsT.nil))))))) (fun (z : Bs) => [(10, .a (.d (.str z)))]) (fun z => ((H.set c0_2 (some (.tok 2 x20.Fout.l.length))).set c0 (some (.cells (Fields_checker.cg (some c0_2) x20))))) (fun z => fields_checker_sels_j22 a0 a1 a2 a3 n3 s13_4 y5_c0 x12 x20 ((fields_checker_sels_l3 a0 a1 a2 a3 (fields_checker_sels_n n) (fields_checker_field_n n) n3)) (fields_checker_sels_n n) z = some r) ?_ ?_
       ·intro K22 hK22
        refine AWp.seqK fun K25 hK25 => ?_
        refine AWp.region ?_
        refine AOps.s0 (Cert.fieldV (Try.tab_ok _ _ rfl) rfl rfl (Try.tab_ok _ _ rfl) rfl rfl (by conv => lhs; whnf)) rfl ?_
        refine AOps.s0 (Cert.loadV (Try.tab_ok _ _ rfl) rfl rfl rfl) rfl ?_
        refine AOps.s0 (Cert.binS rfl rfl rfl) rfl ?_
        refine AOps.nil ?_
        refine hK25 _ ?_
        clear hK25 K25
        refine AWp.cond rfl (fun hc26 => ?_) (fun hc26 => ?_)
        ·have hE := condT hc26 hE
         try dsimp only at hc26
         refine AWp.region ?_
         refine AOps.s0 (Cert.fieldV (Try.tab_ok _ _ rfl) rfl rfl (Try.tab_ok _ _ rfl) rfl rfl (by conv => lhs; whnf)) rfl ?_
         refine AOps.s0 (Cert.loadV (Try.tab_ok _ _ rfl) rfl rfl rfl) rfl ?_
         refine AOps.s0 (Cert.assign (by conv => lhs; whnf)) rfl ?_
         refine AOps.nil ?_
         exact hK22 _ x12.FOn Weak.toA hE
        ·have hE := condF hc26 hE
         try dsimp only at hc26
         refine AWp.skip ?_
         exact hK22 _ a2 Weak.toA hE
       ·rintro s10_23 hE
        try dsimp only at hE
        unfold fields_checker_sels_j22 at hE
        refine AWp.region ?_
        refine AOps.s0 (Cert.move (by conv => lhs; whnf)) rfl ?_
        refine AOps.s0 (Cert.fieldV (Try.tab_ok _ _ rfl) rfl rfl (Try.tab_ok _ _ rfl) rfl rfl (by conv => lhs; whnf)) rfl ?_
        refine AOps.s0 (Cert.loadV (Try.tab_ok _ _ rfl) rfl rfl (congrArg (fun x => some (A.d x)) (TSel.FSelsD_eq _))) rfl ?_
        refine AOps.s0 (Cert.move (by conv => lhs; whnf)) rfl ?_
        refine AOps.s0 (Cert.move (by conv => lhs; whnf)) rfl ?_
        obtain ⟨x24, gx24, hE⟩ := bindO_some hE
        refine AOps.sH (Cert.callH rfl rfl (ih_32 gx24 _ hpG hpG)) rfl ?_
        refine AOps.heq (h' := ((H.set c0_2 (some (.tok 2 x24.Fout.l.length))).set c0 (some (.cells (Fields_checker.cg (some c0_2) x24))))) (by first | rfl | (rw [Heap.set_set]; rfl) | (funext n_; simp only [Heap.set]; (repeat' split) <;> first | rfl | (exfalso; simp_all; done) | (simp_all; done))) ?_
        refine AOps.nil ?_
        exact hK9 _ x24 Weak.toA hE
      ·have hE := condF hc18 hE
       try dsimp only at hc18
       refine AWp.region ?_
       refine AOps.s0 (Cert.move (by conv => lhs; whnf)) rfl ?_
       refine AOps.s0 (Cert.loadV (Try.tab_ok _ _ rfl) rfl rfl rfl) rfl ?_
       refine AOps.s0 (Cert.move (by conv => lhs; whnf)) rfl ?_
       refine AOps.s0 (Cert.move (by conv => lhs; whnf)) rfl ?_
       obtain ⟨x27, gx27, hE⟩ := bindO_some hE
       refine AOps.sH (Cert.callH rfl rfl (ih_46 gx27 _ hpG hpG)) rfl ?_
       refine AOps.heq (h' := ((H.set c0_2 (some (.tok 2 x27.Fout.l.length))).set c0 (some (.cells (Fields_checker.cg (some c0_2) x27))))) (by first | rfl | (rw [Heap.set_set]; rfl) | (funext n_; simp only [Heap.set]; (repeat' split) <;> first | rfl | (exfalso; simp_all; done) | (simp_all; done))) ?_
       refine AOps.nil ?_
       exact hK9 _ x27 Weak.toA hE
    ·rintro y10_c0 hE
     try dsimp only at hE
     unfold fields_checker_sels_j9 at hE
     refine AWp.region ?_
     refine AOps.s0 (Cert.addI rfl rfl (by first | omega | (dsimp only; omega)) (by first | omega | (dsimp only; omega))) rfl ?_
     refine AOps.s0 (Cert.move (by conv => lhs; whnf)) rfl ?_
     refine AOps.nil ?_
     exact hK3 _ (n3, (s13_4 + 1), y10_c0) Weak.toA hE (Nat.lt_succ_self _)
   ·have hE := condF hc8 hE
    try dsimp only at hc8
    refine AWp.exit ?_
    repeat (first | refine xBlock_normal ?_ | refine xThen_exit ?_ | refine xBlock_exit ?_)
    obtain rfl := Option.some.inj hE
    refine retQ.normalF ((H.set c0_2 (some (.tok 2 y5_c0.Fout.l.length))).set c0 (some (.cells (Fields_checker.cg (some c0_2) y5_c0)))) (xs := []) rfl ⟨rfl, rfl⟩ ?_
    exact (fun _ _ h => h)
set_option maxRecDepth 100000 in
set_option maxHeartbeats 2000000 in
theorem fields_checker_field_step (n : Nat) (ih_32 : ∀ {a0 : Fields_checker} {a1 : (Sl TSel)} {a2 : Bs} {a3 : Bs} {w1 : Option Nat} {c0 : Nat} {c0_2 : Nat} {r : Fields_checker}, fields_checker_sels_n n a0 a1 a2 a3 = some r → ∀ (H : Heap) (hc0 : H c0 = some (.cells (Fields_checker.cg (some c0_2) a0))) (ht0_2 : H c0_2 = some (.tok 2 a0.Fout.l.length)), ACalls Try.prog 32 [.d (.ptr c0 0), .d (Sl.d 7 TSel.c w1 a1), .d (.str a2), .d (.str a3)] H fun v h' => v = .tup [] ∧ h' = ((H.set c0_2 (some (.tok 2 r.Fout.l.length))).set c0 (some (.cells (Fields_checker.cg (some c0_2) r))))) (ih_46 : ∀ {a0 : Fields_checker} {a1 : TSel} {a2 : Bs} {a3 : Bs}  {c0 : Nat} {c0_2 : Nat} {r : Fields_checker}, fields_checker_field_n n a0 a1 a2 a3 = some r → ∀ (H : Heap) (hc0 : H c0 = some (.cells (Fields_checker.cg (some c0_2) a0))) (ht0_2 : H c0_2 = some (.tok 2 a0.Fout.l.length)), ACalls Try.prog 46 [.d (.ptr c0 0), .agg (TSel.c a1), .d (.str a2), .d (.str a3)] H fun v h' => v = .tup [] ∧ h' = ((H.set c0_2 (some (.tok 2 r.Fout.l.length))).set c0 (some (.cells (Fields_checker.cg (some c0_2) r))))) : ∀ {a0 : Fields_checker} {a1 : TSel} {a2 : Bs} {a3 : Bs}  {c0 : Nat} {c0_2 : Nat} {r : Fields_checker}, fields_checker_field_n (n + 1) a0 a1 a2 a3 = some r → ∀ (H : Heap) (hc0 : H c0 = some (.cells (Fields_checker.cg (some c0_2) a0))) (ht0_2 : H c0_2 = some (.tok 2 a0.Fout.l.length)), ACalls Try.prog 46 [.d (.ptr c0 0), .agg (TSel.c a1), .d (.str a2), .d (.str a3)] H fun v h' => v = .tup [] ∧ h' = ((H.set c0_2 (some (.tok 2 r.Fout.l.length))).set c0 (some (.cells (Fields_checker.cg (some c0_2) r)))) := by
 intro a0 a1 a2 a3  c0 c0_2 r hE H hc0 ht0_2
 rw [fields_checker_field_n] at hE
 refine ACalls.of_wp (fn := Try.f46) (c := _) Try.tab_ok (fun _ _ => Try.call46 _ _) Try.func46 rfl (n := 163) rfl (rs := []) rfl rfl ?_
 have ne_c0_c0_2 : c0 ≠ c0_2 := fun e_ => by subst e_; simp_all
 refine AWp.heqA (h' := ((H.set c0_2 (some (.tok 2 a0.Fout.l.length))).set c0 (some (.cells (Fields_checker.cg (some c0_2) a0))))) (by funext n_; simp only [Heap.set]; (repeat' split) <;> simp_all) ?_
 refine AWp.seqK fun K1 hK1 => ?_
 refine AWp.region ?_
 refine AOps.s0 (Cert.boxV rfl) rfl ?_
 refine AOps.nil ?_
 refine hK1 _ ?_
 clear hK1 K1
 refine AWp.seqK fun K2 hK2 => ?_
 refine AWp.region ?_
 refine AOps.s0 (Cert.fieldV (Try.tab_ok _ _ rfl) rfl rfl (Try.tab_ok _ _ rfl) rfl rfl (by conv => lhs; whnf)) rfl ?_
 refine AOps.s0 (Cert.loadV (Try.tab_ok _ _ rfl) rfl rfl rfl) rfl ?_
 refine AOps.s0 (Cert.assign (by conv => lhs; whnf)) rfl ?_
 refine AOps.nil ?_
 refine hK2 _ ?_
 clear hK2 K2
 refine AWp.seqJH (KeepsT.cons (k := 0) (by conv => lhs; whnf) (KeepsT.cons (k := 2) (by conv => lhs; whnf) (KeepsT.cons (k := 3) (by conv => lhs; whnf) (KeepsT.cons (k := 5) (by conv => lhs; whnf) KeepsT.nil)))) (fun (z : Bs) => [(8, .a (.d (.str z)))]) (fun z => ((H.set c0_2 (some (.tok 2 a0.Fout.l.length))).set c0 (some (.cells (Fields_checker.cg (some c0_2) a0))))) (fun z => fields_checker_field_j3 a0 a1 a2 a3 (fields_checker_sels_n n) z = some r) ?_ ?_
 ·intro K3 hK3
  refine AWp.seqK fun K53 hK53 => ?_
  refine AWp.region ?_
  refine AOps.s0 (Cert.move (by conv => lhs; whnf)) rfl ?_
  refine AOps.s0 (Cert.binS rfl rfl rfl) rfl ?_
  refine AOps.nil ?_
  refine hK53 _ ?_
  clear hK53 K53
  refine AWp.cond rfl (fun hc54 => ?_) (fun hc54 => ?_)
  ·have hE := condT hc54 hE
   try dsimp only at hc54
   refine AWp.region ?_
   refine AOps.s0 (Cert.fieldV (Try.tab_ok _ _ rfl) rfl rfl (Try.tab_ok _ _ rfl) rfl rfl (by conv => lhs; whnf)) rfl ?_
   refine AOps.s0 (Cert.loadV (Try.tab_ok _ _ rfl) rfl rfl rfl) rfl ?_
   refine AOps.s0 (Cert.assign (by conv => lhs; whnf)) rfl ?_
   refine AOps.nil ?_
   exact hK3 _ a1.FName Weak.toA hE
  ·have hE := condF hc54 hE
   try dsimp only at hc54
   refine AWp.skip ?_
   exact hK3 _ a1.FAlias Weak.toA hE
 ·rintro s8_4 hE
  try dsimp only at hE
  unfold fields_checker_field_j3 at hE
  refine AWp.seqK fun K5 hK5 => ?_
  refine AWp.region ?_
  refine AOps.s0 (Cert.move (by conv => lhs; whnf)) rfl ?_
  refine AOps.s0 (Cert.move (by conv => lhs; whnf)) rfl ?_
  obtain ⟨x6, gx6, hE⟩ := bindO_some hE
  refine AOps.s0 (Cert.catM rfl rfl gx6) rfl ?_
  obtain ⟨x7, gx7, hE⟩ := bindO_some hE
  refine AOps.s0 (Cert.catM rfl rfl gx7) rfl ?_
  refine AOps.s0 (Cert.assign (by conv => lhs; whnf)) rfl ?_
  refine AOps.nil ?_
  refine hK5 _ ?_
  clear hK5 K5
  refine AWp.seqK fun K8 hK8 => ?_
  refine AWp.region ?_
  refine AOps.s0 (Cert.move (by conv => lhs; whnf)) rfl ?_
  refine AOps.s0 (Cert.fieldV (Try.tab_ok _ _ rfl) rfl rfl (Try.tab_ok _ _ rfl) rfl rfl (by conv => lhs; whnf)) rfl ?_
  refine AOps.s0 (Cert.loadV (Try.tab_ok _ _ rfl) rfl rfl rfl) rfl ?_
  obtain ⟨x9, gx9, hE⟩ := bindO_some hE
  refine AOps.s0 (Cert.callP rfl rfl (fun H => text_Reserved_walk gx9 H)) rfl ?_
  refine AOps.s0 (Cert.move (by conv => lhs; whnf)) rfl ?_
  obtain ⟨x10, gx10, hE⟩ := bindO_some hE
  refine AOps.sH (Cert.callH rfl rfl (fields_checker_add_walk gx10 _ hpG hpG)) rfl ?_
  refine AOps.heq (h' := ((H.set c0_2 (some (.tok 2 x10.Fout.l.length))).set c0 (some (.cells (Fields_checker.cg (some c0_2) x10))))) (by first | rfl | (rw [Heap.set_set]; rfl) | (funext n_; simp only [Heap.set]; (repeat' split) <;> first | rfl | (exfalso; simp_all; done) | (simp_all; done))) ?_
  refine AOps.nil ?_
  refine hK8 _ ?_
  clear hK8 K8
  refine AWp.seqK fun K11 hK11 => ?_
  refine AWp.draw rfl ?_
  refine DOps.s0 (Cert.move (by conv => lhs; whnf)) rfl ?_
  refine DOps.s0 (Cert.nilP rfl) rfl ?_
  refine DOps.s0 (Cert.fieldP (Try.tab_ok _ _ rfl) rfl rfl (Try.tab_ok _ _ rfl) rfl rfl) rfl ?_
  refine DOps.s0 (Cert.loadP (Try.tab_ok _ _ rfl) rfl rfl hpG rfl) rfl ?_
  refine DOps.s0 (Cert.move (by conv => lhs; whnf)) rfl ?_
  refine DOps.s0 (Cert.fieldV (Try.tab_ok _ _ rfl) rfl rfl (Try.tab_ok _ _ rfl) rfl rfl (by conv => lhs; whnf)) rfl ?_
  refine DOps.s0 (Cert.loadV (Try.tab_ok _ _ rfl) rfl rfl rfl) rfl ?_
  obtain ⟨x12, gx12, hE⟩ := bindO_some hE
  refine DOps.s0 (Cert.callP rfl rfl (fun H => fields_Type_walk gx12 H)) rfl ?_
  refine DOps.s0 (Cert.move (by conv => lhs; whnf)) rfl ?_
  refine DOps.s0 (Cert.extract rfl rfl) rfl ?_
  refine DOps.s0 (Cert.extract rfl rfl) rfl ?_
  refine DOps.sL (Cert.allocL (Try.tab_ok _ _ rfl) rfl (by repeat (first | exact Snoc.nil | apply Snoc.cons))) rfl ?_
  refine DOps.sLn (Cert.storeLF (Try.tab_ok _ _ rfl) rfl rfl rfl rfl rfl (by repeat (first | exact SetAt.zero | apply SetAt.succ))) ?_
  refine DOps.s0 (Cert.assign (by conv => lhs; whnf)) rfl ?_
  refine DOps.nil (by decide +kernel) ?_
  refine hK11 _ ?_
  clear hK11 K11
  refine AWp.freeze 9 _ rfl (by repeat (first | exact Snoc.nil | apply Snoc.cons)) (Keeps.c (k := 0) (by conv => lhs; whnf) (by rfl) (Keeps.c (k := 2) (by conv => lhs; whnf) (by rfl) (Keeps.c (k := 3) (by conv => lhs; whnf) (by rfl) (Keeps.c (k := 5) (by conv => lhs; whnf) (by rfl) (Keeps.c (k := 10) (by conv => lhs; whnf) (by rfl) Keeps.nil))))) ?_
  refine AWp.seqK fun K13 hK13 => ?_
  refine AWp.region ?_
  refine AOps.s0 (Cert.move (by conv => lhs; whnf)) rfl ?_
  refine AOps.s0 (Cert.move (by conv => lhs; whnf)) rfl ?_
  refine AOps.s0 (Cert.notB rfl) rfl ?_
  refine AOps.s0 (Cert.move (by conv => lhs; whnf)) rfl ?_
  refine AOps.gC rfl rfl (fun hC => Cert.move (by conv => lhs; whnf)) rfl ?_
  refine AOps.gC rfl rfl (fun hC => Cert.ungd (k := 50) rfl (by first | exact hC | exact andL hC | exact andL (andL hC) | exact andL (andL (andL hC)) | exact andR hC | simp_all) (Cert.nilP rfl)) rfl ?_
  refine AOps.gC rfl rfl (fun hC => Cert.ungd (k := 51) rfl (by first | exact hC | exact andL hC | exact andL (andL hC) | exact andL (andL (andL hC)) | exact andR hC | simp_all) (Cert.fieldP (Try.tab_ok _ _ rfl) rfl rfl (Try.tab_ok _ _ rfl) rfl rfl)) rfl ?_
  refine AOps.gC rfl rfl (fun hC => Cert.ungd (k := 52) rfl (by first | exact hC | exact andL hC | exact andL (andL hC) | exact andL (andL (andL hC)) | exact andR hC | simp_all) (Cert.loadP (Try.tab_ok _ _ rfl) rfl rfl hpG rfl)) rfl ?_
  refine AOps.gC rfl rfl (fun hC => Cert.move (by conv => lhs; whnf)) rfl ?_
  obtain ⟨x14, gx14, hE⟩ := guardO_some hE
  refine AOps.gC rfl rfl (fun hC => Cert.ungd (k := 53) rfl (by first | exact hC | exact andL hC | exact andL (andL hC) | exact andL (andL (andL hC)) | exact andR hC | simp_all) (Cert.ungd (k := 54) rfl (by first | exact hC | exact andL hC | exact andL (andL hC) | exact andL (andL (andL hC)) | exact andR hC | simp_all) (Cert.callP rfl rfl (fun H => schema_Composite_walk (gx14 hC) H)))) rfl ?_
  refine AOps.s0 (Cert.pickAnd rfl rfl (fun h => by first | exact h | exact notT h | exact andI hC h | exact andI hC (notT h) | simp_all) rfl) rfl ?_
  refine AOps.s0 (Cert.move (by conv => lhs; whnf)) rfl ?_
  obtain ⟨x15, gx15, hE⟩ := bindO_some hE
  refine AOps.sH (Cert.callH rfl rfl (fields_checker_add_walk gx15 _ hpG hpG)) rfl ?_
  refine AOps.heq (h' := ((H.set c0_2 (some (.tok 2 x15.Fout.l.length))).set c0 (some (.cells (Fields_checker.cg (some c0_2) x15))))) (by first | rfl | (rw [Heap.set_set]; rfl) | (funext n_; simp only [Heap.set]; (repeat' split) <;> first | rfl | (exfalso; simp_all; done) | (simp_all; done))) ?_
  refine AOps.nil ?_
  refine hK13 _ ?_
  clear hK13 K13
  refine AWp.seqJH (KeepsT.cons (k := 0) (by conv => lhs; whnf) (KeepsT.cons (k := 3) (by conv => lhs; whnf) (KeepsT.cons (k := 5) (by conv => lhs; whnf) (KeepsT.cons (k := 9) (by conv => lhs; whnf) (KeepsT.cons (k := 10) (by conv => lhs; whnf) KeepsT.nil))))) (fun (z : Fields_checker) => []) (fun z => ((H.set c0_2 (some (.tok 2 z.Fout.l.length))).set c0 (some (.cells (Fields_checker.cg (some c0_2) z))))) (fun z => fields_checker_field_j16 a0 a1 a2 a3 s8_4 x6 x7 x9 x10 x12 x14 x15 (fields_checker_sels_n n) z = some r) ?_ ?_
  ·intro K16 hK16
   refine AWp.seqK fun K21 hK21 => ?_
   refine AWp.region ?_
   refine AOps.s0 (Cert.move (by conv => lhs; whnf)) rfl ?_
   refine AOps.nil ?_
   refine hK21 _ ?_
   clear hK21 K21
   refine AWp.cond rfl (fun hc22 => ?_) (fun hc22 => ?_)
   ·have hE := condT hc22 hE
    try dsimp only at hc22
    refine AWp.seqK fun K23 hK23 => ?_
    refine AWp.draw rfl ?_
    refine DOps.s0 (Cert.move (by conv => lhs; whnf)) rfl ?_
    refine DOps.s0 (Cert.nilP rfl) rfl ?_
    refine DOps.s0 (Cert.fieldP (Try.tab_ok _ _ rfl) rfl rfl (Try.tab_ok _ _ rfl) rfl rfl) rfl ?_
    refine DOps.s0 (Cert.loadP (Try.tab_ok _ _ rfl) rfl rfl hpG rfl) rfl ?_
    refine DOps.s0 (Cert.fieldV (Try.tab_ok _ _ rfl) rfl rfl (Try.tab_ok _ _ rfl) rfl rfl (by conv => lhs; whnf)) rfl ?_
    refine DOps.s0 (Cert.loadV (Try.tab_ok _ _ rfl) rfl rfl rfl) rfl ?_
    obtain ⟨x24, gx24, hE⟩ := bindO_some hE
    refine DOps.s0 (Cert.callP rfl rfl (fun H => schema_Leaf_walk gx24 H)) rfl ?_
    refine DOps.s0 (Cert.assign (by conv => lhs; whnf)) rfl ?_
    refine DOps.nil (by decide +kernel) ?_
    refine hK23 _ ?_
    clear hK23 K23
    refine AWp.seqK fun K25 hK25 => ?_
    refine AWp.draw rfl ?_
    refine DOps.s0 (Cert.move (by conv => lhs; whnf)) rfl ?_
    refine DOps.s0 (Cert.move (by conv => lhs; whnf)) rfl ?_
    refine DOps.s0 (Cert.move (by conv => lhs; whnf)) rfl ?_
    refine DOps.gC rfl rfl (fun hC => Cert.fieldV (Try.tab_ok _ _ rfl) rfl rfl (Try.tab_ok _ _ rfl) rfl rfl (by conv => lhs; whnf)) rfl ?_
    refine DOps.gC rfl rfl (fun hC => Cert.ungd (k := 70) rfl (by first | exact hC | exact andL hC | exact andL (andL hC) | exact andL (andL (andL hC)) | exact andR hC | simp_all) (Cert.loadV (Try.tab_ok _ _ rfl) rfl rfl (congrArg (fun x => some (A.d x)) (TSel.FSelsD_eq _)))) rfl ?_
    refine DOps.gC rfl rfl (fun hC => Cert.ungd (k := 71) rfl (by first | exact hC | exact andL hC | exact andL (andL hC) | exact andL (andL (andL hC)) | exact andR hC | simp_all) (Cert.lenM' (f := TSel.c) (s := a1.FSels) (Try.tab_ok _ _ rfl) rfl rfl rfl)) rfl ?_
    refine DOps.gC rfl rfl (fun hC => Cert.ungd (k := 72) rfl (by first | exact hC | exact andL hC | exact andL (andL hC) | exact andL (andL (andL hC)) | exact andR hC | simp_all) (Cert.binI rfl rfl rfl)) rfl ?_
    refine DOps.s0 (Cert.pickAnd rfl rfl (fun h => by first | exact h | exact notT h | exact andI hC h | exact andI hC (notT h) | simp_all) rfl) rfl ?_
    refine DOps.s0 (Cert.move (by conv => lhs; whnf)) rfl ?_
    refine DOps.gC rfl rfl (fun hC => Cert.move (by conv => lhs; whnf)) rfl ?_
    refine DOps.gC rfl rfl (fun hC => Cert.ungd (k := 76) rfl (by first | exact hC | exact andL hC | exact andL (andL hC) | exact andL (andL (andL hC)) | exact andR hC | simp_all) (Cert.nilP rfl)) rfl ?_
    refine DOps.gC rfl rfl (fun hC => Cert.ungd (k := 77) rfl (by first | exact hC | exact andL hC | exact andL (andL hC) | exact andL (andL (andL hC)) | exact andR hC | simp_all) (Cert.fieldP (Try.tab_ok _ _ rfl) rfl rfl (Try.tab_ok _ _ rfl) rfl rfl)) rfl ?_
    refine DOps.gC rfl rfl (fun hC => Cert.ungd (k := 78) rfl (by first | exact hC | exact andL hC | exact andL (andL hC) | exact andL (andL (andL hC)) | exact andR hC | simp_all) (Cert.loadP (Try.tab_ok _ _ rfl) rfl rfl hpG rfl)) rfl ?_
    refine DOps.gC rfl rfl (fun hC => Cert.fieldV (Try.tab_ok _ _ rfl) rfl rfl (Try.tab_ok _ _ rfl) rfl rfl (by conv => lhs; whnf)) rfl ?_
    refine DOps.gC rfl rfl (fun hC => Cert.ungd (k := 80) rfl (by first | exact hC | exact andL hC | exact andL (andL hC) | exact andL (andL (andL hC)) | exact andR hC | simp_all) (Cert.loadV (Try.tab_ok _ _ rfl) rfl rfl rfl)) rfl ?_
    obtain ⟨x26, gx26, hE⟩ := guardO_some hE
    refine DOps.gC rfl rfl (fun hC => Cert.ungd (k := 79) rfl (by first | exact hC | exact andL hC | exact andL (andL hC) | exact andL (andL (andL hC)) | exact andR hC | simp_all) (Cert.ungd (k := 81) rfl (by first | exact hC | exact andL hC | exact andL (andL hC) | exact andL (andL (andL hC)) | exact andR hC | simp_all) (Cert.callP rfl rfl (fun H => schema_Composite_walk (gx26 hC) H)))) rfl ?_
    refine DOps.gC rfl rfl (fun hC => Cert.ungd (k := 82) rfl (by first | exact hC | exact andL hC | exact andL (andL hC) | exact andL (andL (andL hC)) | exact andR hC | simp_all) (Cert.move (by conv => lhs; whnf))) rfl ?_
    refine DOps.gC rfl rfl (fun hC => Cert.fieldV (Try.tab_ok _ _ rfl) rfl rfl (Try.tab_ok _ _ rfl) rfl rfl (by conv => lhs; whnf)) rfl ?_
    refine DOps.gC rfl rfl (fun hC => Cert.ungd (k := 84) rfl (by first | exact hC | exact andL hC | exact andL (andL hC) | exact andL (andL (andL hC)) | exact andR hC | simp_all) (Cert.loadV (Try.tab_ok _ _ rfl) rfl rfl (congrArg (fun x => some (A.d x)) (TSel.FSelsD_eq _)))) rfl ?_
    refine DOps.gC rfl rfl (fun hC => Cert.ungd (k := 85) rfl (by first | exact hC | exact andL hC | exact andL (andL hC) | exact andL (andL (andL hC)) | exact andR hC | simp_all) (Cert.lenM' (f := TSel.c) (s := a1.FSels) (Try.tab_ok _ _ rfl) rfl rfl rfl)) rfl ?_
    refine DOps.gC rfl rfl (fun hC => Cert.ungd (k := 86) rfl (by first | exact hC | exact andL hC | exact andL (andL hC) | exact andL (andL (andL hC)) | exact andR hC | simp_all) (Cert.binI rfl rfl rfl)) rfl ?_
    refine DOps.gC rfl rfl (fun hC => Cert.ungd (k := 83) rfl (by first | exact hC | exact andL hC | exact andL (andL hC) | exact andL (andL (andL hC)) | exact andR hC | simp_all) (Cert.pickAnd rfl rfl (fun h => by first | exact h | exact notT h | exact andI hC h | exact andI hC (notT h) | simp_all) rfl)) rfl ?_
    refine DOps.s0 (Cert.pickOr rfl rfl rfl (fun h => by first | exact h | exact notT h | exact andI hC h | exact andI hC (notT h) | simp_all)) rfl ?_
    refine DOps.s0 (Cert.move (by conv => lhs; whnf)) rfl ?_
    obtain ⟨x27, gx27, hE⟩ := bindO_some hE
    refine DOps.sH (Cert.callH rfl rfl (fields_checker_add_walk gx27 _ hpG hpG)) rfl ?_
    refine DOps.heq (h' := ((H.set c0_2 (some (.tok 2 x27.Fout.l.length))).set c0 (some (.cells (Fields_checker.cg (some c0_2) x27))))) (by first | rfl | (rw [Heap.set_set]; rfl) | (funext n_; simp only [Heap.set]; (repeat' split) <;> first | rfl | (exfalso; simp_all; done) | (simp_all; done))) ?_
    refine DOps.nil (by decide +kernel) ?_
    refine hK25 _ ?_
    clear hK25 K25
    refine AWp.seqK fun K28 hK28 => ?_
    refine AWp.region ?_
    refine AOps.s0 (Cert.move (by conv => lhs; whnf)) rfl ?_
    refine AOps.s0 (Cert.nilP rfl) rfl ?_
    refine AOps.s0 (Cert.fieldP (Try.tab_ok _ _ rfl) rfl rfl (Try.tab_ok _ _ rfl) rfl rfl) rfl ?_
    refine AOps.s0 (Cert.loadP (Try.tab_ok _ _ rfl) rfl rfl hpG rfl) rfl ?_
    refine AOps.s0 (Cert.move (by conv => lhs; whnf)) rfl ?_
    obtain ⟨x29, gx29, hE⟩ := bindO_some hE
    refine AOps.s0 (Cert.callP rfl rfl (fun H => schema_Find_walk gx29 H)) rfl ?_
    refine AOps.s0 (Cert.move (by conv => lhs; whnf)) rfl ?_
    refine AOps.s0 (Cert.extract rfl rfl) rfl ?_
    refine AOps.s0 (Cert.extract rfl rfl) rfl ?_
    refine AOps.sL (Cert.allocL (Try.tab_ok _ _ rfl) rfl (by repeat (first | exact Snoc.nil | apply Snoc.cons))) rfl ?_
    refine AOps.sLn (Cert.storeLF (Try.tab_ok _ _ rfl) rfl rfl rfl rfl rfl (by repeat (first | exact SetAt.zero | apply SetAt.succ))) ?_
    refine AOps.s0 (Cert.assign (by conv => lhs; whnf)) rfl ?_
    refine AOps.nil ?_
    refine hK28 _ ?_
    clear hK28 K28
    refine AWp.freeze 12 _ rfl (by repeat (first | exact Snoc.nil | apply Snoc.cons)) (Keeps.c (k := 0) (by conv => lhs; whnf) (by rfl) (Keeps.c (k := 3) (by conv => lhs; whnf) (by rfl) (Keeps.c (k := 5) (by conv => lhs; whnf) (by rfl) (Keeps.c (k := 9) (by conv => lhs; whnf) (by rfl) (Keeps.c (k := 10) (by conv => lhs; whnf) (by rfl) Keeps.nil))))) ?_
    refine AWp.seqK fun K30 hK30 => ?_
    refine AWp.region ?_
    refine AOps.s0 (Cert.build Try.tab_ok rfl rfl rfl rfl rfl rfl) rfl ?_
    refine AOps.sL (Cert.allocL (Try.tab_ok _ _ rfl) rfl (by repeat (first | exact Snoc.nil | apply Snoc.cons))) rfl ?_
    refine AOps.sLn (Cert.storeLF (Try.tab_ok _ _ rfl) rfl rfl rfl rfl rfl (by repeat (first | exact SetAt.zero | apply SetAt.succ))) ?_
    refine AOps.nil ?_
    refine hK30 _ ?_
    clear hK30 K30
    refine AWp.seqJ (KeepsT.cons (k := 0) (by conv => lhs; whnf) (KeepsT.cons (k := 3) (by conv => lhs; whnf) (KeepsT.cons (k := 5) (by conv => lhs; whnf) (KeepsT.cons (k := 9) (by conv => lhs; whnf) (KeepsT.cons (k := 10) (by conv => lhs; whnf) (KeepsT.cons (k := 14) (by conv => lhs; whnf) KeepsT.nil)))))) (fun (z : TField) => []) (fun z => [TField.c z]) (fun z => ((H.set c0_2 (some (.tok 2 x27.Fout.l.length))).set c0 (some (.cells (Fields_checker.cg (some c0_2) x27))))) (fun z => fields_checker_field_j31 a0 a1 a2 a3 s8_4 x6 x7 x9 x10 x12 x14 x15 x24 x26 x27 x29 (fields_checker_sels_n n) z = some r) ?_ ?_
    ·intro K31 hK31
     refine AWp.seqK fun K50 hK50 => ?_
     refine AWp.region ?_
     refine AOps.s0 (Cert.fieldV (Try.tab_ok _ _ rfl) rfl rfl (Try.tab_ok _ _ rfl) rfl rfl (by conv => lhs; whnf)) rfl ?_
     refine AOps.s0 (Cert.loadV (Try.tab_ok _ _ rfl) rfl rfl rfl) rfl ?_
     refine AOps.s0 (Cert.binS rfl rfl rfl) rfl ?_
     refine AOps.nil ?_
     refine hK50 _ ?_
     clear hK50 K50
     refine AWp.cond rfl (fun hc51 => ?_) (fun hc51 => ?_)
     ·have hE := condT hc51 hE
      try dsimp only at hc51
      refine AWp.region ?_
      refine AOps.s0 (Cert.loadV (Try.tab_ok _ _ rfl) rfl rfl rfl) rfl ?_
      refine AOps.s0 (Cert.fieldV (Try.tab_ok _ _ rfl) rfl rfl (Try.tab_ok _ _ rfl) rfl rfl (by conv => lhs; whnf)) rfl ?_
      refine AOps.s0 (Cert.loadV (Try.tab_ok _ _ rfl) rfl rfl rfl) rfl ?_
      obtain ⟨x52, gx52, hE⟩ := bindO_some hE
      refine AOps.s0 (Cert.callP rfl rfl (fun H => schema_FieldOf_walk gx52 H)) rfl ?_
      refine AOps.s0 (Cert.move (by conv => lhs; whnf)) rfl ?_
      refine AOps.s0 (Cert.extract rfl rfl) rfl ?_
      refine AOps.s0 (Cert.extract rfl rfl) rfl ?_
      refine AOps.sLn (Cert.storeLF (Try.tab_ok _ _ rfl) rfl rfl rfl rfl rfl (by repeat (first | exact SetAt.zero | apply SetAt.succ))) ?_
      refine AOps.nil ?_
      exact hK31 _ x52.1 Weak.toA hE
     ·have hE := condF hc51 hE
      try dsimp only at hc51
      refine AWp.skip ?_
      exact hK31 _ (TField.mk ([] : Bs) (Sl.nil : Sl TInput) TRef.zero (Sl.nil : Sl TDir)) Weak.toA hE
    ·rintro y32_l0 hE
     try dsimp only at hE
     unfold fields_checker_field_j31 at hE
     refine AWp.seqK fun K33 hK33 => ?_
     refine AWp.region ?_
     refine AOps.s0 (Cert.move (by conv => lhs; whnf)) rfl ?_
     refine AOps.s0 (Cert.fieldL (Try.tab_ok _ _ rfl) rfl rfl (Try.tab_ok _ _ rfl) rfl rfl) rfl ?_
     refine AOps.s0 (Cert.loadL (Try.tab_ok _ _ rfl) rfl rfl rfl rfl) rfl ?_
     refine AOps.s0 (Cert.fieldV (Try.tab_ok _ _ rfl) rfl rfl (Try.tab_ok _ _ rfl) rfl rfl (by conv => lhs; whnf)) rfl ?_
     refine AOps.s0 (Cert.loadV (Try.tab_ok _ _ rfl) rfl rfl rfl) rfl ?_
     refine AOps.s0 (Cert.move (by conv => lhs; whnf)) rfl ?_
     obtain ⟨x34, gx34, hE⟩ := bindO_some hE
     refine AOps.sH (Cert.callH rfl rfl (fields_checker_known_walk gx34 _ hpG hpG)) rfl ?_
     refine AOps.heq (h' := ((H.set c0_2 (some (.tok 2 x34.Fout.l.length))).set c0 (some (.cells (Fields_checker.cg (some c0_2) x34))))) (by first | rfl | (rw [Heap.set_set]; rfl) | (funext n_; simp only [Heap.set]; (repeat' split) <;> first | rfl | (exfalso; simp_all; done) | (simp_all; done))) ?_
     refine AOps.nil ?_
     refine hK33 _ ?_
     clear hK33 K33
     refine AWp.seqK fun K35 hK35 => ?_
     refine AWp.region ?_
     refine AOps.s0 (Cert.fieldL (Try.tab_ok _ _ rfl) rfl rfl (Try.tab_ok _ _ rfl) rfl rfl) rfl ?_
     refine AOps.s0 (Cert.loadL (Try.tab_ok _ _ rfl) rfl rfl rfl rfl) rfl ?_
     refine AOps.sLen (f := TInput.c) (s := y32_l0.FArgs) (Try.tab_ok _ _ rfl) rfl rfl rfl rfl fun hL36 => ?_
     refine AOps.s0 (Cert.move (by conv => lhs; whnf)) rfl ?_
     refine AOps.nil ?_
     refine hK35 _ ?_
     clear hK35 K35
     refine AWp.block ?_
     refine AWp.loopH (KeepsT.cons (k := 0) (by conv => lhs; whnf) (KeepsT.cons (k := 3) (by conv => lhs; whnf) (KeepsT.cons (k := 5) (by conv => lhs; whnf) (KeepsT.cons (k := 9) (by conv => lhs; whnf) (KeepsT.cons (k := 10) (by conv => lhs; whnf) (KeepsT.cons (k := 120) (by conv => lhs; whnf) (KeepsT.cons (k := 121) (by conv => lhs; whnf) KeepsT.nil))))))) (fun (z : Nat × Nat × Fields_checker) => [(122, .a (.d (.int .i64 ((z.2.1 : Nat) : Int))))]) (fun z => ((H.set c0_2 (some (.tok 2 z.2.2.Fout.l.length))).set c0 (some (.cells (Fields_checker.cg (some c0_2) z.2.2))))) (fun z => z.1) (fun z => fields_checker_field_l37 a0 a1 a2 a3 s8_4 x6 x7 x9 x10 x12 x14 x15 x24 x26 x27 x29 y32_l0 x34 (fields_checker_sels_n n) z.1 z.2.1 z.2.2 = some r) ((y32_l0.FArgs.l.length + 1), 0, x34) hE Weak.toA ?_
     rintro ⟨n37, s122_38, y39_c0⟩ hE K37 hK37
     try dsimp only at hE
     cases n37 with
     | zero => cases hE
     | succ n37 =>
       rw [fields_checker_field_l37] at hE
       refine AWp.seqK fun K40 hK40 => ?_
       refine AWp.region ?_
       refine AOps.s0 (Cert.binI rfl rfl rfl) rfl ?_
       refine AOps.nil ?_
       refine hK40 _ ?_
       clear hK40 K40
       refine AWp.seqK fun K41 hK41 => ?_
       refine AWp.cond rfl (fun hc42 => ?_) (fun hc42 => ?_)
       ·have hE := condT hc42 hE
        try dsimp only at hc42
        have hf42 := of_decide_eq_true hc42
        refine AWp.skip ?_
        refine hK41 _ ?_
        clear hK41 K41
        refine AWp.seqK fun K43 hK43 => ?_
        refine AWp.block ?_
        refine AWp.seqK fun K44 hK44 => ?_
        refine AWp.region ?_
        obtain ⟨x45, gx45, hE⟩ := bindO_some hE
        refine AOps.s0 (Cert.idxMn (f := TInput.c) (n := s122_38) (Try.tab_ok _ _ rfl) rfl (Try.tab_ok _ _ rfl) rfl rfl rfl gx45) rfl ?_
        refine AOps.s0 (Cert.loadV (Try.tab_ok _ _ rfl) rfl rfl rfl) rfl ?_
        refine AOps.sL (Cert.allocL (Try.tab_ok _ _ rfl) rfl (by repeat (first | exact Snoc.nil | apply Snoc.cons))) rfl ?_
        refine AOps.sLn (Cert.storeLF (Try.tab_ok _ _ rfl) rfl rfl rfl rfl rfl (by repeat (first | exact SetAt.zero | apply SetAt.succ))) ?_
        refine AOps.nil ?_
        refine hK44 _ ?_
        clear hK44 K44
        refine AWp.freeze 16 _ rfl (by repeat (first | exact Snoc.nil | apply Snoc.cons)) (Keeps.c (k := 0) (by conv => lhs; whnf) (by rfl) (Keeps.c (k := 3) (by conv => lhs; whnf) (by rfl) (Keeps.c (k := 5) (by conv => lhs; whnf) (by rfl) (Keeps.c (k := 9) (by conv => lhs; whnf) (by rfl) (Keeps.c (k := 10) (by conv => lhs; whnf) (by rfl) (Keeps.c (k := 120) (by conv => lhs; whnf) (by rfl) (Keeps.c (k := 121) (by conv => lhs; whnf) (by rfl) (Keeps.c (k := 122) (by conv => lhs; whnf) (by rfl) Keeps.nil)))))))) ?_
        refine AWp.seqK fun K46 hK46 => ?_
        refine AWp.region ?_
        refine AOps.s0 (Cert.fieldV (Try.tab_ok _ _ rfl) rfl rfl (Try.tab_ok _ _ rfl) rfl rfl (by conv => lhs; whnf)) rfl ?_
        refine AOps.s0 (Cert.loadV (Try.tab_ok _ _ rfl) rfl rfl rfl) rfl ?_
        refine AOps.s0 (Cert.fieldV (Try.tab_ok _ _ rfl) rfl rfl (Try.tab_ok _ _ rfl) rfl rfl (by conv => lhs; whnf)) rfl ?_
        refine AOps.s0 (Cert.loadV (Try.tab_ok _ _ rfl) rfl rfl rfl) rfl ?_
        obtain ⟨x47, gx47, hE⟩ := bindO_some hE
        refine AOps.s0 (Cert.callP rfl rfl (fun H => fields_given_walk gx47 H)) rfl ?_
        refine AOps.s0 (Cert.move (by conv => lhs; whnf)) rfl ?_
        refine AOps.s0 (Cert.extract rfl rfl) rfl ?_
        refine AOps.s0 (Cert.extract rfl rfl) rfl ?_
        refine AOps.sL (Cert.allocL (Try.tab_ok _ _ rfl) rfl (by repeat (first | exact Snoc.nil | apply Snoc.cons))) rfl ?_
        refine AOps.sLn (Cert.storeLF (Try.tab_ok _ _ rfl) rfl rfl rfl rfl rfl (by repeat (first | exact SetAt.zero | apply SetAt.succ))) ?_
        refine AOps.s0 (Cert.assign (by conv => lhs; whnf)) rfl ?_
        refine AOps.nil ?_
        refine hK46 _ ?_
        clear hK46 K46
        refine AWp.freeze 17 _ rfl (by repeat (first | exact Snoc.nil | apply Snoc.cons)) (Keeps.c (k := 0) (by conv => lhs; whnf) (by rfl) (Keeps.c (k := 3) (by conv => lhs; whnf) (by rfl) (Keeps.c (k := 5) (by conv => lhs; whnf) (by rfl) (Keeps.c (k := 9) (by conv => lhs; whnf) (by rfl) (Keeps.c (k := 10) (by conv => lhs; whnf) (by rfl) (Keeps.c (k := 16) (by conv => lhs; whnf) (by rfl) (Keeps.c (k := 18) (by conv => lhs; whnf) (by rfl) (Keeps.c (k := 120) (by conv => lhs; whnf) (by rfl) (Keeps.c (k := 121) (by conv => lhs; whnf) (by rfl) (Keeps.c (k := 122) (by conv => lhs; whnf) (by rfl) Keeps.nil)))))))))) ?_
        refine AWp.region ?_
        refine AOps.s0 (Cert.move (by conv => lhs; whnf)) rfl ?_
        refine AOps.s0 (Cert.fieldV (Try.tab_ok _ _ rfl) rfl rfl (Try.tab_ok _ _ rfl) rfl rfl (by conv => lhs; whnf)) rfl ?_
        refine AOps.s0 (Cert.loadV (Try.tab_ok _ _ rfl) rfl rfl rfl) rfl ?_
        obtain ⟨x48, gx48, hE⟩ := bindO_some hE
        refine AOps.s0 (Cert.callP rfl rfl (fun H => typeref_IsNonNull_walk gx48 H)) rfl ?_
        refine AOps.s0 (Cert.move (by conv => lhs; whnf)) rfl ?_
        refine AOps.gC rfl rfl (fun hC => Cert.fieldV (Try.tab_ok _ _ rfl) rfl rfl (Try.tab_ok _ _ rfl) rfl rfl (by conv => lhs; whnf)) rfl ?_
        refine AOps.gC rfl rfl (fun hC => Cert.ungd (k := 139) rfl (by first | exact hC | exact andL hC | exact andL (andL hC) | exact andL (andL (andL hC)) | exact andR hC | simp_all) (Cert.loadV (Try.tab_ok _ _ rfl) rfl rfl rfl)) rfl ?_
        refine AOps.gC rfl rfl (fun hC => Cert.ungd (k := 140) rfl (by first | exact hC | exact andL hC | exact andL (andL hC) | exact andL (andL (andL hC)) | exact andR hC | simp_all) (Cert.notB rfl)) rfl ?_
        refine AOps.s0 (Cert.pickAnd rfl rfl (fun h => by first | exact h | exact notT h | exact andI hC h | exact andI hC (notT h) | simp_all) rfl) rfl ?_
        refine AOps.s0 (Cert.move (by conv => lhs; whnf)) rfl ?_
        refine AOps.gC rfl rfl (fun hC => Cert.move (by conv => lhs; whnf)) rfl ?_
        refine AOps.gC rfl rfl (fun hC => Cert.ungd (k := 144) rfl (by first | exact hC | exact andL hC | exact andL (andL hC) | exact andL (andL (andL hC)) | exact andR hC | simp_all) (Cert.notB rfl)) rfl ?_
        refine AOps.s0 (Cert.pickAnd rfl rfl (fun h => by first | exact h | exact notT h | exact andI hC h | exact andI hC (notT h) | simp_all) rfl) rfl ?_
        refine AOps.s0 (Cert.move (by conv => lhs; whnf)) rfl ?_
        obtain ⟨x49, gx49, hE⟩ := bindO_some hE
        refine AOps.sH (Cert.callH rfl rfl (fields_checker_add_walk gx49 _ hpG hpG)) rfl ?_
        refine AOps.heq (h' := ((H.set c0_2 (some (.tok 2 x49.Fout.l.length))).set c0 (some (.cells (Fields_checker.cg (some c0_2) x49))))) (by first | rfl | (rw [Heap.set_set]; rfl) | (funext n_; simp only [Heap.set]; (repeat' split) <;> first | rfl | (exfalso; simp_all; done) | (simp_all; done))) ?_
        refine AOps.nil ?_
        refine hK43 _ ?_
        clear hK43 K43
        refine AWp.region ?_
        refine AOps.s0 (Cert.addI rfl rfl (by first | omega | (dsimp only; omega)) (by first | omega | (dsimp only; omega))) rfl ?_
        refine AOps.s0 (Cert.move (by conv => lhs; whnf)) rfl ?_
        refine AOps.nil ?_
        exact hK37 _ (n37, (s122_38 + 1), x49) Weak.toA hE (Nat.lt_succ_self _)
       ·have hE := condF hc42 hE
        try dsimp only at hc42
        refine AWp.exit ?_
        exact hK16 _ y39_c0 Weak.toA hE
   ·have hE := condF hc22 hE
    try dsimp only at hc22
    refine AWp.skip ?_
    exact hK16 _ x15 Weak.toA hE
  ·rintro y17_c0 hE
   try dsimp only at hE
   unfold fields_checker_field_j16 at hE
   refine AWp.seqK fun K18 hK18 => ?_
   refine AWp.region ?_
   refine AOps.s0 (Cert.move (by conv => lhs; whnf)) rfl ?_
   refine AOps.s0 (Cert.loadV (Try.tab_ok _ _ rfl) rfl rfl rfl) rfl ?_
   refine AOps.s0 (Cert.loadV (Try.tab_ok _ _ rfl) rfl rfl rfl) rfl ?_
   refine AOps.s0 (Cert.move (by conv => lhs; whnf)) rfl ?_
   refine AOps.s0 (Cert.move (by conv => lhs; whnf)) rfl ?_
   obtain ⟨x19, gx19, hE⟩ := bindO_some hE
   refine AOps.sH (Cert.callH rfl rfl (fields_checker_dirs_walk gx19 _ hpG hpG)) rfl ?_
   refine AOps.heq (h' := ((H.set c0_2 (some (.tok 2 x19.Fout.l.length))).set c0 (some (.cells (Fields_checker.cg (some c0_2) x19))))) (by first | rfl | (rw [Heap.set_set]; rfl) | (funext n_; simp only [Heap.set]; (repeat' split) <;> first | rfl | (exfalso; simp_all; done) | (simp_all; done))) ?_
   refine AOps.nil ?_
   refine hK18 _ ?_
   clear hK18 K18
   refine AWp.region ?_
   refine AOps.s0 (Cert.move (by conv => lhs; whnf)) rfl ?_
   refine AOps.s0 (Cert.fieldV (Try.tab_ok _ _ rfl) rfl rfl (Try.tab_ok _ _ rfl) rfl rfl (by conv => lhs; whnf)) rfl ?_
   refine AOps.s0 (Cert.loadV (Try.tab_ok _ _ rfl) rfl rfl (congrArg (fun x => some (A.d x)) (TSel.FSelsD_eq _))) rfl ?_
   refine AOps.s0 (Cert.fieldV (Try.tab_ok _ _ rfl) rfl rfl (Try.tab_ok _ _ rfl) rfl rfl (by conv => lhs; whnf)) rfl ?_
   refine AOps.s0 (Cert.loadV (Try.tab_ok _ _ rfl) rfl rfl rfl) rfl ?_
   refine AOps.s0 (Cert.move (by conv => lhs; whnf)) rfl ?_
   obtain ⟨x20, gx20, hE⟩ := bindO_some hE
   refine AOps.sH (Cert.callH rfl rfl (ih_32 gx20 _ hpG hpG)) rfl ?_
   refine AOps.heq (h' := ((H.set c0_2 (some (.tok 2 x20.Fout.l.length))).set c0 (some (.cells (Fields_checker.cg (some c0_2) x20))))) (by first | rfl | (rw [Heap.set_set]; rfl) | (funext n_; simp only [Heap.set]; (repeat' split) <;> first | rfl | (exfalso; simp_all; done) | (simp_all; done))) ?_
   refine AOps.nil ?_
   repeat (first | refine xBlock_normal ?_ | refine xThen_exit ?_ | refine xBlock_exit ?_)
   obtain rfl := Option.some.inj hE
   refine retQ.normalF ((H.set c0_2 (some (.tok 2 x20.Fout.l.length))).set c0 (some (.cells (Fields_checker.cg (some c0_2) x20)))) (xs := []) rfl ⟨rfl, rfl⟩ ?_
   exact (fun _ _ h => h)
theorem fields_checker_sels_all : ∀ (n : Nat), (∀ {a0 : Fields_checker} {a1 : (Sl TSel)} {a2 : Bs} {a3 : Bs} {w1 : Option Nat} {c0 : Nat} {c0_2 : Nat} {r : Fields_checker}, fields_checker_sels_n n a0 a1 a2 a3 = some r → ∀ (H : Heap) (hc0 : H c0 = some (.cells (Fields_checker.cg (some c0_2) a0))) (ht0_2 : H c0_2 = some (.tok 2 a0.Fout.l.length)), ACalls Try.prog 32 [.d (.ptr c0 0), .d (Sl.d 7 TSel.c w1 a1), .d (.str a2), .d (.str a3)] H fun v h' => v = .tup [] ∧ h' = ((H.set c0_2 (some (.tok 2 r.Fout.l.length))).set c0 (some (.cells (Fields_checker.cg (some c0_2) r))))) ∧ (∀ {a0 : Fields_checker} {a1 : TSel} {a2 : Bs} {a3 : Bs}  {c0 : Nat} {c0_2 : Nat} {r : Fields_checker}, fields_checker_field_n n a0 a1 a2 a3 = some r → ∀ (H : Heap) (hc0 : H c0 = some (.cells (Fields_checker.cg (some c0_2) a0))) (ht0_2 : H c0_2 = some (.tok 2 a0.Fout.l.length)), ACalls Try.prog 46 [.d (.ptr c0 0), .agg (TSel.c a1), .d (.str a2), .d (.str a3)] H fun v h' => v = .tup [] ∧ h' = ((H.set c0_2 (some (.tok 2 r.Fout.l.length))).set c0 (some (.cells (Fields_checker.cg (some c0_2) r)))))
 | 0 => ⟨fun hE => by first | cases hE | (rw [fields_checker_sels_n] at hE; cases hE), fun hE => by first | cases hE | (rw [fields_checker_field_n] at hE; cases hE)⟩
 | n + 1 => ⟨fields_checker_sels_step n (fields_checker_sels_all n).1 (fields_checker_sels_all n).2, fields_checker_field_step n (fields_checker_sels_all n).1 (fields_checker_sels_all n).2⟩
def fields_checker_sels (a0 : Fields_checker) (a1 : (Sl TSel)) (a2 : Bs) (a3 : Bs) : Option Fields_checker := fields_checker_sels_n F0 a0 a1 a2 a3
theorem fields_checker_sels_walk {a0 : Fields_checker} {a1 : (Sl TSel)} {a2 : Bs} {a3 : Bs} {w1 : Option Nat} {c0 : Nat} {c0_2 : Nat} {r : Fields_checker} (hE : fields_checker_sels a0 a1 a2 a3 = some r) (H : Heap) (hc0 : H c0 = some (.cells (Fields_checker.cg (some c0_2) a0))) (ht0_2 : H c0_2 = some (.tok 2 a0.Fout.l.length)) : ACalls Try.prog 32 [.d (.ptr c0 0), .d (Sl.d 7 TSel.c w1 a1), .d (.str a2), .d (.str a3)] H fun v h' => v = .tup [] ∧ h' = ((H.set c0_2 (some (.tok 2 r.Fout.l.length))).set c0 (some (.cells (Fields_checker.cg (some c0_2) r)))) := (fields_checker_sels_all F0).1 hE H hc0 ht0_2
def fields_checker_field (a0 : Fields_checker) (a1 : TSel) (a2 : Bs) (a3 : Bs) : Option Fields_checker := fields_checker_field_n F0 a0 a1 a2 a3
theorem fields_checker_field_walk {a0 : Fields_checker} {a1 : TSel} {a2 : Bs} {a3 : Bs}  {c0 : Nat} {c0_2 : Nat} {r : Fields_checker} (hE : fields_checker_field a0 a1 a2 a3 = some r) (H : Heap) (hc0 : H c0 = some (.cells (Fields_checker.cg (some c0_2) a0))) (ht0_2 : H c0_2 = some (.tok 2 a0.Fout.l.length)) : ACalls Try.prog 46 [.d (.ptr c0 0), .agg (TSel.c a1), .d (.str a2), .d (.str a3)] H fun v h' => v = .tup [] ∧ h' = ((H.set c0_2 (some (.tok 2 r.Fout.l.length))).set c0 (some (.cells (Fields_checker.cg (some c0_2) r)))) := (fields_checker_sels_all F0).2 hE H hc0 ht0_2
def fields_Check_j7 (a0 : TDoc) (a1 : TQuery) (y6_id18_3 : Fields_checker)  (y8_id18_3 : Fields_checker) : Option (Sl TFault) := some y8_id18_3.Fout
def fields_Check_l12 (a0 : TDoc) (a1 : TQuery) (y6_id18_3 : Fields_checker)  : Nat → Nat → Fields_checker → Option (Sl TFault)
 | 0, _, _ => none
 | n12 + 1, s75_13, y14_id18_3 => bif (decide (((s75_13 : Nat) : Int) < ((a1.FFrags.l.length : Nat) : Int))) then ((a1.FFrags.l[s75_13]?).bind fun x20 => (fields_checker_sels y14_id18_3 x20.FSels x20.FOn x20.FName).bind fun x21 => (fields_Check_l12 a0 a1 y6_id18_3 n12) (s75_13 + 1) x21) else (fields_Check_j7 a0 a1 y6_id18_3  y14_id18_3)
def fields_Check_j5 (a0 : TDoc) (a1 : TQuery)  (y6_id18_3 : Fields_checker) : Option (Sl TFault) := fields_Check_l12 a0 a1 y6_id18_3 (a1.FFrags.l.length + 1) 0 y6_id18_3
def fields_Check_l24 (a0 : TDoc) (a1 : TQuery)  : Nat → Nat → Fields_checker → Option (Sl TFault)
 | 0, _, _ => none
 | n24 + 1, s22_25, y26_id18_3 => bif (decide (((s22_25 : Nat) : Int) < ((a1.FOps.l.length : Nat) : Int))) then ((a1.FOps.l[s22_25]?).bind fun x32 => (schema_Root x32.FKind).bind fun x34 => (schema_Find a0 x34).bind fun x36 => (fields_checker_roots y26_id18_3 x32.FSels ([] : List Bs) ([] : List Bs)).bind fun x41 => (fields_checker_add y26_id18_3 (((!x36.2) || (!decide (x36.1.FKind = (1 : Int)))) || ((decide (x32.FKind = (3 : Int))) && (!decide ((((seenM x41.1).length : Nat) : Int) = (1 : Int))))) (30 : Int) x32.FName).bind fun x44 => (fields_checker_sels x44 x32.FSels x34 x32.FName).bind fun x45 => (fields_Check_l24 a0 a1 n24) (s22_25 + 1) x45) else (fields_Check_j5 a0 a1  y26_id18_3)
def fields_Check (a0 : TDoc) (a1 : TQuery) : Option (Sl TFault) := fields_Check_l24 a0 a1 (a1.FOps.l.length + 1) 0 (Fields_checker.mk a0 a1 (Sl.nil : Sl TFault))
set_option maxRecDepth 100000 in
set_option maxHeartbeats 2000000 in
theorem fields_Check_walk {a0 : TDoc} {a1 : TQuery}   {r : (Sl TFault)} (hE : fields_Check a0 a1 = some r) (H : Heap)  : ACalls Try.prog 11 [.agg (TDoc.c a0), .agg (TQuery.c a1)] H fun v h' => v = .a (.d (Sl.d 2 TFault.c none r)) ∧ h' = H := by
 unfold fields_Check at hE
 refine ACalls.of_wp (fn := Try.f11) (c := _) Try.tab_ok (fun _ _ => Try.call11 _ _) Try.func11 rfl (n := 92) rfl (rs := [.tmp 4]) rfl rfl ?_
 refine AWp.seqK fun K1 hK1 => ?_
 refine AWp.region ?_
 refine AOps.s0 (Cert.boxV rfl) rfl ?_
 refine AOps.s0 (Cert.boxV rfl) rfl ?_
 refine AOps.s0 (Cert.assignNil (k' := 2) rfl) rfl ?_
 refine AOps.nil ?_
 refine hK1 _ ?_
 clear hK1 K1
 refine AWp.seqK fun K2 hK2 => ?_
 refine AWp.region ?_
 refine AOps.s0 (Cert.loadV (Try.tab_ok _ _ rfl) rfl rfl rfl) rfl ?_
 refine AOps.s0 (Cert.loadV (Try.tab_ok _ _ rfl) rfl rfl rfl) rfl ?_
 refine AOps.s0 (Cert.build Try.tab_ok rfl rfl rfl rfl rfl rfl) rfl ?_
 refine AOps.tok 2 fun tk18_4 htk18_4 => ?_
 refine AOps.sE (StepE.boxO rfl) rfl (fun _ _ _ ⟨id18_3, hid18_3, e1, e2, e3⟩ => ?_); subst e1 e2 e3
 obtain ⟨ne_id18_3_tk18_4, hid18_3⟩ := Heap.set_fresh hid18_3
 refine AOps.recell id18_3 _ hpG (fun j w cs hh hx => tok_cell 3 2 2 hh (t := tk18_4) hpG hx rfl) ?_
 refine AOps.heq (h' := ((H.set tk18_4 (some (.tok 2 0))).set id18_3 (some (.cells (Fields_checker.cg (some tk18_4) (Fields_checker.mk a0 a1 (Sl.nil : Sl TFault))))))) (by first | rfl | (rw [Heap.set_set]; rfl) | (funext n_; simp only [Heap.set]; (repeat' split) <;> first | rfl | (exfalso; simp_all; done) | (simp_all; done))) ?_
 refine AOps.s0 (Cert.assign (by conv => lhs; whnf)) rfl ?_
 refine AOps.nil ?_
 refine hK2 _ ?_
 clear hK2 K2
 refine AWp.seqJH (KeepsT.cons (k := 3) (by conv => lhs; whnf) (KeepsT.cons (k := 5) (by conv => lhs; whnf) KeepsT.nil)) (fun (z : Fields_checker) => []) (fun z => ((H.set tk18_4 (some (.tok 2 z.Fout.l.length))).set id18_3 (some (.cells (Fields_checker.cg (some tk18_4) z))))) (fun z => fields_Check_j5 a0 a1 z = some r) ?_ ?_
 ·intro K5 hK5
  refine AWp.seqK fun K22 hK22 => ?_
  refine AWp.region ?_
  refine AOps.s0 (Cert.fieldV (Try.tab_ok _ _ rfl) rfl rfl (Try.tab_ok _ _ rfl) rfl rfl (by conv => lhs; whnf)) rfl ?_
  refine AOps.s0 (Cert.loadV (Try.tab_ok _ _ rfl) rfl rfl rfl) rfl ?_
  refine AOps.sLen (f := TOp.c) (s := a1.FOps) (Try.tab_ok _ _ rfl) rfl rfl rfl rfl fun hL23 => ?_
  refine AOps.s0 (Cert.move (by conv => lhs; whnf)) rfl ?_
  refine AOps.nil ?_
  refine hK22 _ ?_
  clear hK22 K22
  refine AWp.block ?_
  refine AWp.loopH (KeepsT.cons (k := 2) (by conv => lhs; whnf) (KeepsT.cons (k := 3) (by conv => lhs; whnf) (KeepsT.cons (k := 5) (by conv => lhs; whnf) (KeepsT.cons (k := 20) (by conv => lhs; whnf) (KeepsT.cons (k := 21) (by conv => lhs; whnf) KeepsT.nil))))) (fun (z : Nat × Nat × Fields_checker) => [(22, .a (.d (.int .i64 ((z.2.1 : Nat) : Int))))]) (fun z => ((H.set tk18_4 (some (.tok 2 z.2.2.Fout.l.length))).set id18_3 (some (.cells (Fields_checker.cg (some tk18_4) z.2.2))))) (fun z => z.1) (fun z => fields_Check_l24 a0 a1 z.1 z.2.1 z.2.2 = some r) ((a1.FOps.l.length + 1), 0, (Fields_checker.mk a0 a1 (Sl.nil : Sl TFault))) hE Weak.toA ?_
  rintro ⟨n24, s22_25, y26_id18_3⟩ hE K24 hK24
  try dsimp only at hE
  cases n24 with
  | zero => cases hE
  | succ n24 =>
    rw [fields_Check_l24] at hE
    refine AWp.seqK fun K27 hK27 => ?_
    refine AWp.region ?_
    refine AOps.s0 (Cert.binI rfl rfl rfl) rfl ?_
    refine AOps.nil ?_
    refine hK27 _ ?_
    clear hK27 K27
    refine AWp.seqK fun K28 hK28 => ?_
    refine AWp.cond rfl (fun hc29 => ?_) (fun hc29 => ?_)
    ·have hE := condT hc29 hE
     try dsimp only at hc29
     have hf29 := of_decide_eq_true hc29
     refine AWp.skip ?_
     refine hK28 _ ?_
     clear hK28 K28
     refine AWp.seqK fun K30 hK30 => ?_
     refine AWp.block ?_
     refine AWp.seqK fun K31 hK31 => ?_
     refine AWp.region ?_
     obtain ⟨x32, gx32, hE⟩ := bindO_some hE
     refine AOps.s0 (Cert.idxMn (f := TOp.c) (n := s22_25) (Try.tab_ok _ _ rfl) rfl (Try.tab_ok _ _ rfl) rfl rfl rfl gx32) rfl ?_
     refine AOps.s0 (Cert.loadV (Try.tab_ok _ _ rfl) rfl rfl rfl) rfl ?_
     refine AOps.sL (Cert.allocL (Try.tab_ok _ _ rfl) rfl (by repeat (first | exact Snoc.nil | apply Snoc.cons))) rfl ?_
     refine AOps.sLn (Cert.storeLF (Try.tab_ok _ _ rfl) rfl rfl rfl rfl rfl (by repeat (first | exact SetAt.zero | apply SetAt.succ))) ?_
     refine AOps.nil ?_
     refine hK31 _ ?_
     clear hK31 K31
     refine AWp.freeze 7 _ rfl (by repeat (first | exact Snoc.nil | apply Snoc.cons)) (Keeps.c (k := 2) (by conv => lhs; whnf) (by rfl) (Keeps.c (k := 3) (by conv => lhs; whnf) (by rfl) (Keeps.c (k := 5) (by conv => lhs; whnf) (by rfl) (Keeps.c (k := 20) (by conv => lhs; whnf) (by rfl) (Keeps.c (k := 21) (by conv => lhs; whnf) (by rfl) (Keeps.c (k := 22) (by conv => lhs; whnf) (by rfl) Keeps.nil)))))) ?_
     refine AWp.seqK fun K33 hK33 => ?_
     refine AWp.region ?_
     refine AOps.s0 (Cert.fieldV (Try.tab_ok _ _ rfl) rfl rfl (Try.tab_ok _ _ rfl) rfl rfl (by conv => lhs; whnf)) rfl ?_
     refine AOps.s0 (Cert.loadV (Try.tab_ok _ _ rfl) rfl rfl rfl) rfl ?_
     obtain ⟨x34, gx34, hE⟩ := bindO_some hE
     refine AOps.s0 (Cert.callP rfl rfl (fun H => schema_Root_walk gx34 H)) rfl ?_
     refine AOps.s0 (Cert.assign (by conv => lhs; whnf)) rfl ?_
     refine AOps.nil ?_
     refine hK33 _ ?_
     clear hK33 K33
     refine AWp.seqK fun K35 hK35 => ?_
     refine AWp.region ?_
     refine AOps.s0 (Cert.loadV (Try.tab_ok _ _ rfl) rfl rfl rfl) rfl ?_
     refine AOps.s0 (Cert.move (by conv => lhs; whnf)) rfl ?_
     obtain ⟨x36, gx36, hE⟩ := bindO_some hE
     refine AOps.s0 (Cert.callP rfl rfl (fun H => schema_Find_walk gx36 H)) rfl ?_
     refine AOps.s0 (Cert.move (by conv => lhs; whnf)) rfl ?_
     refine AOps.s0 (Cert.extract rfl rfl) rfl ?_
     refine AOps.s0 (Cert.extract rfl rfl) rfl ?_
     refine AOps.sL (Cert.allocL (Try.tab_ok _ _ rfl) rfl (by repeat (first | exact Snoc.nil | apply Snoc.cons))) rfl ?_
     refine AOps.sLn (Cert.storeLF (Try.tab_ok _ _ rfl) rfl rfl rfl rfl rfl (by repeat (first | exact SetAt.zero | apply SetAt.succ))) ?_
     refine AOps.s0 (Cert.assign (by conv => lhs; whnf)) rfl ?_
     refine AOps.nil ?_
     refine hK35 _ ?_
     clear hK35 K35
     refine AWp.freeze 9 _ rfl (by repeat (first | exact Snoc.nil | apply Snoc.cons)) (Keeps.c (k := 2) (by conv => lhs; whnf) (by rfl) (Keeps.c (k := 3) (by conv => lhs; whnf) (by rfl) (Keeps.c (k := 5) (by conv => lhs; whnf) (by rfl) (Keeps.c (k := 7) (by conv => lhs; whnf) (by rfl) (Keeps.c (k := 8) (by conv => lhs; whnf) (by rfl) (Keeps.c (k := 10) (by conv => lhs; whnf) (by rfl) (Keeps.c (k := 20) (by conv => lhs; whnf) (by rfl) (Keeps.c (k := 21) (by conv => lhs; whnf) (by rfl) (Keeps.c (k := 22) (by conv => lhs; whnf) (by rfl) Keeps.nil))))))))) ?_
     refine AWp.seqK fun K37 hK37 => ?_
     refine AWp.region ?_
     refine AOps.sE StepE.makeMap rfl (fun _ _ _ ⟨id35_38, hid35_38, e1, e2, e3⟩ => ?_); subst e1 e2 e3
     obtain ⟨ne_id35_38_id18_3, hid35_38⟩ := Heap.set_fresh hid35_38
     obtain ⟨ne_id35_38_tk18_4, hid35_38⟩ := Heap.set_fresh hid35_38
     refine AOps.heq (h' := (((H.set tk18_4 (some (.tok 2 y26_id18_3.Fout.l.length))).set id18_3 (some (.cells (Fields_checker.cg (some tk18_4) y26_id18_3)))).set id35_38 (some (.map (seenM ([] : List Bs)))))) (by first | rfl | (rw [Heap.set_set]; rfl) | (funext n_; simp only [Heap.set]; (repeat' split) <;> first | rfl | (exfalso; simp_all; done) | (simp_all; done))) ?_
     refine AOps.s0 (Cert.assign (by conv => lhs; whnf)) rfl ?_
     refine AOps.nil ?_
     refine hK37 _ ?_
     clear hK37 K37
     refine AWp.seqK fun K39 hK39 => ?_
     refine AWp.region ?_
     refine AOps.s0 (Cert.move (by conv => lhs; whnf)) rfl ?_
     refine AOps.s0 (Cert.fieldV (Try.tab_ok _ _ rfl) rfl rfl (Try.tab_ok _ _ rfl) rfl rfl (by conv => lhs; whnf)) rfl ?_
     refine AOps.s0 (Cert.loadV (Try.tab_ok _ _ rfl) rfl rfl rfl) rfl ?_
     refine AOps.s0 (Cert.move (by conv => lhs; whnf)) rfl ?_
     refine AOps.sE StepE.makeMap rfl (fun _ _ _ ⟨id40_40, hid40_40, e1, e2, e3⟩ => ?_); subst e1 e2 e3
     obtain ⟨ne_id40_40_id35_38, hid40_40⟩ := Heap.set_fresh hid40_40
     obtain ⟨ne_id40_40_id18_3, hid40_40⟩ := Heap.set_fresh hid40_40
     obtain ⟨ne_id40_40_tk18_4, hid40_40⟩ := Heap.set_fresh hid40_40
     refine AOps.heq (h' := ((((H.set tk18_4 (some (.tok 2 y26_id18_3.Fout.l.length))).set id18_3 (some (.cells (Fields_checker.cg (some tk18_4) y26_id18_3)))).set id35_38 (some (.map (seenM ([] : List Bs))))).set id40_40 (some (.map (seenM ([] : List Bs)))))) (by first | rfl | (rw [Heap.set_set]; rfl) | (funext n_; simp only [Heap.set]; (repeat' split) <;> first | rfl | (exfalso; simp_all; done) | (simp_all; done))) ?_
     obtain ⟨x41, gx41, hE⟩ := bindO_some hE
     refine AOps.sH (Cert.callH rfl rfl (fields_checker_roots_walk gx41 _ hpG hpG hpG (by assumption))) rfl ?_
     refine AOps.heq (h' := ((((H.set tk18_4 (some (.tok 2 y26_id18_3.Fout.l.length))).set id18_3 (some (.cells (Fields_checker.cg (some tk18_4) y26_id18_3)))).set id35_38 (some (.map (seenM x41.1)))).set id40_40 (some (.map (seenM x41.2))))) (by first | rfl | (rw [Heap.set_set]; rfl) | (funext n_; simp only [Heap.set]; (repeat' split) <;> first | rfl | (exfalso; simp_all; done) | (simp_all; done))) ?_
     refine AOps.nil ?_
     refine hK39 _ ?_
     clear hK39 K39
     refine AWp.seqK fun K42 hK42 => ?_
     refine AWp.region ?_
     refine AOps.s0 (Cert.move (by conv => lhs; whnf)) rfl ?_
     refine AOps.s0 (Cert.notB rfl) rfl ?_
     refine AOps.s0 (Cert.move (by conv => lhs; whnf)) rfl ?_
     refine AOps.gC rfl rfl (fun hC => Cert.fieldV (Try.tab_ok _ _ rfl) rfl rfl (Try.tab_ok _ _ rfl) rfl rfl (by conv => lhs; whnf)) rfl ?_
     refine AOps.gC rfl rfl (fun hC => Cert.ungd (k := 45) rfl (by first | exact hC | exact andL hC | exact andL (andL hC) | exact andL (andL (andL hC)) | exact andR hC | simp_all) (Cert.loadV (Try.tab_ok _ _ rfl) rfl rfl rfl)) rfl ?_
     refine AOps.gC rfl rfl (fun hC => Cert.ungd (k := 46) rfl (by first | exact hC | exact andL hC | exact andL (andL hC) | exact andL (andL (andL hC)) | exact andR hC | simp_all) (Cert.binI rfl rfl rfl)) rfl ?_
     refine AOps.s0 (Cert.pickOr rfl rfl rfl (fun h => by first | exact h | exact notT h | exact andI hC h | exact andI hC (notT h) | simp_all)) rfl ?_
     refine AOps.s0 (Cert.assign (by conv => lhs; whnf)) rfl ?_
     refine AOps.nil ?_
     refine hK42 _ ?_
     clear hK42 K42
     refine AWp.seqK fun K43 hK43 => ?_
     refine AWp.region ?_
     refine AOps.s0 (Cert.move (by conv => lhs; whnf)) rfl ?_
     refine AOps.s0 (Cert.move (by conv => lhs; whnf)) rfl ?_
     refine AOps.s0 (Cert.move (by conv => lhs; whnf)) rfl ?_
     refine AOps.gC rfl rfl (fun hC => Cert.fieldV (Try.tab_ok _ _ rfl) rfl rfl (Try.tab_ok _ _ rfl) rfl rfl (by conv => lhs; whnf)) rfl ?_
     refine AOps.gC rfl rfl (fun hC => Cert.ungd (k := 52) rfl (by first | exact hC | exact andL hC | exact andL (andL hC) | exact andL (andL (andL hC)) | exact andR hC | simp_all) (Cert.loadV (Try.tab_ok _ _ rfl) rfl rfl rfl)) rfl ?_
     refine AOps.gC rfl rfl (fun hC => Cert.ungd (k := 53) rfl (by first | exact hC | exact andL hC | exact andL (andL hC) | exact andL (andL (andL hC)) | exact andR hC | simp_all) (Cert.binI rfl rfl rfl)) rfl ?_
     refine AOps.gC rfl rfl (fun hC => Cert.ungd (k := 54) rfl (by first | exact hC | exact andL hC | exact andL (andL hC) | exact andL (andL (andL hC)) | exact andR hC | simp_all) (Cert.move (by conv => lhs; whnf))) rfl ?_
     refine AOps.gC rfl rfl (fun hC => Cert.move (by conv => lhs; whnf)) rfl ?_
     refine AOps.gC rfl rfl (fun hC => Cert.ungd (k := 56) rfl (by first | exact hC | exact andL hC | exact andL (andL hC) | exact andL (andL (andL hC)) | exact andR hC | simp_all) (Cert.lenM (Try.tab_ok _ _ rfl) rfl rfl rfl hpG)) rfl ?_
     refine AOps.gC rfl rfl (fun hC => Cert.ungd (k := 57) rfl (by first | exact hC | exact andL hC | exact andL (andL hC) | exact andL (andL (andL hC)) | exact andR hC | simp_all) (Cert.binI rfl rfl rfl)) rfl ?_
     refine AOps.gC rfl rfl (fun hC => Cert.ungd (k := 55) rfl (by first | exact hC | exact andL hC | exact andL (andL hC) | exact andL (andL (andL hC)) | exact andR hC | simp_all) (Cert.pickAnd rfl rfl (fun h => by first | exact h | exact notT h | exact andI hC h | exact andI hC (notT h) | simp_all) rfl)) rfl ?_
     refine AOps.s0 (Cert.pickOr rfl rfl rfl (fun h => by first | exact h | exact notT h | exact andI hC h | exact andI hC (notT h) | simp_all)) rfl ?_
     refine AOps.s0 (Cert.fieldV (Try.tab_ok _ _ rfl) rfl rfl (Try.tab_ok _ _ rfl) rfl rfl (by conv => lhs; whnf)) rfl ?_
     refine AOps.s0 (Cert.loadV (Try.tab_ok _ _ rfl) rfl rfl rfl) rfl ?_
     obtain ⟨x44, gx44, hE⟩ := bindO_some hE
     refine AOps.sH (Cert.callH rfl rfl (fields_checker_add_walk gx44 _ hpG hpG)) rfl ?_
     refine AOps.heq (h' := ((((H.set tk18_4 (some (.tok 2 x44.Fout.l.length))).set id18_3 (some (.cells (Fields_checker.cg (some tk18_4) x44)))).set id35_38 (some (.map (seenM x41.1)))).set id40_40 (some (.map (seenM x41.2))))) (by first | rfl | (rw [Heap.set_set]; rfl) | (funext n_; simp only [Heap.set]; (repeat' split) <;> first | rfl | (exfalso; simp_all; done) | (simp_all; done))) ?_
     refine AOps.nil ?_
     refine hK43 _ ?_
     clear hK43 K43
     refine AWp.region ?_
     refine AOps.s0 (Cert.move (by conv => lhs; whnf)) rfl ?_
     refine AOps.s0 (Cert.fieldV (Try.tab_ok _ _ rfl) rfl rfl (Try.tab_ok _ _ rfl) rfl rfl (by conv => lhs; whnf)) rfl ?_
     refine AOps.s0 (Cert.loadV (Try.tab_ok _ _ rfl) rfl rfl rfl) rfl ?_
     refine AOps.s0 (Cert.move (by conv => lhs; whnf)) rfl ?_
     refine AOps.s0 (Cert.fieldV (Try.tab_ok _ _ rfl) rfl rfl (Try.tab_ok _ _ rfl) rfl rfl (by conv => lhs; whnf)) rfl ?_
     refine AOps.s0 (Cert.loadV (Try.tab_ok _ _ rfl) rfl rfl rfl) rfl ?_
     obtain ⟨x45, gx45, hE⟩ := bindO_some hE
     refine AOps.sH (Cert.callH rfl rfl (fields_checker_sels_walk gx45 _ hpG hpG)) rfl ?_
     refine AOps.heq (h' := ((((H.set tk18_4 (some (.tok 2 x45.Fout.l.length))).set id18_3 (some (.cells (Fields_checker.cg (some tk18_4) x45)))).set id35_38 (some (.map (seenM x41.1)))).set id40_40 (some (.map (seenM x41.2))))) (by first | rfl | (rw [Heap.set_set]; rfl) | (funext n_; simp only [Heap.set]; (repeat' split) <;> first | rfl | (exfalso; simp_all; done) | (simp_all; done))) ?_
     refine AOps.nil ?_
     refine hK30 _ ?_
     clear hK30 K30
     refine AWp.region ?_
     refine AOps.s0 (Cert.addI rfl rfl (by first | omega | (dsimp only; omega)) (by first | omega | (dsimp only; omega))) rfl ?_
     refine AOps.s0 (Cert.move (by conv => lhs; whnf)) rfl ?_
     refine AOps.nil ?_
     exact hK24 _ (n24, (s22_25 + 1), x45) (Weak.toFA (by (intro id_ o_ he_); (have e_id35_38 : id_ ≠ id35_38 := fun e_ => by rw [e_] at he_; simp [Heap.set, hid35_38, ne_id35_38_tk18_4, ne_id35_38_id18_3] at he_); (have e_id40_40 : id_ ≠ id40_40 := fun e_ => by rw [e_] at he_; simp [Heap.set, hid40_40, ne_id40_40_tk18_4, ne_id40_40_id18_3] at he_); (rw [← he_]); (simp only [Heap.set, if_neg e_id35_38, if_neg e_id40_40]); (first | done | rfl))) hE (Nat.lt_succ_self _)
    ·have hE := condF hc29 hE
     try dsimp only at hc29
     refine AWp.exit ?_
     exact hK5 _ y26_id18_3 Weak.toA hE
 ·rintro y6_id18_3 hE
  try dsimp only at hE
  unfold fields_Check_j5 at hE
  refine AWp.seqJH (KeepsT.cons (k := 5) (by conv => lhs; whnf) KeepsT.nil) (fun (z : Fields_checker) => []) (fun z => ((H.set tk18_4 (some (.tok 2 z.Fout.l.length))).set id18_3 (some (.cells (Fields_checker.cg (some tk18_4) z))))) (fun z => fields_Check_j7 a0 a1 y6_id18_3 z = some r) ?_ ?_
  ·intro K7 hK7
   refine AWp.seqK fun K10 hK10 => ?_
   refine AWp.region ?_
   refine AOps.s0 (Cert.fieldV (Try.tab_ok _ _ rfl) rfl rfl (Try.tab_ok _ _ rfl) rfl rfl (by conv => lhs; whnf)) rfl ?_
   refine AOps.s0 (Cert.loadV (Try.tab_ok _ _ rfl) rfl rfl rfl) rfl ?_
   refine AOps.sLen (f := TFrag.c) (s := a1.FFrags) (Try.tab_ok _ _ rfl) rfl rfl rfl rfl fun hL11 => ?_
   refine AOps.s0 (Cert.move (by conv => lhs; whnf)) rfl ?_
   refine AOps.nil ?_
   refine hK10 _ ?_
   clear hK10 K10
   refine AWp.block ?_
   refine AWp.loopH (KeepsT.cons (k := 5) (by conv => lhs; whnf) (KeepsT.cons (k := 73) (by conv => lhs; whnf) (KeepsT.cons (k := 74) (by conv => lhs; whnf) KeepsT.nil))) (fun (z : Nat × Nat × Fields_checker) => [(75, .a (.d (.int .i64 ((z.2.1 : Nat) : Int))))]) (fun z => ((H.set tk18_4 (some (.tok 2 z.2.2.Fout.l.length))).set id18_3 (some (.cells (Fields_checker.cg (some tk18_4) z.2.2))))) (fun z => z.1) (fun z => fields_Check_l12 a0 a1 y6_id18_3 z.1 z.2.1 z.2.2 = some r) ((a1.FFrags.l.length + 1), 0, y6_id18_3) hE Weak.toA ?_
   rintro ⟨n12, s75_13, y14_id18_3⟩ hE K12 hK12
   try dsimp only at hE
   cases n12 with
   | zero => cases hE
   | succ n12 =>
     rw [fields_Check_l12] at hE
     refine AWp.seqK fun K15 hK15 => ?_
     refine AWp.region ?_
     refine AOps.s0 (Cert.binI rfl rfl rfl) rfl ?_
     refine AOps.nil ?_
     refine hK15 _ ?_
     clear hK15 K15
     refine AWp.seqK fun K16 hK16 => ?_
     refine AWp.cond rfl (fun hc17 => ?_) (fun hc17 => ?_)
     ·have hE := condT hc17 hE
      try dsimp only at hc17
      have hf17 := of_decide_eq_true hc17
      refine AWp.skip ?_
      refine hK16 _ ?_
      clear hK16 K16
      refine AWp.seqK fun K18 hK18 => ?_
      refine AWp.block ?_
      refine AWp.seqK fun K19 hK19 => ?_
      refine AWp.region ?_
      obtain ⟨x20, gx20, hE⟩ := bindO_some hE
      refine AOps.s0 (Cert.idxMn (f := TFrag.c) (n := s75_13) (Try.tab_ok _ _ rfl) rfl (Try.tab_ok _ _ rfl) rfl rfl rfl gx20) rfl ?_
      refine AOps.s0 (Cert.loadV (Try.tab_ok _ _ rfl) rfl rfl rfl) rfl ?_
      refine AOps.sL (Cert.allocL (Try.tab_ok _ _ rfl) rfl (by repeat (first | exact Snoc.nil | apply Snoc.cons))) rfl ?_
      refine AOps.sLn (Cert.storeLF (Try.tab_ok _ _ rfl) rfl rfl rfl rfl rfl (by repeat (first | exact SetAt.zero | apply SetAt.succ))) ?_
      refine AOps.nil ?_
      refine hK19 _ ?_
      clear hK19 K19
      refine AWp.freeze 14 _ rfl (by repeat (first | exact Snoc.nil | apply Snoc.cons)) (Keeps.c (k := 5) (by conv => lhs; whnf) (by rfl) (Keeps.c (k := 73) (by conv => lhs; whnf) (by rfl) (Keeps.c (k := 74) (by conv => lhs; whnf) (by rfl) (Keeps.c (k := 75) (by conv => lhs; whnf) (by rfl) Keeps.nil)))) ?_
      refine AWp.region ?_
      refine AOps.s0 (Cert.move (by conv => lhs; whnf)) rfl ?_
      refine AOps.s0 (Cert.fieldV (Try.tab_ok _ _ rfl) rfl rfl (Try.tab_ok _ _ rfl) rfl rfl (by conv => lhs; whnf)) rfl ?_
      refine AOps.s0 (Cert.loadV (Try.tab_ok _ _ rfl) rfl rfl rfl) rfl ?_
      refine AOps.s0 (Cert.fieldV (Try.tab_ok _ _ rfl) rfl rfl (Try.tab_ok _ _ rfl) rfl rfl (by conv => lhs; whnf)) rfl ?_
      refine AOps.s0 (Cert.loadV (Try.tab_ok _ _ rfl) rfl rfl rfl) rfl ?_
      refine AOps.s0 (Cert.fieldV (Try.tab_ok _ _ rfl) rfl rfl (Try.tab_ok _ _ rfl) rfl rfl (by conv => lhs; whnf)) rfl ?_
      refine AOps.s0 (Cert.loadV (Try.tab_ok _ _ rfl) rfl rfl rfl) rfl ?_
      obtain ⟨x21, gx21, hE⟩ := bindO_some hE
      refine AOps.sH (Cert.callH rfl rfl (fields_checker_sels_walk gx21 _ hpG hpG)) rfl ?_
      refine AOps.heq (h' := ((H.set tk18_4 (some (.tok 2 x21.Fout.l.length))).set id18_3 (some (.cells (Fields_checker.cg (some tk18_4) x21))))) (by first | rfl | (rw [Heap.set_set]; rfl) | (funext n_; simp only [Heap.set]; (repeat' split) <;> first | rfl | (exfalso; simp_all; done) | (simp_all; done))) ?_
      refine AOps.nil ?_
      refine hK18 _ ?_
      clear hK18 K18
      refine AWp.region ?_
      refine AOps.s0 (Cert.addI rfl rfl (by first | omega | (dsimp only; omega)) (by first | omega | (dsimp only; omega))) rfl ?_
      refine AOps.s0 (Cert.move (by conv => lhs; whnf)) rfl ?_
      refine AOps.nil ?_
      exact hK12 _ (n12, (s75_13 + 1), x21) Weak.toA hE (Nat.lt_succ_self _)
     ·have hE := condF hc17 hE
      try dsimp only at hc17
      refine AWp.exit ?_
      exact hK7 _ y14_id18_3 Weak.toA hE
  ·rintro y8_id18_3 hE
   try dsimp only at hE
   unfold fields_Check_j7 at hE
   refine AWp.seqK fun K9 hK9 => ?_
   refine AWp.region ?_
   refine AOps.s0 (Cert.move (by conv => lhs; whnf)) rfl ?_
   refine AOps.s0 (Cert.nilP rfl) rfl ?_
   refine AOps.s0 (Cert.fieldP (Try.tab_ok _ _ rfl) rfl rfl (Try.tab_ok _ _ rfl) rfl rfl) rfl ?_
   refine AOps.s0 (Cert.loadP (Try.tab_ok _ _ rfl) rfl rfl hpG rfl) rfl ?_
   refine AOps.s0 (Cert.assign (by conv => lhs; whnf)) rfl ?_
   refine AOps.nil ?_
   refine hK9 _ ?_
   clear hK9 K9
   refine AWp.dropTok 4 rfl ?_
   refine AWp.ret ?_
   repeat (first | refine xBlock_ret ?_ | refine xThen_ret ?_)
   obtain rfl := Option.some.inj hE
   refine retQ.retF H rfl ⟨rfl, rfl⟩ ?_
   intro id_ o_ he_
   have e_tk18_4 : id_ ≠ tk18_4 := fun e_ => by subst e_; simp_all [Heap.set]
   have e_id18_3 : id_ ≠ id18_3 := fun e_ => by subst e_; simp_all [Heap.set]
   rw [← he_]
   simp only [Heap.set] at he_ ⊢
   (repeat' split) <;> simp_all
end Go.Proofs
