import Derived.Test.YtmjbloiidajknaaDoorV3
set_option maxRecDepth 100000
set_option maxHeartbeats 2000000
set_option linter.unusedVariables false
set_option linter.unusedSimpArgs false
namespace Go.Proofs
open Go Go.Ab
variable {lou : Lou}
def Z18 (a0 : Bs) (a1 : Int) : Option (R04_Token × Int × Int) := (idxC a0 a1).bind fun x3 => (Z19 ((x3.toNat : Nat) : Int)).bind fun x6 => bif x6 then ((addC a1 (1 : Int)).bind fun x9 => (cutC a0 (some a1) (some x9)).bind fun x10 => (addC a1 (1 : Int)).bind fun x11 => some ((R04_Token.mk (1 : Int) x10 a1), x11, (0 : Int))) else (guardO ((decide (((x3.toNat : Nat) : Int) = (46 : Int)))) (addC a1 (3 : Int)) (0 : Int) fun x14 => guardO (((decide (((x3.toNat : Nat) : Int) = (46 : Int))) && (decide (x14 ≤ ((a0.length : Nat) : Int))))) (addC a1 (3 : Int)) (0 : Int) fun x15 => guardO (((decide (((x3.toNat : Nat) : Int) = (46 : Int))) && (decide (x14 ≤ ((a0.length : Nat) : Int))))) (cutC a0 (some a1) (some x15)) ([] : Bs) fun x16 => bif (((decide (((x3.toNat : Nat) : Int) = (46 : Int))) && (decide (x14 ≤ ((a0.length : Nat) : Int)))) && ((x16 == ([46, 46, 46] : Bs)))) then ((addC a1 (3 : Int)).bind fun x19 => some ((R04_Token.mk (1 : Int) ([46, 46, 46] : Bs) a1), x19, (0 : Int))) else ((Z17 ((x3.toNat : Nat) : Int)).bind fun x22 => bif x22 then ((Z22 a0 a1).bind fun x25 => (subC x25 a1).bind fun x28 => bif (decide ((64 : Int) < x28)) then (some ((R04_Token.mk (0 : Int) ([] : Bs) (0 : Int)), (0 : Int), (3 : Int))) else ((cutC a0 (some a1) (some x25)).bind fun x32 => some ((R04_Token.mk (2 : Int) x32 a1), x25, (0 : Int)))) else ((Z16 ((x3.toNat : Nat) : Int)).bind fun x35 => bif (x35 || (decide (((x3.toNat : Nat) : Int) = (45 : Int)))) then ((addC a1 (1 : Int)).bind fun x38 => (Z22 a0 x38).bind fun x39 => (cutC a0 (some a1) (some x39)).bind fun x41 => (Z8 x41).bind fun x42 => (cutC a0 (some a1) (some x39)).bind fun x44 => some ((R04_Token.mk (3 : Int) x44 a1), x39, x42.2)) else (bif (decide (((x3.toNat : Nat) : Int) = (34 : Int))) then ((Z15 a0 a1).bind fun x49 => bif (decide (x49 < (0 : Int))) then (some ((R04_Token.mk (0 : Int) ([] : Bs) (0 : Int)), (0 : Int), (3 : Int))) else ((cutC a0 (some a1) (some x49)).bind fun x55 => (Z9 x55).bind fun x56 => some ((R04_Token.mk (4 : Int) x56.1 a1), x49, x56.2))) else (some ((R04_Token.mk (0 : Int) ([] : Bs) (0 : Int)), (0 : Int), (3 : Int)))))))
section
variable [IsLoud lou]
end
end Go.Proofs

namespace Go.Proofs
open Go Go.Ab
variable {lou : Lou}
section
variable [IsLoud lou]
def Z3_j13  (s5_14 : (Sl Int)) : Option Bool := (Z40 (bytesC s5_14)).bind fun x16 => bif (decide ((65536 : Int) < ((s5_14.l.length : Nat) : Int))) then (guardO ((((decide (((x16.1.l.length : Nat) : Int) = (0 : Int))) && (decide (x16.2.1 = (65536 : Int)))) && (decide (x16.2.2 = (4 : Int))))) (Z4 ) false fun x23 => some ((((decide (((x16.1.l.length : Nat) : Int) = (0 : Int))) && (decide (x16.2.1 = (65536 : Int)))) && (decide (x16.2.2 = (4 : Int)))) && x23)) else (guardO (((!decide (x16.2.2 = (4 : Int))) || ((decide (((x16.1.l.length : Nat) : Int) = (0 : Int))) && (decide (x16.2.1 < (65536 : Int)))))) (Z4 ) false fun x25 => some (((!decide (x16.2.2 = (4 : Int))) || ((decide (((x16.1.l.length : Nat) : Int) = (0 : Int))) && (decide (x16.2.1 < (65536 : Int))))) && x25))
def Z3_l27 (a0 : Bs) (a1 : Int)  : Nat → (Sl Int) → Int → Option Bool
 | 0, _, _ => none
 | n27 + 1, s5_28, s6_29 => bif (decide (s6_29 < a1)) then ((appC 1 s5_28 (strSl a0)).bind fun x34 => (addC s6_29 (1 : Int)).bind fun x35 => (Z3_l27 a0 a1 n27) x34 x35) else (Z3_j13   s5_28)
def Z3 (a0 : Bs) (a1 : Int) : Option Bool := guardO (!((((decide (((a0.length : Nat) : Int) < (1 : Int))) || (decide ((100 : Int) < ((a0.length : Nat) : Int)))) || (decide (a1 < (0 : Int)))) || (decide ((65546 : Int) < a1)))) (mulC ((a0.length : Nat) : Int) a1) (0 : Int) fun x5 => bif (((((decide (((a0.length : Nat) : Int) < (1 : Int))) || (decide ((100 : Int) < ((a0.length : Nat) : Int)))) || (decide (a1 < (0 : Int)))) || (decide ((65546 : Int) < a1))) || (decide ((131072 : Int) < x5))) then ((Z4 ).bind fun x8 => some x8) else ((mulC ((a0.length : Nat) : Int) a1).bind fun x11 => (makeC 1 x11).bind fun x12 => Z3_l27 a0 a1 F0 x12 (0 : Int))
set_option maxRecDepth 100000 in
set_option maxHeartbeats 2000000 in
theorem Z3_walk {a0 : Bs} {a1 : Int} {oE : Ab.Obj} {gE : Nat} {r : Bool} (hE : Z3 a0 a1 = some r) (H : Heap) (hgE : H gE = some oE) (hoE : IsErr Tryd.prog oE) : ACalls Tryd.prog 4 [.d (.str a0), .d (.int .i64 a1)] H fun v h' => v = .a (.d (.bool r)) ∧ h' = H := by
 unfold Z3 at hE
 refine ACalls.of_wp (fn := Tryd.f4) (c := _) Tryd.tab_ok (fun _ _ => Tryd.call4 _ _) Tryd.func4 rfl (n := 85) rfl (rs := [.tmp 4]) rfl rfl ?_
 refine AWp.seqK fun K1 hK1 => ?_
 refine AWp.region ?_
 refine AOps.s0 (Cert.assign (by conv => lhs; whnf)) rfl ?_
 refine AOps.nil ?_
 refine hK1 _ ?_
 clear hK1 K1
 refine AWp.seqK fun K2 hK2 => ?_
 refine AWp.seqK fun K3 hK3 => ?_
 refine AWp.region ?_
 refine AOps.s0 (Cert.move (by conv => lhs; whnf)) rfl ?_
 refine AOps.sLenS (TK rfl) rfl rfl rfl rfl fun hL4 => ?_
 refine AOps.s0 (Cert.binI rfl rfl rfl) rfl ?_
 refine AOps.s0 (Cert.move (by conv => lhs; whnf)) rfl ?_
 refine AOps.gC rfl rfl (fun hC => Cert.move (by conv => lhs; whnf)) rfl ?_
 refine AOps.gC rfl rfl (fun hC => Cert.ungd (k := 14) rfl (by first | exact hC | exact andL hC | exact andL (andL hC) | exact andL (andL (andL hC)) | exact andR hC | simp_all) (Cert.lenS (TK rfl) rfl rfl rfl)) rfl ?_
 refine AOps.gC rfl rfl (fun hC => Cert.ungd (k := 15) rfl (by first | exact hC | exact andL hC | exact andL (andL hC) | exact andL (andL (andL hC)) | exact andR hC | simp_all) (Cert.binI rfl rfl rfl)) rfl ?_
 refine AOps.s0 (Cert.pickOr rfl rfl rfl (fun h => by first | exact h | exact notT h | exact andI hC h | exact andI hC (notT h) | simp_all)) rfl ?_
 refine AOps.s0 (Cert.move (by conv => lhs; whnf)) rfl ?_
 refine AOps.gC rfl rfl (fun hC => Cert.move (by conv => lhs; whnf)) rfl ?_
 refine AOps.gC rfl rfl (fun hC => Cert.ungd (k := 19) rfl (by first | exact hC | exact andL hC | exact andL (andL hC) | exact andL (andL (andL hC)) | exact andR hC | simp_all) (Cert.binI rfl rfl rfl)) rfl ?_
 refine AOps.s0 (Cert.pickOr rfl rfl rfl (fun h => by first | exact h | exact notT h | exact andI hC h | exact andI hC (notT h) | simp_all)) rfl ?_
 refine AOps.s0 (Cert.move (by conv => lhs; whnf)) rfl ?_
 refine AOps.gC rfl rfl (fun hC => Cert.move (by conv => lhs; whnf)) rfl ?_
 refine AOps.gC rfl rfl (fun hC => Cert.ungd (k := 23) rfl (by first | exact hC | exact andL hC | exact andL (andL hC) | exact andL (andL (andL hC)) | exact andR hC | simp_all) (Cert.binI rfl rfl rfl)) rfl ?_
 refine AOps.s0 (Cert.pickOr rfl rfl rfl (fun h => by first | exact h | exact notT h | exact andI hC h | exact andI hC (notT h) | simp_all)) rfl ?_
 refine AOps.s0 (Cert.move (by conv => lhs; whnf)) rfl ?_
 refine AOps.gC rfl rfl (fun hC => Cert.move (by conv => lhs; whnf)) rfl ?_
 refine AOps.gC rfl rfl (fun hC => Cert.ungd (k := 27) rfl (by first | exact hC | exact andL hC | exact andL (andL hC) | exact andL (andL (andL hC)) | exact andR hC | simp_all) (Cert.lenS (TK rfl) rfl rfl rfl)) rfl ?_
 refine AOps.gC rfl rfl (fun hC => Cert.move (by conv => lhs; whnf)) rfl ?_
 obtain ⟨x5, gx5, hE⟩ := guardO_some hE
 refine AOps.gC rfl rfl (fun hC => Cert.ungd (k := 28) rfl (by first | exact hC | exact andL hC | exact andL (andL hC) | exact andL (andL (andL hC)) | exact andR hC | simp_all) (Cert.ungd (k := 29) rfl (by first | exact hC | exact andL hC | exact andL (andL hC) | exact andL (andL (andL hC)) | exact andR hC | simp_all) (Cert.mulM rfl rfl (gx5 hC)))) rfl ?_
 refine AOps.gC rfl rfl (fun hC => Cert.ungd (k := 30) rfl (by first | exact hC | exact andL hC | exact andL (andL hC) | exact andL (andL (andL hC)) | exact andR hC | simp_all) (Cert.binI rfl rfl rfl)) rfl ?_
 refine AOps.s0 (Cert.pickOr rfl rfl rfl (fun h => by first | exact h | exact notT h | exact andI hC h | exact andI hC (notT h) | simp_all)) rfl ?_
 refine AOps.nil ?_
 refine hK3 _ ?_
 clear hK3 K3
 refine AWp.condE hE rfl (fun hc6 hE => ?_) (fun hc6 hE => ?_)
 ·refine AWp.seqK fun K7 hK7 => ?_
  refine AWp.region ?_
  obtain ⟨x8, gx8, hE⟩ := bindO_some hE
  refine AOps.s0 (Cert.callR rfl rfl (Z4_walk (gE := gE) (oE := oE) gx8 _ hpG (by assumption))) rfl ?_
  refine AOps.s0 (Cert.assign (by conv => lhs; whnf)) rfl ?_
  refine AOps.nil ?_
  refine hK7 _ ?_
  clear hK7 K7
  refine AWp.ret ?_
  repeat (first | refine xBlock_ret ?_ | refine xThen_ret ?_)
  obtain rfl := Option.some.inj hE
  refine retQ.retF H rfl ⟨rfl, rfl⟩ ?_
  exact (fun _ _ h => h)
 ·refine AWp.skip ?_
  refine hK2 _ ?_
  clear hK2 K2
  refine AWp.seqK fun K9 hK9 => ?_
  refine AWp.region ?_
  refine AOps.s0 (Cert.move (by conv => lhs; whnf)) rfl ?_
  refine AOps.sLenS (TK rfl) rfl rfl rfl rfl fun hL10 => ?_
  refine AOps.s0 (Cert.move (by conv => lhs; whnf)) rfl ?_
  obtain ⟨x11, gx11, hE⟩ := bindO_some hE
  refine AOps.s0 (Cert.mulM rfl rfl gx11) rfl ?_
  obtain ⟨x12, gx12, hE⟩ := bindO_some hE
  refine AOps.sE (StepE.makeS (f := (intE .u8)) (TK rfl) rfl (TK rfl) rfl rfl rfl rfl gx12) rfl (fun _ _ _ ⟨tk1, htk1, e1, e2, e3⟩ => ?_); subst e1 e2 e3
  have ne_tk1_gE : tk1 ≠ gE := fun e_ => by subst e_; simp_all
  refine AOps.s0 (Cert.assign (by conv => lhs; whnf)) rfl ?_
  refine AOps.nil ?_
  refine hK9 _ ?_
  clear hK9 K9
  refine AWp.seqJH KeepsT.nil (fun (z : (Sl Int)) => [(5, .a (.d (Sl.d 1 (intE .u8) (some tk1) z)))]) (fun z => (H.set tk1 (some (.tok 1 z.l.length (some 5))))) (fun z => Z3_j13 z = some r) ?_ ?_
  ·intro K13 hK13
   refine AWp.seqK fun K26 hK26 => ?_
   refine AWp.region ?_
   refine AOps.s0 (Cert.assign (by conv => lhs; whnf)) rfl ?_
   refine AOps.nil ?_
   refine hK26 _ ?_
   clear hK26 K26
   refine AWp.block ?_
   refine AWp.loopH (KeepsT.cons (k := 0) (by conv => lhs; whnf) (KeepsT.cons (k := 1) (by conv => lhs; whnf) KeepsT.nil)) (fun (z : Nat × (Sl Int) × Int) => [(5, .a (.d (Sl.d 1 (intE .u8) (some tk1) z.2.1))), (6, .a (.d (.int .i64 z.2.2)))]) (fun z => (H.set tk1 (some (.tok 1 z.2.1.l.length (some 5))))) (fun z => z.1) (fun z => Z3_l27 a0 a1 z.1 z.2.1 z.2.2 = some r) (F0, x12, (0 : Int)) hE Weak.toA ?_
   rintro ⟨n27, s5_28, s6_29⟩ hE K27 hK27
   try dsimp only at hE
   cases n27 with
   | zero => cases hE
   | succ n27 =>
     rw [Z3_l27] at hE
     refine AWp.seqK fun K30 hK30 => ?_
     refine AWp.seqK fun K31 hK31 => ?_
     refine AWp.region ?_
     refine AOps.s0 (Cert.move (by conv => lhs; whnf)) rfl ?_
     refine AOps.s0 (Cert.move (by conv => lhs; whnf)) rfl ?_
     refine AOps.s0 (Cert.binI rfl rfl rfl) rfl ?_
     refine AOps.nil ?_
     refine hK31 _ ?_
     clear hK31 K31
     refine AWp.condE hE rfl (fun hc32 hE => ?_) (fun hc32 hE => ?_)
     ·refine AWp.skip ?_
      refine hK30 _ ?_
      clear hK30 K30
      refine AWp.seqK fun K33 hK33 => ?_
      refine AWp.block ?_
      refine AWp.region ?_
      refine AOps.s0 (Cert.move (by conv => lhs; whnf)) rfl ?_
      refine AOps.s0 (Cert.move (by conv => lhs; whnf)) rfl ?_
      obtain ⟨x34, gx34, hE⟩ := bindO_some hE
      refine AOps.sH (Cert.appST (TK rfl) rfl (TK rfl) (TK rfl) rfl rfl rfl rfl rfl rfl rfl hpG rfl rfl gx34) rfl ?_
      refine AOps.heq (h' := (H.set tk1 (some (.tok 1 x34.l.length (some 5))))) (by first | rfl | (rw [Heap.set_set]; rfl) | (funext n_; simp only [Heap.set]; (repeat' split) <;> first | rfl | (exfalso; simp_all; done) | (simp_all; done))) ?_
      refine AOps.s0 (Cert.assign (by conv => lhs; whnf)) rfl ?_
      refine AOps.nil ?_
      refine hK33 _ ?_
      clear hK33 K33
      refine AWp.region ?_
      refine AOps.s0 (Cert.move (by conv => lhs; whnf)) rfl ?_
      obtain ⟨x35, gx35, hE⟩ := bindO_some hE
      refine AOps.s0 (Cert.addM rfl rfl gx35) rfl ?_
      refine AOps.s0 (Cert.assign (by conv => lhs; whnf)) rfl ?_
      refine AOps.nil ?_
      exact hK27 _ (n27, x34, x35) Weak.toA hE (Nat.lt_succ_self _)
     ·refine AWp.exit ?_
      exact hK13 _ s5_28 Weak.toA hE
  ·rintro s5_14 hE
   try dsimp only at hE
   unfold Z3_j13 at hE
   refine AWp.seqK fun K15 hK15 => ?_
   refine AWp.region ?_
   refine AOps.s0 (Cert.move (by conv => lhs; whnf)) rfl ?_
   refine AOps.s0 (Cert.convB (y := s5_14) (TK rfl) rfl (TK rfl) rfl (TK rfl) rfl rfl) rfl ?_
   obtain ⟨x16, gx16, hE⟩ := bindO_some hE
   refine AOps.s0 (Cert.callR rfl rfl (Z40_walk (gE := gE) (oE := oE) gx16 _ hpG (by assumption))) rfl ?_
   refine AOps.s0 (Cert.move (by conv => lhs; whnf)) rfl ?_
   refine AOps.s0 (Cert.extract rfl rfl) rfl ?_
   refine AOps.s0 (Cert.extract rfl rfl) rfl ?_
   refine AOps.s0 (Cert.extract rfl rfl) rfl ?_
   refine AOps.s0 (Cert.assign (by conv => lhs; whnf)) rfl ?_
   refine AOps.s0 (Cert.assign (by conv => lhs; whnf)) rfl ?_
   refine AOps.s0 (Cert.assign (by conv => lhs; whnf)) rfl ?_
   refine AOps.nil ?_
   refine hK15 _ ?_
   clear hK15 K15
   refine AWp.seqK fun K17 hK17 => ?_
   refine AWp.seqK fun K18 hK18 => ?_
   refine AWp.region ?_
   refine AOps.s0 (Cert.move (by conv => lhs; whnf)) rfl ?_
   refine AOps.sLen (f := (intE .u8)) (s := s5_14) (TK rfl) rfl rfl rfl rfl fun hL19 => ?_
   refine AOps.s0 (Cert.binI rfl rfl rfl) rfl ?_
   refine AOps.nil ?_
   refine hK18 _ ?_
   clear hK18 K18
   refine AWp.condE hE rfl (fun hc20 hE => ?_) (fun hc20 hE => ?_)
   ·refine AWp.seqK fun K21 hK21 => ?_
    refine AWp.region ?_
    refine AOps.s0 (Cert.move (by conv => lhs; whnf)) rfl ?_
    refine AOps.sLen (f := Token_Token.c) (s := x16.1) (TK rfl) rfl rfl rfl rfl fun hL22 => ?_
    refine AOps.s0 (Cert.binI rfl rfl rfl) rfl ?_
    refine AOps.s0 (Cert.move (by conv => lhs; whnf)) rfl ?_
    refine AOps.gC rfl rfl (fun hC => Cert.move (by conv => lhs; whnf)) rfl ?_
    refine AOps.gC rfl rfl (fun hC => Cert.ungd (k := 61) rfl (by first | exact hC | exact andL hC | exact andL (andL hC) | exact andL (andL (andL hC)) | exact andR hC | simp_all) (Cert.binI rfl rfl rfl)) rfl ?_
    refine AOps.s0 (Cert.pickAnd rfl rfl (fun h => by first | exact h | exact notT h | exact andI hC h | exact andI hC (notT h) | simp_all) rfl) rfl ?_
    refine AOps.s0 (Cert.move (by conv => lhs; whnf)) rfl ?_
    refine AOps.gC rfl rfl (fun hC => Cert.move (by conv => lhs; whnf)) rfl ?_
    refine AOps.gC rfl rfl (fun hC => Cert.ungd (k := 65) rfl (by first | exact hC | exact andL hC | exact andL (andL hC) | exact andL (andL (andL hC)) | exact andR hC | simp_all) (Cert.binI rfl rfl rfl)) rfl ?_
    refine AOps.s0 (Cert.pickAnd rfl rfl (fun h => by first | exact h | exact notT h | exact andI hC h | exact andI hC (notT h) | simp_all) rfl) rfl ?_
    refine AOps.s0 (Cert.move (by conv => lhs; whnf)) rfl ?_
    obtain ⟨x23, gx23, hE⟩ := guardO_some hE
    refine AOps.gC rfl rfl (fun hC => Cert.callR rfl rfl (Z4_walk (gE := gE) (oE := oE) (gx23 hC) _ hpG (by assumption))) rfl ?_
    refine AOps.s0 (Cert.pickAnd rfl rfl (fun h => by first | exact h | exact notT h | exact andI hC h | exact andI hC (notT h) | simp_all) rfl) rfl ?_
    refine AOps.s0 (Cert.assign (by conv => lhs; whnf)) rfl ?_
    refine AOps.nil ?_
    refine hK21 _ ?_
    clear hK21 K21
    refine AWp.ret ?_
    repeat (first | refine xBlock_ret ?_ | refine xThen_ret ?_)
    obtain rfl := Option.some.inj hE
    refine retQ.retF H rfl ⟨rfl, rfl⟩ ?_
    first | exact Heap.sub_set htk1 | (simp only [Heap.set_set]; exact Heap.sub_set htk1)
   ·refine AWp.skip ?_
    refine hK17 _ ?_
    clear hK17 K17
    refine AWp.seqK fun K24 hK24 => ?_
    refine AWp.region ?_
    refine AOps.s0 (Cert.move (by conv => lhs; whnf)) rfl ?_
    refine AOps.s0 (Cert.binI rfl rfl rfl) rfl ?_
    refine AOps.s0 (Cert.move (by conv => lhs; whnf)) rfl ?_
    refine AOps.gC rfl rfl (fun hC => Cert.move (by conv => lhs; whnf)) rfl ?_
    refine AOps.gC rfl rfl (fun hC => Cert.ungd (k := 74) rfl (by first | exact hC | exact andL hC | exact andL (andL hC) | exact andL (andL (andL hC)) | exact andR hC | simp_all) (Cert.lenM' (f := Token_Token.c) (s := x16.1) (TK rfl) rfl rfl rfl)) rfl ?_
    refine AOps.gC rfl rfl (fun hC => Cert.ungd (k := 75) rfl (by first | exact hC | exact andL hC | exact andL (andL hC) | exact andL (andL (andL hC)) | exact andR hC | simp_all) (Cert.binI rfl rfl rfl)) rfl ?_
    refine AOps.gC rfl rfl (fun hC => Cert.ungd (k := 76) rfl (by first | exact hC | exact andL hC | exact andL (andL hC) | exact andL (andL (andL hC)) | exact andR hC | simp_all) (Cert.move (by conv => lhs; whnf))) rfl ?_
    refine AOps.gC rfl rfl (fun hC => Cert.move (by conv => lhs; whnf)) rfl ?_
    refine AOps.gC rfl rfl (fun hC => Cert.ungd (k := 78) rfl (by first | exact hC | exact andL hC | exact andL (andL hC) | exact andL (andL (andL hC)) | exact andR hC | simp_all) (Cert.binI rfl rfl rfl)) rfl ?_
    refine AOps.gC rfl rfl (fun hC => Cert.ungd (k := 77) rfl (by first | exact hC | exact andL hC | exact andL (andL hC) | exact andL (andL (andL hC)) | exact andR hC | simp_all) (Cert.pickAnd rfl rfl (fun h => by first | exact h | exact notT h | exact andI hC h | exact andI hC (notT h) | simp_all) rfl)) rfl ?_
    refine AOps.s0 (Cert.pickOr rfl rfl rfl (fun h => by first | exact h | exact notT h | exact andI hC h | exact andI hC (notT h) | simp_all)) rfl ?_
    refine AOps.s0 (Cert.move (by conv => lhs; whnf)) rfl ?_
    obtain ⟨x25, gx25, hE⟩ := guardO_some hE
    refine AOps.gC rfl rfl (fun hC => Cert.callR rfl rfl (Z4_walk (gE := gE) (oE := oE) (gx25 hC) _ hpG (by assumption))) rfl ?_
    refine AOps.s0 (Cert.pickAnd rfl rfl (fun h => by first | exact h | exact notT h | exact andI hC h | exact andI hC (notT h) | simp_all) rfl) rfl ?_
    refine AOps.s0 (Cert.assign (by conv => lhs; whnf)) rfl ?_
    refine AOps.nil ?_
    refine hK24 _ ?_
    clear hK24 K24
    refine AWp.ret ?_
    repeat (first | refine xBlock_ret ?_ | refine xThen_ret ?_)
    obtain rfl := Option.some.inj hE
    refine retQ.retF H rfl ⟨rfl, rfl⟩ ?_
    first | exact Heap.sub_set htk1 | (simp only [Heap.set_set]; exact Heap.sub_set htk1)
end
end Go.Proofs

namespace Go.Proofs
open Go Go.Ab
def Z0_q (a0 : Bs) (a1 : Bs) : Bool := on (bif (decide (((a1.length : Nat) : Int) ≤ ((a0.length : Nat) : Int))) then (List.take (a1.length) a0) else ([] : Bs)) fun x5 => ((decide (((a1.length : Nat) : Int) ≤ ((a0.length : Nat) : Int))) && ((x5 == a1)))
theorem Z0_eq (a0 : Bs) (a1 : Bs) : Z0 a0 a1 = some (Z0_q a0 a1) := by
 unfold Z0 Z0_q
 refine Q.guardT (fun hc => Q.cutC_take (by simp at hc; omega)) fun x5 hx_x5 => ?_
 all_goals rfl
def Z29_q (a0 : Bs) (a1 : Bs) : Bool := on (Z0_q a0 a1) fun x3 => x3
theorem Z29_eq (a0 : Bs) (a1 : Bs) : Z29 a0 a1 = some (Z29_q a0 a1) := by
 unfold Z29 Z29_q
 refine Q.bindP (Z0_eq _ _) fun x3 hx_x3 => ?_
 all_goals rfl
def Z1_q (a0 : Bs) (a1 : Bs) : Option Bs := on (Z0_q a0 a1) fun x4 => bif x4 then ((cutC a0 (some ((a1.length : Nat) : Int)) none).bind fun x8 => some x8) else (some a0)
theorem Z1_eq (a0 : Bs) (a1 : Bs) : Z1 a0 a1 = Z1_q a0 a1 := by
 unfold Z1 Z1_q
 refine Eq.trans ?_ (Q.some_bind _)
 refine Q.bindPO (Z0_eq _ _) fun x4 hx_x4 => ?_
 refine Q.condO ?_ ?_
 ·refine Q.bindO rfl fun x8 => ?_
  all_goals rfl
 all_goals rfl
def Z34_q (a0 : Bs) (a1 : Bs) : Option Bs := (Z1_q a0 a1).bind fun x3 => some x3
theorem Z34_eq (a0 : Bs) (a1 : Bs) : Z34 a0 a1 = Z34_q a0 a1 := by
 unfold Z34 Z34_q
 refine Eq.trans ?_ (Q.some_bind _)
 refine Q.bindO (Z1_eq _ _) fun x3 => ?_
 all_goals rfl
def Z35_q19  : List UInt8 → Unit ⊕ ((Int × Int))
 | [] => Sum.inl ()
 | h19 :: r19 => on (h19) fun x27 => on (bif !(decide (((x27.toNat : Nat) : Int) < (48 : Int))) then h19 else (0 : UInt8)) fun x28 => bif ((decide (((x27.toNat : Nat) : Int) < (48 : Int))) || (decide ((57 : Int) < ((x28.toNat : Nat) : Int)))) then (Sum.inr ((0 : Int), (3 : Int))) else (Z35_q19  (r19) )
theorem Z35_l19_qe {a0 : Bs} {x3 : Bs}  (Kb19 : (Unit ⊕ ((Int × Int))) → Option (Int × Int)) (hend : ∀ (n19 : Nat) (s29_20 : Nat), Z35_j9 a0   = Kb19 (Sum.inl ())) (hret : ∀ e : (Int × Int), some e = Kb19 (Sum.inr e)) : ∀ (n19 : Nat) (s29_20 : Nat), (0 < n19 ∧ x3.length < s29_20 + n19) → Z35_l19 a0 x3 n19 s29_20 = Kb19 (Z35_q19  (x3.drop s29_20) ) := by
 intro n19
 induction n19 with
 | zero => intro s29_20 hn; exact absurd hn.1 (by omega)
 | succ n19 ih19 =>
  intro s29_20 hn
  rw [Z35_l19]
  by_cases hlt : s29_20 < x3.length
  ·obtain ⟨h19, hh19⟩ : ∃ x, x3[s29_20]? = some x := ⟨_, List.getElem?_eq_getElem hlt⟩
   rw [Q.drop_of hh19, Z35_q19]
   refine Q.condT (Q.ltT hlt) ?_
   refine Q.bindP hh19 fun x27 hx_x27 => ?_
   refine Q.guardP hh19 fun x28 hx_x28 => ?_
   refine Q.condP ?_ ?_
   ·all_goals exact hret _
   all_goals exact ih19 _ ⟨by omega, by omega⟩
  rw [List.drop_of_length_le (by omega), Z35_q19]
  refine Q.condF (Q.ltF hlt) ?_
  exact hend n19 s29_20
def Z35_q (a0 : Bs) : Option (Int × Int) := (Z34_q a0 ([45] : Bs)).bind fun x3 => guardO (!((x3 == ([] : Bs)))) (x3[0]?) (0 : UInt8) fun x6 => bif (((x3 == ([] : Bs))) || ((decide (((x6.toNat : Nat) : Int) = (48 : Int))) && ((decide ((1 : Int) < ((x3.length : Nat) : Int))) || (decide ((1 : Int) < ((a0.length : Nat) : Int)))))) then (some ((0 : Int), (3 : Int))) else (on (Z35_q19  x3 ) fun o19 => match o19 with | Sum.inl _ => (on (()) fun _ => (Z23_q a0).bind fun x11 => bif x11.2 then (some ((0 : Int), (4 : Int))) else (some (x11.1, (0 : Int)))) | Sum.inr e19 => (some e19))
theorem Z35_eq (a0 : Bs) : Z35 a0 = Z35_q a0 := by
 unfold Z35 Z35_q
 refine Eq.trans ?_ (Q.some_bind _)
 refine Q.bindO (Z34_eq _ _) fun x3 => ?_
 refine Q.guardOO rfl fun x6 => ?_
 refine Q.condO ?_ ?_
 ·all_goals rfl
 refine Q.wrapPO fun Kb19 hKb19 => ?_
 refine Z35_l19_qe  Kb19 ?_ ?_ _ _ ⟨Nat.succ_pos _, by omega⟩
 ·intro n19 s29_20
  refine Eq.trans ?_ (hKb19 _).symm
  try dsimp only
  refine Q.wrapPO fun Kj9 hKj9 => ?_
  have hj9 : Z35_j9 a0  = Kj9 () := by
   refine Eq.trans ?_ (hKj9 _).symm
   unfold Z35_j9
   refine Q.bindO (Z23_eq _) fun x11 => ?_
   refine Q.condO ?_ ?_
   ·all_goals rfl
   all_goals rfl
  all_goals exact hj9
 intro e19
 refine Eq.trans ?_ (hKb19 _).symm
 try dsimp only
 all_goals rfl
def Z11_q (a0 : Int) : Bool := ((decide ((48 : Int) ≤ a0)) && (decide (a0 ≤ (57 : Int))))
theorem Z11_eq (a0 : Int) : Z11 a0 = some (Z11_q a0) := by
 unfold Z11 Z11_q
 all_goals rfl
def Z8_q47  : List UInt8 → Unit ⊕ ((Int × Int))
 | [] => Sum.inl ()
 | h47 :: r47 => on (h47) fun x55 => on (Z11_q ((x55.toNat : Nat) : Int)) fun x56 => bif (!x56) then (Sum.inr ((0 : Int), (3 : Int))) else (Z8_q47  (r47) )
theorem Z8_l47_qe {a0 : Bs} {x5 : UInt8} {s4_7 : Bs}  (Kb47 : (Unit ⊕ ((Int × Int))) → Option (Int × Int)) (hend : ∀ (n47 : Nat) (s6_48 : Nat), Z8_j14 a0 x5 s4_7   = Kb47 (Sum.inl ())) (hret : ∀ e : (Int × Int), some e = Kb47 (Sum.inr e)) : ∀ (n47 : Nat) (s6_48 : Nat), (0 < n47 ∧ s4_7.length < s6_48 + n47) → Z8_l47 a0 x5 s4_7 n47 s6_48 = Kb47 (Z8_q47  (s4_7.drop s6_48) ) := by
 intro n47
 induction n47 with
 | zero => intro s6_48 hn; exact absurd hn.1 (by omega)
 | succ n47 ih47 =>
  intro s6_48 hn
  rw [Z8_l47]
  by_cases hlt : s6_48 < s4_7.length
  ·obtain ⟨h47, hh47⟩ : ∃ x, s4_7[s6_48]? = some x := ⟨_, List.getElem?_eq_getElem hlt⟩
   rw [Q.drop_of hh47, Z8_q47]
   refine Q.condT (Q.ltT hlt) ?_
   refine Q.bindP hh47 fun x55 hx_x55 => ?_
   refine Q.bindP (Z11_eq _) fun x56 hx_x56 => ?_
   refine Q.condP ?_ ?_
   ·all_goals exact hret _
   all_goals exact ih47 _ ⟨by omega, by omega⟩
  rw [List.drop_of_length_le (by omega), Z8_q47]
  refine Q.condF (Q.ltF hlt) ?_
  exact hend n47 s6_48
def Z8_q28  : List UInt8 → Int → Option (Int ⊕ ((Int × Int)))
 | [], s7_29 => some (Sum.inl s7_29)
 | h28 :: r28, s7_29 => on (h28) fun x37 => (subC (IntKind.wrap .i64 ((x37.toNat : Nat) : Int)) (48 : Int)).bind fun x38 => (addC (-9223372036854775808 : Int) x38).bind fun x41 => bif (decide (s7_29 < (IntKind.wrap .i64 (Int.tdiv x41 (10 : Int))))) then (some (Sum.inr ((0 : Int), (4 : Int)))) else ((mulC (10 : Int) s7_29).bind fun x44 => (subC x44 x38).bind fun x45 => Z8_q28  (r28) x45)
theorem Z8_l28_qe {a0 : Bs} {x5 : UInt8} {s4_7 : Bs}  (Kb28 : (Int ⊕ ((Int × Int))) → Option (Int × Int)) (hend : ∀ (n28 : Nat) (s7_29 : Int) (s8_30 : Nat), Z8_j16 a0 x5  s7_29 = Kb28 (Sum.inl s7_29)) (hret : ∀ e : (Int × Int), some e = Kb28 (Sum.inr e)) : ∀ (n28 : Nat) (s7_29 : Int) (s8_30 : Nat), (0 < n28 ∧ s4_7.length < s8_30 + n28) → Z8_l28 a0 x5 s4_7 n28 s7_29 s8_30 = Option.bind (Z8_q28  (s4_7.drop s8_30) s7_29) Kb28 := by
 intro n28
 induction n28 with
 | zero => intro s7_29 s8_30 hn; exact absurd hn.1 (by omega)
 | succ n28 ih28 =>
  intro s7_29 s8_30 hn
  rw [Z8_l28]
  by_cases hlt : s8_30 < s4_7.length
  ·obtain ⟨h28, hh28⟩ : ∃ x, s4_7[s8_30]? = some x := ⟨_, List.getElem?_eq_getElem hlt⟩
   rw [Q.drop_of hh28, Z8_q28]
   refine Q.condT (Q.ltT hlt) ?_
   refine Q.bindPO hh28 fun x37 hx_x37 => ?_
   refine Q.bindO rfl fun x38 => ?_
   refine Q.bindO rfl fun x41 => ?_
   refine Q.condO ?_ ?_
   ·all_goals exact hret _
   refine Q.bindO rfl fun x44 => ?_
   refine Q.bindO rfl fun x45 => ?_
   all_goals exact ih28 _ _ ⟨by omega, by omega⟩
  rw [List.drop_of_length_le (by omega), Z8_q28]
  refine Q.condF (Q.ltF hlt) ?_
  exact hend n28 s7_29 s8_30
def Z8_q (a0 : Bs) : Option (Int × Int) := on (bif (decide ((0 : Int) < ((a0.length : Nat) : Int))) then ((a0)[0]?.getD (0 : UInt8)) else (0 : UInt8)) fun x5 => Option.bind (bif ((decide ((0 : Int) < ((a0.length : Nat) : Int))) && (decide (((x5.toNat : Nat) : Int) = (45 : Int)))) then ((cutC a0 (some (1 : Int)) none).bind fun x61 => some x61) else (some a0)) fun s4_7 => guardO (!(decide (((s4_7.length : Nat) : Int) = (0 : Int)))) (s4_7[0]?) (0 : UInt8) fun x11 => bif ((decide (((s4_7.length : Nat) : Int) = (0 : Int))) || ((decide (((x11.toNat : Nat) : Int) = (48 : Int))) && ((decide ((1 : Int) < ((s4_7.length : Nat) : Int))) || ((decide ((0 : Int) < ((a0.length : Nat) : Int))) && (decide (((x5.toNat : Nat) : Int) = (45 : Int))))))) then (some ((0 : Int), (3 : Int))) else (on (Z8_q47  s4_7 ) fun o47 => match o47 with | Sum.inl _ => (on (()) fun _ => Option.bind (Z8_q28  s4_7 (0 : Int)) fun o28 => match o28 with | Sum.inl s7_29 => (on (s7_29) fun s7_17 => bif ((decide ((0 : Int) < ((a0.length : Nat) : Int))) && (decide (((x5.toNat : Nat) : Int) = (45 : Int)))) then (some (s7_17, (0 : Int))) else (bif (decide (s7_17 = (-9223372036854775808 : Int))) then (some ((0 : Int), (4 : Int))) else (some ((IntKind.wrap .i64 (0 - s7_17)), (0 : Int))))) | Sum.inr e28 => (some e28)) | Sum.inr e47 => (some e47))
theorem Z8_eq (a0 : Bs) : Z8 a0 = Z8_q a0 := by
 unfold Z8 Z8_q
 refine Eq.trans ?_ (Q.some_bind _)
 refine Q.guardTO (fun hc => Q.getD_some (by simp at hc; omega)) fun x5 hx_x5 => ?_
 refine Q.wrapOO fun Kj6 hKj6 => ?_
 have hj6 : ∀ (s4_7 : Bs), Z8_j6 a0 x5 s4_7 = Kj6 s4_7 := by
  intro s4_7
  refine Eq.trans ?_ (hKj6 _).symm
  unfold Z8_j6
  refine Q.guardOO rfl fun x11 => ?_
  refine Q.condO ?_ ?_
  ·all_goals rfl
  refine Q.wrapPO fun Kb47 hKb47 => ?_
  refine Z8_l47_qe  Kb47 ?_ ?_ _ _ ⟨Nat.succ_pos _, by omega⟩
  ·intro n47 s6_48
   refine Eq.trans ?_ (hKb47 _).symm
   try dsimp only
   refine Q.wrapPO fun Kj14 hKj14 => ?_
   have hj14 : Z8_j14 a0 x5 s4_7  = Kj14 () := by
    refine Eq.trans ?_ (hKj14 _).symm
    unfold Z8_j14
    refine Q.wrapOO fun Kb28 hKb28 => ?_
    refine Z8_l28_qe  Kb28 ?_ ?_ _ _ _ ⟨Nat.succ_pos _, by omega⟩
    ·intro n28 s7_29 s8_30
     refine Eq.trans ?_ (hKb28 _).symm
     try dsimp only
     refine Q.wrapPO fun Kj16 hKj16 => ?_
     have hj16 : ∀ (s7_17 : Int), Z8_j16 a0 x5 s7_17 = Kj16 s7_17 := by
      intro s7_17
      refine Eq.trans ?_ (hKj16 _).symm
      unfold Z8_j16
      refine Q.condO ?_ ?_
      ·all_goals rfl
      refine Q.condO ?_ ?_
      ·all_goals rfl
      all_goals rfl
     all_goals exact hj16 _
    intro e28
    refine Eq.trans ?_ (hKb28 _).symm
    try dsimp only
    all_goals rfl
   all_goals exact hj14
  intro e47
  refine Eq.trans ?_ (hKb47 _).symm
  try dsimp only
  all_goals rfl
 refine Q.condO ?_ ?_
 ·refine Q.bindO rfl fun x61 => ?_
  all_goals exact hj6 _
 all_goals exact hj6 _
end Go.Proofs

namespace Go.Proofs
open Go Go.Ab
theorem some_nat {a b : Nat} (h : a = b) : some ((a : Nat) : Int) = some ((b : Nat) : Int) := by rw [h]
theorem idxC_nat {α : Type} (l : List α) (i : Nat) : idxC l (i : Int) = l[i]? := by unfold idxC; rw [if_pos (by omega)]; simp
theorem cut_from {s : Bs} {i : Nat} (h : i ≤ s.length) : cutC s (some (i : Int)) none = some (s.drop i) := by
 unfold cutC; rw [if_pos (by simp; omega)]; simp
theorem cut_part {s : Bs} {i j : Nat} (h : i ≤ j) (hj : j ≤ s.length) : cutC s (some (i : Int)) (some (j : Int)) = some ((s.drop i).take (j - i)) := by
 unfold cutC; rw [if_pos (by simp; omega)]
 simp only [Option.getD_some, Int.toNat_natCast]
 rw [List.drop_take]
theorem drop_cons {s : Bs} {i : Nat} {c : UInt8} (h : s[i]? = some c) : s.drop i = c :: s.drop (i + 1) := by
 obtain ⟨hi, rfl⟩ := List.getElem?_eq_some_iff.1 h
 exact List.drop_eq_getElem_cons hi
def isSp (c : UInt8) : Bool := decide (((c.toNat : Nat) : Int) = 32) || decide (((c.toNat : Nat) : Int) = 9) || decide (((c.toNat : Nat) : Int) = 10) || decide (((c.toNat : Nat) : Int) = 13) || decide (((c.toNat : Nat) : Int) = 44)
def isNl (c : UInt8) : Bool := decide (((c.toNat : Nat) : Int) = 10) || decide (((c.toNat : Nat) : Int) = 13)
def skN : Bool → Bs → Nat
 | _, [] => 0
 | false, c :: r => bif isSp c then 1 + skN false r else bif decide (((c.toNat : Nat) : Int) = 35) then 1 + skN true r else 0
 | true, c :: r => bif isNl c then 1 + skN false r else 1 + skN true r
theorem skN_le : ∀ (b : Bool) (l : Bs), skN b l ≤ l.length
 | b, [] => by cases b <;> simp [skN]
 | false, c :: r => by
  have h1 := skN_le false r; have h2 := skN_le true r
  rw [skN]; cases isSp c <;> cases decide (((c.toNat : Nat) : Int) = 35) <;> simp <;> omega
 | true, c :: r => by
  have h1 := skN_le false r; have h2 := skN_le true r
  rw [skN]; cases isNl c <;> simp <;> omega
theorem isNl_sp {c : UInt8} (h : isNl c = true) : isSp c = true := by
 unfold isNl at h; unfold isSp
 simp only [Bool.or_eq_true] at h ⊢
 rcases h with h | h
 ·exact .inl (.inl (.inr h))
 ·exact .inl (.inr h)
theorem contains_nl (c : UInt8) : ([10, 13] : Bs).contains c = isNl c := by
 unfold isNl
 rw [Bool.eq_iff_iff]
 simp only [List.contains_eq_mem, List.mem_cons, List.not_mem_nil, or_false, decide_eq_true_eq, Bool.or_eq_true]
 rw [← UInt8.toNat_inj, ← UInt8.toNat_inj]
 show (c.toNat = 10 ∨ c.toNat = 13) ↔ _
 omega
theorem indexAny_sk : ∀ l : Bs, (∃ k : Nat, Lib.indexAny l [10, 13] = (k : Int) ∧ k < l.length ∧ skN true l = k + skN false (l.drop k)) ∨ (Lib.indexAny l [10, 13] = -1 ∧ skN true l = l.length)
 | [] => .inr ⟨rfl, rfl⟩
 | c :: r => by
  rw [Lib.indexAny, contains_nl]
  cases h : isNl c
  ·rcases indexAny_sk r with ⟨k, h1, h2, h3⟩ | ⟨h1, h2⟩
   ·left
    refine ⟨k + 1, ?_, by simp; omega, ?_⟩
    ·rw [h1]; simp only [Bool.false_eq_true, if_false]; rw [if_neg (by simp)]; push_cast; rfl
    ·rw [skN, h, List.drop_succ_cons, h3]; simp; omega
   ·right
    rw [h1]
    refine ⟨by simp, ?_⟩
    rw [skN, h, h2]; simp; omega
  ·left
   refine ⟨0, by simp, by simp, ?_⟩
   rw [skN, h, List.drop_zero, skN, isNl_sp h]; simp
theorem skip_aux (s : Bs) (hs : s.length ≤ 1048576) : ∀ (n i : Nat), i ≤ s.length → s.length - i < n → Z44_l5 s n (i : Int) = some (((i + skN false (s.drop i) : Nat)) : Int)
 | 0, _, _, h => by omega
 | n + 1, i, hi, hn => by
  rw [Z44_l5]
  by_cases hlt : i < s.length
  ·have hd : decide ((i : Int) < ((s.length : Nat) : Int)) = true := decide_eq_true (by omega)
   obtain ⟨c, hc⟩ : ∃ c, s[i]? = some c := ⟨s[i], List.getElem?_eq_getElem hlt⟩
   have hdr := drop_cons hc
   have next : ∀ j : Nat, i < j → j ≤ s.length → Z44_l5 s n (j : Int) = some (((j + skN false (s.drop j) : Nat)) : Int) := fun j h1 h2 => skip_aux s hs n j h2 (by omega)
   have one : addC (i : Int) 1 = some (((i + 1 : Nat)) : Int) := by rw [addC_ok (by omega)]; rfl
   rw [hd, idxC_nat, hc, hdr, skN]
   simp only [Z44_j13, one]
   rw [cond_true, Option.bind_some]
   have sp : isSp c = true → Z44_l5 s n (((i + 1 : Nat)) : Int) = some (((i + (bif isSp c then 1 + skN false (s.drop (i + 1)) else bif decide (((c.toNat : Nat) : Int) = 35) then 1 + skN true (s.drop (i + 1)) else 0) : Nat)) : Int) := fun h => by
    rw [next (i + 1) (by omega) (by omega), h]
    simp only [cond_true]; exact some_nat (by omega)
   cases h1 : decide (((c.toNat : Nat) : Int) = 32)
   ·rw [cond_false]
    cases h2 : decide (((c.toNat : Nat) : Int) = 9)
    ·rw [cond_false]
     cases h3 : decide (((c.toNat : Nat) : Int) = 10)
     ·rw [cond_false]
      cases h4 : decide (((c.toNat : Nat) : Int) = 13)
      ·rw [cond_false]
       cases h5 : decide (((c.toNat : Nat) : Int) = 44)
       ·have hns : isSp c = false := by unfold isSp; rw [h1, h2, h3, h4, h5]; rfl
        have hnn : isNl c = false := by unfold isNl; rw [h3, h4]; rfl
        rw [hns, cond_false, cond_false]
        cases h6 : decide (((c.toNat : Nat) : Int) = 35)
        ·simp
        ·simp only [cond_true]
         rw [cut_from hi, Option.bind_some, hdr]
         have he : Z30 (c :: s.drop (i + 1)) [10, 13] = some (Lib.indexAny (c :: s.drop (i + 1)) [10, 13]) := by
          unfold Z30 idxAnyC
          rw [if_pos ⟨by decide, by decide, Nat.lt_of_le_of_lt (show (c :: s.drop (i + 1)).length ≤ 1048577 by simp; omega) (by decide), by decide⟩]
         rw [he, Option.bind_some]
         have hsk : skN true (c :: s.drop (i + 1)) = 1 + skN true (s.drop (i + 1)) := by rw [skN, hnn]; rfl
         rw [← hsk]
         rcases indexAny_sk (c :: s.drop (i + 1)) with ⟨k, g1, g2, g3⟩ | ⟨g1, g2⟩
         ·have hk0 : 0 < k := by
           rcases Nat.eq_zero_or_pos k with h | h
           ·subst h
            rw [Lib.indexAny, contains_nl, hnn] at g1
            simp at g1
            split at g1 <;> omega
           ·exact h
          rw [g1, show decide ((0 : Int) ≤ (k : Int)) = true from decide_eq_true (by omega)]
          simp only [cond_true]
          simp only [List.length_cons, List.length_drop] at g2
          rw [addC_ok (by omega), Option.bind_some, show ((i : Int) + (k : Int)) = ((i + k : Nat) : Int) by push_cast; rfl, next (i + k) (by omega) (by omega), g3, ← hdr, List.drop_drop]
          exact some_nat (by omega)
         ·rw [g1, show decide ((0 : Int) ≤ (-1 : Int)) = false from rfl]
          simp only [cond_false]
          rw [next s.length (by omega) (Nat.le_refl _), g2, List.drop_length]
          simp only [skN, List.length_cons, List.length_drop]
          exact some_nat (by omega)
       ·rw [cond_true]; exact sp (by unfold isSp; rw [h5]; simp)
      ·rw [cond_true]; exact sp (by unfold isSp; rw [h4]; simp)
     ·rw [cond_true]; exact sp (by unfold isSp; rw [h3]; simp)
    ·rw [cond_true]; exact sp (by unfold isSp; rw [h2]; simp)
   ·rw [cond_true]; exact sp (by unfold isSp; rw [h1]; simp)
  ·rw [show decide ((i : Int) < ((s.length : Nat) : Int)) = false from decide_eq_false (by omega), List.drop_eq_nil_of_le (by omega)]
   simp [Z44_j2, skN]
theorem skip_eq {s : Bs} (hs : s.length ≤ 1048576) {i : Nat} (hi : i ≤ s.length) : Z44 s (i : Int) = some (((i + skN false (s.drop i) : Nat)) : Int) := by
 unfold Z44; exact skip_aux s hs F0 i hi (by rw [F0_eq]; omega)
end Go.Proofs

namespace Go.Proofs
open Go Go.Ab
theorem wrap32 (c : UInt8) : IntKind.wrap .i32 ((c.toNat : Nat) : Int) = ((c.toNat : Nat) : Int) := by
 have h := c.toNat_lt
 simp [IntKind.wrap, IntKind.bits, IntKind.signed]
 omega
def isW (c : UInt8) : Bool := (((decide ((97 : Int) ≤ ((c.toNat : Nat) : Int)) && decide (((c.toNat : Nat) : Int) ≤ (122 : Int))) || (decide ((65 : Int) ≤ ((c.toNat : Nat) : Int)) && decide (((c.toNat : Nat) : Int) ≤ (90 : Int)))) || (decide ((48 : Int) ≤ ((c.toNat : Nat) : Int)) && decide (((c.toNat : Nat) : Int) ≤ (57 : Int)))) || decide (((c.toNat : Nat) : Int) = (95 : Int))
def isD (c : UInt8) : Bool := decide ((48 : Int) ≤ ((c.toNat : Nat) : Int)) && decide (((c.toNat : Nat) : Int) ≤ (57 : Int))
def isL (c : UInt8) : Bool := ((decide ((65 : Int) ≤ ((c.toNat : Nat) : Int)) && decide (((c.toNat : Nat) : Int) ≤ (90 : Int))) || (decide ((97 : Int) ≤ ((c.toNat : Nat) : Int)) && decide (((c.toNat : Nat) : Int) ≤ (122 : Int)))) || decide (((c.toNat : Nat) : Int) = (95 : Int))
theorem isW_eq (c : UInt8) : isW c = (isL c || isD c) := by
 unfold isW isL isD
 rw [Bool.eq_iff_iff]
 simp only [Bool.or_eq_true, Bool.and_eq_true, decide_eq_true_eq]
 constructor
 ·rintro (((h | h) | h) | h)
  ·exact .inl (.inl (.inr h))
  ·exact .inl (.inl (.inl h))
  ·exact .inr h
  ·exact .inl (.inr h)
 ·rintro (((h | h) | h) | h)
  ·exact .inl (.inl (.inr h))
  ·exact .inl (.inl (.inl h))
  ·exact .inr h
  ·exact .inl (.inr h)
theorem letter_eq (c : UInt8) : Z41 (IntKind.wrap .i32 ((c.toNat : Nat) : Int)) = some (isW c) := by rw [wrap32]; rfl
def wordN (l : Bs) : Nat := (l.takeWhile isW).length
theorem wordN_le (l : Bs) : wordN l ≤ l.length := by
 unfold wordN
 induction l with
 | nil => simp
 | cons a r ih => rw [List.takeWhile_cons]; split <;> simp <;> omega
theorem wordN_cons (c : UInt8) (r : Bs) : wordN (c :: r) = bif isW c then 1 + wordN r else 0 := by
 unfold wordN; rw [List.takeWhile_cons]; cases isW c <;> simp <;> omega
theorem span_aux (s : Bs) (hs : s.length ≤ 1048576) : ∀ (n i : Nat), i ≤ s.length → s.length - i < n → Z45_l5 s Z41 n (i : Int) = some (((i + wordN (s.drop i) : Nat)) : Int)
 | 0, _, _, h => by omega
 | n + 1, i, hi, hn => by
  rw [Z45_l5]
  by_cases hlt : i < s.length
  ·have hd : decide ((i : Int) < ((s.length : Nat) : Int)) = true := decide_eq_true (by omega)
   obtain ⟨c, hc⟩ : ∃ c, s[i]? = some c := ⟨s[i], List.getElem?_eq_getElem hlt⟩
   have one : addC (i : Int) 1 = some (((i + 1 : Nat)) : Int) := by rw [addC_ok (by omega)]; rfl
   have ih := span_aux s hs n (i + 1) (by omega) (by omega)
   rw [hd, idxC_nat, hc, one, drop_cons hc, wordN_cons]
   simp only [guardO, if_true, Option.bind_some, letter_eq, Bool.true_and]
   cases isW c
   ·simp [Z45_j2]
   ·simp only [cond_true]
    rw [ih]; exact some_nat (by omega)
  ·rw [show decide ((i : Int) < ((s.length : Nat) : Int)) = false from decide_eq_false (by omega), List.drop_eq_nil_of_le (by omega)]
   simp [guardO, Z45_j2, wordN]
theorem span_eq {s : Bs} (hs : s.length ≤ 1048576) {i : Nat} (hi : i ≤ s.length) : Z45 s (i : Int) Z41 = some (((i + wordN (s.drop i) : Nat)) : Int) := by
 unfold Z45; exact span_aux s hs F0 i hi (by rw [F0_eq]; omega)
theorem rletter_eq (c : UInt8) : Z17 ((c.toNat : Nat) : Int) = some (isL c) := rfl
theorem rdigit_eq (c : UInt8) : Z16 ((c.toNat : Nat) : Int) = some (isD c) := rfl
theorem word_aux (s : Bs) (hs : s.length ≤ 1048576) : ∀ (n i : Nat), i ≤ s.length → s.length - i < n → Z22_l5 s n (i : Int) = some (((i + wordN (s.drop i) : Nat)) : Int)
 | 0, _, _, h => by omega
 | n + 1, i, hi, hn => by
  rw [Z22_l5]
  by_cases hlt : i < s.length
  ·have hd : decide ((i : Int) < ((s.length : Nat) : Int)) = true := decide_eq_true (by omega)
   obtain ⟨c, hc⟩ : ∃ c, s[i]? = some c := ⟨s[i], List.getElem?_eq_getElem hlt⟩
   have one : addC (i : Int) 1 = some (((i + 1 : Nat)) : Int) := by rw [addC_ok (by omega)]; rfl
   have ih := word_aux s hs n (i + 1) (by omega) (by omega)
   rw [hd, idxC_nat, hc, one, drop_cons hc, wordN_cons, isW_eq]
   simp only [guardO, if_true, Option.bind_some, rletter_eq, Bool.true_and]
   cases isL c
   ·simp only [Bool.not_false, if_true, rdigit_eq, Option.bind_some, Bool.false_or]
    cases isD c
    ·simp [Z22_j2]
    ·simp only [cond_true]; rw [ih]; exact some_nat (by omega)
   ·simp only [Bool.true_or, cond_true]
    simp only [Bool.not_true, Bool.false_eq_true, if_false, Bool.true_or, cond_true]
    rw [ih]; exact some_nat (by omega)
  ·rw [show decide ((i : Int) < ((s.length : Nat) : Int)) = false from decide_eq_false (by omega), List.drop_eq_nil_of_le (by omega)]
   simp [guardO, Z22_j2, wordN]
theorem word_eq {s : Bs} (hs : s.length ≤ 1048576) {i : Nat} (hi : i ≤ s.length) : Z22 s (i : Int) = some (((i + wordN (s.drop i) : Nat)) : Int) := by
 unfold Z22; exact word_aux s hs F0 i hi (by rw [F0_eq]; omega)
def litN : Bool → Bs → Option Nat
 | _, [] => none
 | true, _ :: r => (litN false r).map (· + 1)
 | false, c :: r => bif decide (((c.toNat : Nat) : Int) = 34) then some 1 else (litN (decide (((c.toNat : Nat) : Int) = 92)) r).map (· + 1)
theorem litN_le : ∀ (b : Bool) (l : Bs) (k : Nat), litN b l = some k → 1 ≤ k ∧ k ≤ l.length
 | _, [], _, h => by cases h
 | true, _ :: r, k, h => by
  rw [litN] at h
  obtain ⟨m, h1, rfl⟩ := Option.map_eq_some_iff.1 h
  have := litN_le false r m h1
  simp; omega
 | false, c :: r, k, h => by
  rw [litN] at h
  cases hc : decide (((c.toNat : Nat) : Int) = 34)
  ·rw [hc] at h
   obtain ⟨m, h1, rfl⟩ := Option.map_eq_some_iff.1 h
   have := litN_le _ r m h1
   simp; omega
  ·rw [hc] at h
   simp only [cond_true, Option.some.injEq] at h
   subst h; simp
def litR (s : Bs) (i : Nat) (b : Bool) : Int := match litN b (s.drop i) with | some k => ((i + k : Nat) : Int) | none => -1
theorem lit_aux (s : Bs) (hs : s.length ≤ 1048576) : ∀ (n i : Nat) (sk : Bool), i ≤ s.length → s.length - i < n → ∃ r, token_litSpan s n (i : Int) sk = some r ∧ ((∃ j : Nat, r.1 = (j : Int) ∧ j < s.length ∧ litR s i sk = ((j + 1 : Nat) : Int)) ∨ (r.1 = ((s.length : Nat) : Int) ∧ litR s i sk = -1))
 | 0, _, _, _, h => by omega
 | n + 1, i, sk, hi, hn => by
  rw [token_litSpan]
  by_cases hlt : i < s.length
  ·have hd : decide ((i : Int) < ((s.length : Nat) : Int)) = true := decide_eq_true (by omega)
   obtain ⟨c, hc⟩ : ∃ c, s[i]? = some c := ⟨s[i], List.getElem?_eq_getElem hlt⟩
   have one : addC (i : Int) 1 = some (((i + 1 : Nat)) : Int) := by rw [addC_ok (by omega)]; rfl
   have ih := fun sk => lit_aux s hs n (i + 1) sk (by omega) (by omega)
   rw [hd, idxC_nat, hc, one]
   simp only [cond_true, Option.bind_some, wrap32]
   have go : ∀ sk' : Bool, litN sk (s.drop i) = (litN sk' (s.drop (i + 1))).map (· + 1) → litR s i sk = litR s (i + 1) sk' := fun sk' h => by
    unfold litR
    rw [h]
    cases litN sk' (s.drop (i + 1)) with
    | none => rfl
    | some k => simp only [Option.map_some]; exact congrArg _ (by omega)
   cases sk with
   | true =>
    simp only [token_litStep, cond_true]
    obtain ⟨r, h1, h2⟩ := ih false
    rw [go false (by rw [drop_cons hc, litN])]
    exact ⟨r, h1, h2⟩
   | false =>
    simp only [token_litStep, cond_false]
    cases h34 : decide (((c.toNat : Nat) : Int) = 34)
    ·simp only [Bool.not_false, cond_true]
     obtain ⟨r, h1, h2⟩ := ih (decide (((c.toNat : Nat) : Int) = 92))
     rw [go _ (by rw [drop_cons hc, litN, h34]; rfl)]
     exact ⟨r, h1, h2⟩
    ·simp only [Bool.not_true, cond_false]
     refine ⟨_, rfl, .inl ⟨i, rfl, hlt, ?_⟩⟩
     unfold litR
     rw [drop_cons hc, litN, h34]; rfl
  ·rw [show decide ((i : Int) < ((s.length : Nat) : Int)) = false from decide_eq_false (by omega)]
   refine ⟨_, rfl, .inr ⟨?_, ?_⟩⟩
   ·simp only; omega
   ·unfold litR; rw [List.drop_eq_nil_of_le (by omega)]; cases sk <;> rfl
theorem literal_eq {s : Bs} (hs : s.length ≤ 1048576) {i : Nat} (hi : i < s.length) : Z42 s (i : Int) = some (litR s (i + 1) false) := by
 unfold Z42
 have one : addC (i : Int) 1 = some (((i + 1 : Nat)) : Int) := by rw [addC_ok (by omega)]; rfl
 obtain ⟨r, h1, h2⟩ := lit_aux s hs F0 (i + 1) false (by omega) (by rw [F0_eq]; omega)
 rw [one, Option.bind_some, h1, Option.bind_some]
 rcases h2 with ⟨j, h2, h3, h4⟩ | ⟨h2, h4⟩
 ·rw [h2, h4, show decide (((s.length : Nat) : Int) ≤ (j : Int)) = false from decide_eq_false (by omega), cond_false, addC_ok (by omega)]; rfl
 ·rw [h2, h4, show decide (((s.length : Nat) : Int) ≤ ((s.length : Nat) : Int)) = true from decide_eq_true (by omega), cond_true]
theorem j18_at (k : Int → Option Int) (j : Nat) (hj : j ≤ 2000000) : Z15_j18 k (j : Int) = k ((j + 1 : Nat) : Int) := by
 unfold Z15_j18; rw [addC_ok (by omega)]; rfl
theorem closing_aux (s : Bs) (hs : s.length ≤ 1048576) : ∀ (n i : Nat), i ≤ s.length + 1 → s.length + 1 - i < n → Z15_l6 s n (i : Int) = some (litR s i false)
 | 0, _, _, h => by omega
 | n + 1, i, hi, hn => by
  rw [Z15_l6]
  by_cases hlt : i < s.length
  ·have hd : decide ((i : Int) < ((s.length : Nat) : Int)) = true := decide_eq_true (by omega)
   obtain ⟨c, hc⟩ : ∃ c, s[i]? = some c := ⟨s[i], List.getElem?_eq_getElem hlt⟩
   have one : addC (i : Int) 1 = some (((i + 1 : Nat)) : Int) := by rw [addC_ok (by omega)]; rfl
   have ih1 := closing_aux s hs n (i + 1) (by omega) (by omega)
   have ih2 := closing_aux s hs n (i + 2) (by omega) (by omega)
   rw [hd, idxC_nat, hc, cond_true, Option.bind_some, Option.bind_some, one, Option.bind_some, Option.bind_some, j18_at _ (i + 1) (by omega), j18_at _ i (by omega), ih1, ih2]
   unfold litR
   rw [drop_cons hc, litN]
   cases h34 : decide (((c.toNat : Nat) : Int) = 34)
   ·simp only [cond_false]
    cases h92 : decide (((c.toNat : Nat) : Int) = 92)
    ·simp only [cond_false]
     cases litN false (s.drop (i + 1)) with
     | none => rfl
     | some k => simp only [Option.map_some]; exact some_nat (by omega)
    ·simp only [cond_true]
     by_cases h2 : i + 1 < s.length
     ·obtain ⟨c2, hc2⟩ : ∃ c, s[i + 1]? = some c := ⟨s[i + 1], List.getElem?_eq_getElem h2⟩
      rw [drop_cons hc2, litN]
      cases litN false (s.drop (i + 1 + 1)) with
      | none => rfl
      | some k => simp only [Option.map_some]; exact some_nat (by omega)
     ·rw [List.drop_eq_nil_of_le (by omega), List.drop_eq_nil_of_le (by omega)]; rfl
   ·simp only [cond_true]
  ·rw [show decide ((i : Int) < ((s.length : Nat) : Int)) = false from decide_eq_false (by omega)]
   unfold litR
   rw [List.drop_eq_nil_of_le (by omega)]; rfl
theorem closing_eq {s : Bs} (hs : s.length ≤ 1048576) {i : Nat} (hi : i < s.length) : Z15 s (i : Int) = some (litR s (i + 1) false) := by
 unfold Z15
 have one : addC (i : Int) 1 = some (((i + 1 : Nat)) : Int) := by rw [addC_ok (by omega)]; rfl
 rw [one, Option.bind_some, closing_aux s hs F0 (i + 1) (by omega) (by rw [F0_eq]; omega)]
end Go.Proofs
