import Derived.Test.YtmjbloiidajknaaDoorV1
set_option maxRecDepth 100000
set_option maxHeartbeats 2000000
set_option linter.unusedVariables false
set_option linter.unusedSimpArgs false
namespace Go.Proofs
open Go Go.Ab
variable {lou : Lou}
def Z37_j17  (y18_id4_15 : Strings_Builder) : Option (Bs × Int) := (Z24 y18_id4_15).bind fun x20 => some (x20, (0 : Int))
def Z37_j29 (k_next_22 : Int → Strings_Builder → Option (Bs × Int)) (s5_30 : Int) (y31_id4_15 : Strings_Builder) : Option (Bs × Int) := (addC s5_30 (1 : Int)).bind fun x32 => k_next_22 x32 y31_id4_15
def Z37_j66 (y24_id4_15 : Strings_Builder) (x45 : Int) (k_next_22 : Int → Strings_Builder → Option (Bs × Int)) (s9_67 : Int) : Option (Bs × Int) := bif (decide ((255 : Int) < s9_67)) then (some (([] : Bs), (3 : Int))) else ((Z25 y24_id4_15 (IntKind.wrap .u8 s9_67)).bind fun x73 => (addC x45 (4 : Int)).bind fun x74 => Z37_j29  k_next_22 x74 x73.2)
def Z37_l81 (y24_id4_15 : Strings_Builder) (x45 : Int) (x79 : Sl Int) (k_next_22 : Int → Strings_Builder → Option (Bs × Int)) : Nat → Int → Nat → Option (Bs × Int)
 | 0, _, _ => none
 | n81 + 1, s9_82, s92_83 => bif (decide (((s92_83 : Nat) : Int) < ((x79.l.length : Nat) : Int))) then ((x79.l[s92_83]?).bind fun x89 => (Z31 ([48, 49, 50, 51, 52, 53, 54, 55, 56, 57, 97, 98, 99, 100, 101, 102] : Bs) (IntKind.wrap .u8 ((BitVec.ofInt (IntKind.bits .u8) x89 ||| BitVec.ofInt (IntKind.bits .u8) (32 : Int)).toNat : Int))).bind fun x91 => bif (((decide (x91 < (0 : Int))) || (decide (x89 < (48 : Int)))) || ((decide ((57 : Int) < x89)) && (decide (x89 < (65 : Int))))) then (some (([] : Bs), (3 : Int))) else ((mulC s9_82 (16 : Int)).bind fun x96 => (addC x96 x91).bind fun x97 => (Z37_l81 y24_id4_15 x45 x79 k_next_22 n81) x97 (s92_83 + 1))) else (Z37_j66 y24_id4_15 x45 k_next_22 s9_82)
def Z37_l22 (x13 : Bs)  : Nat → Int → Strings_Builder → Option (Bs × Int)
 | 0, _, _ => none
 | n22 + 1, s5_23, y24_id4_15 => bif (decide (s5_23 < ((x13.length : Nat) : Int))) then ((idxC x13 s5_23).bind fun x34 => bif (((decide (((x34.toNat : Nat) : Int) < (32 : Int))) || (decide ((126 : Int) < ((x34.toNat : Nat) : Int)))) || (decide (((x34.toNat : Nat) : Int) = (34 : Int)))) then (some (([] : Bs), (3 : Int))) else (bif (!decide (((x34.toNat : Nat) : Int) = (92 : Int))) then ((Z25 y24_id4_15 ((x34.toNat : Nat) : Int)).bind fun x43 => Z37_j29  ((Z37_l22 x13 n22)) s5_23 x43.2) else ((addC s5_23 (1 : Int)).bind fun x45 => bif (decide (x45 = ((x13.length : Nat) : Int))) then (some (([] : Bs), (3 : Int))) else ((idxC x13 x45).bind fun x53 => (Z38 ((x53.toNat : Nat) : Int)).bind fun x54 => bif x54.2 then ((Z25 y24_id4_15 x54.1).bind fun x58 => Z37_j29  ((Z37_l22 x13 n22)) x45 x58.2) else ((idxC x13 x45).bind fun x61 => guardO (!(!decide (((x61.toNat : Nat) : Int) = (117 : Int)))) (addC x45 (4 : Int)) (0 : Int) fun x62 => bif ((!decide (((x61.toNat : Nat) : Int) = (117 : Int))) || (decide (((x13.length : Nat) : Int) ≤ x62))) then (some (([] : Bs), (3 : Int))) else ((addC x45 (1 : Int)).bind fun x76 => (addC x45 (5 : Int)).bind fun x77 => (cutC x13 (some x76) (some x77)).bind fun x78 => (bytesOf x78).bind fun x79 => Z37_l81 y24_id4_15 x45 x79 ((Z37_l22 x13 n22)) (x79.l.length + 1) (0 : Int) 0)))))) else (Z37_j17   y24_id4_15)
def Z37 (a0 : Bs) : Option (Bs × Int) := guardO (!(decide (((a0.length : Nat) : Int) < (2 : Int)))) (a0[0]?) (0 : UInt8) fun x5 => guardO (!((decide (((a0.length : Nat) : Int) < (2 : Int))) || (!decide (((x5.toNat : Nat) : Int) = (34 : Int))))) (subC ((a0.length : Nat) : Int) (1 : Int)) (0 : Int) fun x6 => guardO (!((decide (((a0.length : Nat) : Int) < (2 : Int))) || (!decide (((x5.toNat : Nat) : Int) = (34 : Int))))) (idxC a0 x6) (0 : UInt8) fun x7 => bif (((decide (((a0.length : Nat) : Int) < (2 : Int))) || (!decide (((x5.toNat : Nat) : Int) = (34 : Int)))) || (!decide (((x7.toNat : Nat) : Int) = (34 : Int)))) then (some (([] : Bs), (3 : Int))) else ((subC ((a0.length : Nat) : Int) (1 : Int)).bind fun x12 => (cutC a0 (some (1 : Int)) (some x12)).bind fun x13 => Z37_l22 x13 F0 (0 : Int) Strings_Builder.zero)
set_option maxRecDepth 100000 in
set_option maxHeartbeats 2000000 in
theorem Z37_walk {a0 : Bs}   {r : (Bs × Int)} (hE : Z37 a0 = some r) (H : Heap)  : ACalls Tryd.prog 60 [.d (.str a0)] H fun v h' => v = .tup [.d (.str r.1), .d (.int .i64 r.2)] ∧ h' = H := by
 unfold Z37 at hE
 refine ACalls.of_wp (fn := Tryd.f60) (c := _) Tryd.tab_ok (fun _ _ => Tryd.call60 _ _) Tryd.func60 rfl (n := 126) rfl (rs := [.tmp 2, .tmp 3]) rfl rfl ?_
 refine AWp.seqK fun K1 hK1 => ?_
 refine AWp.region ?_
 refine AOps.s0 (Cert.assign (by conv => lhs; whnf)) rfl ?_
 refine AOps.s0 (Cert.assign (by conv => lhs; whnf)) rfl ?_
 refine AOps.nil ?_
 refine hK1 _ ?_
 clear hK1 K1
 refine AWp.seqK fun K2 hK2 => ?_
 refine AWp.seqK fun K3 hK3 => ?_
 refine AWp.region ?_
 refine AOps.s0 (Cert.move (by conv => lhs; whnf)) rfl ?_
 refine AOps.sLenS (TK rfl) rfl rfl rfl rfl fun hL4 => ?_
 refine AOps.s0 (Cert.binI rfl rfl rfl) rfl ?_
 refine AOps.s0 (Cert.move (by conv => lhs; whnf)) rfl ?_
 refine AOps.gC rfl rfl (fun hC => Cert.move (by conv => lhs; whnf)) rfl ?_
 obtain ⟨x5, gx5, hE⟩ := guardO_some hE
 refine AOps.gC rfl rfl (fun hC => Cert.ungd (k := 17) rfl (by first | exact hC | exact andL hC | exact andL (andL hC) | exact andL (andL (andL hC)) | exact andR hC | simp_all) (Cert.idxSn (n := 0) (TK rfl) rfl rfl rfl (gx5 hC))) rfl ?_
 refine AOps.gC rfl rfl (fun hC => Cert.ungd (k := 18) rfl (by first | exact hC | exact andL hC | exact andL (andL hC) | exact andL (andL (andL hC)) | exact andR hC | simp_all) (Cert.binI rfl rfl rfl)) rfl ?_
 refine AOps.s0 (Cert.pickOr rfl rfl rfl (fun h => by first | exact h | exact notT h | exact andI hC h | exact andI hC (notT h) | simp_all)) rfl ?_
 refine AOps.s0 (Cert.move (by conv => lhs; whnf)) rfl ?_
 refine AOps.gC rfl rfl (fun hC => Cert.move (by conv => lhs; whnf)) rfl ?_
 refine AOps.gC rfl rfl (fun hC => Cert.move (by conv => lhs; whnf)) rfl ?_
 refine AOps.gC rfl rfl (fun hC => Cert.ungd (k := 23) rfl (by first | exact hC | exact andL hC | exact andL (andL hC) | exact andL (andL (andL hC)) | exact andR hC | simp_all) (Cert.lenS (TK rfl) rfl rfl rfl)) rfl ?_
 obtain ⟨x6, gx6, hE⟩ := guardO_some hE
 refine AOps.gC rfl rfl (fun hC => Cert.ungd (k := 24) rfl (by first | exact hC | exact andL hC | exact andL (andL hC) | exact andL (andL (andL hC)) | exact andR hC | simp_all) (Cert.subM rfl rfl (gx6 hC))) rfl ?_
 obtain ⟨x7, gx7, hE⟩ := guardO_some hE
 refine AOps.gC rfl rfl (fun hC => Cert.ungd (k := 22) rfl (by first | exact hC | exact andL hC | exact andL (andL hC) | exact andL (andL (andL hC)) | exact andR hC | simp_all) (Cert.ungd (k := 25) rfl (by first | exact hC | exact andL hC | exact andL (andL hC) | exact andL (andL (andL hC)) | exact andR hC | simp_all) (Cert.idxS (TK rfl) rfl rfl rfl (gx7 hC)))) rfl ?_
 refine AOps.gC rfl rfl (fun hC => Cert.ungd (k := 26) rfl (by first | exact hC | exact andL hC | exact andL (andL hC) | exact andL (andL (andL hC)) | exact andR hC | simp_all) (Cert.binI rfl rfl rfl)) rfl ?_
 refine AOps.s0 (Cert.pickOr rfl rfl rfl (fun h => by first | exact h | exact notT h | exact andI hC h | exact andI hC (notT h) | simp_all)) rfl ?_
 refine AOps.nil ?_
 refine hK3 _ ?_
 clear hK3 K3
 refine AWp.condE hE rfl (fun hc8 hE => ?_) (fun hc8 hE => ?_)
 ·refine AWp.seqK fun K9 hK9 => ?_
  refine AWp.region ?_
  refine AOps.s0 (Cert.assign (by conv => lhs; whnf)) rfl ?_
  refine AOps.s0 (Cert.assign (by conv => lhs; whnf)) rfl ?_
  refine AOps.nil ?_
  refine hK9 _ ?_
  clear hK9 K9
  refine AWp.ret ?_
  repeat (first | refine xBlock_ret ?_ | refine xThen_ret ?_)
  obtain rfl := Option.some.inj hE
  refine retQ.retF H rfl ⟨rfl, rfl⟩ ?_
  exact (fun _ _ h => h)
 ·refine AWp.skip ?_
  refine hK2 _ ?_
  clear hK2 K2
  refine AWp.seqK fun K10 hK10 => ?_
  refine AWp.region ?_
  refine AOps.s0 (Cert.move (by conv => lhs; whnf)) rfl ?_
  refine AOps.s0 (Cert.move (by conv => lhs; whnf)) rfl ?_
  refine AOps.sLenS (TK rfl) rfl rfl rfl rfl fun hL11 => ?_
  obtain ⟨x12, gx12, hE⟩ := bindO_some hE
  refine AOps.s0 (Cert.subM rfl rfl gx12) rfl ?_
  obtain ⟨x13, gx13, hE⟩ := bindO_some hE
  refine AOps.s0 (Cert.cutM (l := (some (1 : Int))) (r := (some x12)) (TK rfl) rfl rfl rfl rfl (by simp) gx13) rfl ?_
  refine AOps.s0 (Cert.assign (by conv => lhs; whnf)) rfl ?_
  refine AOps.nil ?_
  refine hK10 _ ?_
  clear hK10 K10
  refine AWp.seqK fun K14 hK14 => ?_
  refine AWp.region ?_
  refine AOps.tokE 1 5 fun tk4_16 htk4_16 => ?_
  refine AOps.sE (StepE.allocT (TK rfl) rfl) rfl (fun _ _ _ ⟨id4_15, hid4_15, e1, e2, e3⟩ => ?_); subst e1 e2 e3
  obtain ⟨ne_id4_15_tk4_16, hid4_15⟩ := Heap.set_fresh hid4_15
  refine AOps.recellT id4_15 _ hpG (fun j w cs hh hx => tok_cell 1 1 1 hh (t := tk4_16) hpG hx rfl) ?_
  refine AOps.heq (h' := ((H.set tk4_16 (some (.tok 1 0 (some 5)))).set id4_15 (some (.tcells 68 (Strings_Builder.cg id4_15 (some tk4_16) Strings_Builder.zero))))) (by first | rfl | (rw [Heap.set_set]; rfl) | (funext n_; simp only [Heap.set]; (repeat' split) <;> first | rfl | (exfalso; simp_all; done) | (simp_all; done))) ?_
  refine AOps.nil ?_
  refine hK14 _ ?_
  clear hK14 K14
  refine AWp.seqJH (KeepsT.cons (k := 4) (by conv => lhs; whnf) KeepsT.nil) (fun (z : Strings_Builder) => []) (fun z => ((H.set tk4_16 (some (.tok 1 z.Fbuf.l.length (some 5)))).set id4_15 (some (.tcells 68 (Strings_Builder.cg id4_15 (some tk4_16) z))))) (fun z => Z37_j17 z = some r) ?_ ?_
  ·intro K17 hK17
   refine AWp.seqK fun K21 hK21 => ?_
   refine AWp.region ?_
   refine AOps.s0 (Cert.assign (by conv => lhs; whnf)) rfl ?_
   refine AOps.nil ?_
   refine hK21 _ ?_
   clear hK21 K21
   refine AWp.block ?_
   refine AWp.loopH (KeepsT.cons (k := 0) (by conv => lhs; whnf) (KeepsT.cons (k := 4) (by conv => lhs; whnf) KeepsT.nil)) (fun (z : Nat × Int × Strings_Builder) => [(5, .a (.d (.int .i64 z.2.1)))]) (fun z => ((H.set tk4_16 (some (.tok 1 z.2.2.Fbuf.l.length (some 5)))).set id4_15 (some (.tcells 68 (Strings_Builder.cg id4_15 (some tk4_16) z.2.2))))) (fun z => z.1) (fun z => Z37_l22 x13 z.1 z.2.1 z.2.2 = some r) (F0, (0 : Int), Strings_Builder.zero) hE Weak.toA ?_
   rintro ⟨n22, s5_23, y24_id4_15⟩ hE K22 hK22
   try dsimp only at hE
   cases n22 with
   | zero => cases hE
   | succ n22 =>
     rw [Z37_l22] at hE
     refine AWp.seqK fun K25 hK25 => ?_
     refine AWp.seqK fun K26 hK26 => ?_
     refine AWp.region ?_
     refine AOps.s0 (Cert.move (by conv => lhs; whnf)) rfl ?_
     refine AOps.s0 (Cert.move (by conv => lhs; whnf)) rfl ?_
     refine AOps.sLenS (TK rfl) rfl rfl rfl rfl fun hL27 => ?_
     refine AOps.s0 (Cert.binI rfl rfl rfl) rfl ?_
     refine AOps.nil ?_
     refine hK26 _ ?_
     clear hK26 K26
     refine AWp.condE hE rfl (fun hc28 hE => ?_) (fun hc28 hE => ?_)
     ·refine AWp.skip ?_
      refine hK25 _ ?_
      clear hK25 K25
      refine AWp.seqJH (KeepsT.cons (k := 0) (by conv => lhs; whnf) (KeepsT.cons (k := 4) (by conv => lhs; whnf) KeepsT.nil)) (fun (z : Int × Strings_Builder) => [(5, .a (.d (.int .i64 z.1)))]) (fun z => ((H.set tk4_16 (some (.tok 1 z.2.Fbuf.l.length (some 5)))).set id4_15 (some (.tcells 68 (Strings_Builder.cg id4_15 (some tk4_16) z.2))))) (fun z => Z37_j29  ((Z37_l22 x13 n22)) z.1 z.2 = some r) ?_ ?_
      ·intro K29 hK29
       refine AWp.block ?_
       refine AWp.seqK fun K33 hK33 => ?_
       refine AWp.region ?_
       refine AOps.s0 (Cert.move (by conv => lhs; whnf)) rfl ?_
       refine AOps.s0 (Cert.move (by conv => lhs; whnf)) rfl ?_
       obtain ⟨x34, gx34, hE⟩ := bindO_some hE
       refine AOps.s0 (Cert.idxS (TK rfl) rfl rfl rfl gx34) rfl ?_
       refine AOps.s0 (Cert.assign (by conv => lhs; whnf)) rfl ?_
       refine AOps.nil ?_
       refine hK33 _ ?_
       clear hK33 K33
       refine AWp.seqK fun K35 hK35 => ?_
       refine AWp.seqK fun K36 hK36 => ?_
       refine AWp.region ?_
       refine AOps.s0 (Cert.move (by conv => lhs; whnf)) rfl ?_
       refine AOps.s0 (Cert.binI rfl rfl rfl) rfl ?_
       refine AOps.s0 (Cert.move (by conv => lhs; whnf)) rfl ?_
       refine AOps.gC rfl rfl (fun hC => Cert.move (by conv => lhs; whnf)) rfl ?_
       refine AOps.gC rfl rfl (fun hC => Cert.ungd (k := 46) rfl (by first | exact hC | exact andL hC | exact andL (andL hC) | exact andL (andL (andL hC)) | exact andR hC | simp_all) (Cert.binI rfl rfl rfl)) rfl ?_
       refine AOps.s0 (Cert.pickOr rfl rfl rfl (fun h => by first | exact h | exact notT h | exact andI hC h | exact andI hC (notT h) | simp_all)) rfl ?_
       refine AOps.s0 (Cert.move (by conv => lhs; whnf)) rfl ?_
       refine AOps.gC rfl rfl (fun hC => Cert.move (by conv => lhs; whnf)) rfl ?_
       refine AOps.gC rfl rfl (fun hC => Cert.ungd (k := 50) rfl (by first | exact hC | exact andL hC | exact andL (andL hC) | exact andL (andL (andL hC)) | exact andR hC | simp_all) (Cert.binI rfl rfl rfl)) rfl ?_
       refine AOps.s0 (Cert.pickOr rfl rfl rfl (fun h => by first | exact h | exact notT h | exact andI hC h | exact andI hC (notT h) | simp_all)) rfl ?_
       refine AOps.nil ?_
       refine hK36 _ ?_
       clear hK36 K36
       refine AWp.condE hE rfl (fun hc37 hE => ?_) (fun hc37 hE => ?_)
       ·refine AWp.seqK fun K38 hK38 => ?_
        refine AWp.region ?_
        refine AOps.s0 (Cert.assign (by conv => lhs; whnf)) rfl ?_
        refine AOps.s0 (Cert.assign (by conv => lhs; whnf)) rfl ?_
        refine AOps.nil ?_
        refine hK38 _ ?_
        clear hK38 K38
        refine AWp.ret ?_
        repeat (first | refine xBlock_ret ?_ | refine xThen_ret ?_)
        obtain rfl := Option.some.inj hE
        refine retQ.retF H rfl ⟨rfl, rfl⟩ ?_
        intro id_ o_ he_
        have e_tk4_16 : id_ ≠ tk4_16 := fun e_ => by subst e_; simp_all [Heap.set]
        have e_id4_15 : id_ ≠ id4_15 := fun e_ => by subst e_; simp_all [Heap.set]
        rw [← he_]
        simp only [Heap.set] at he_ ⊢
        (repeat' split) <;> simp_all
       ·refine AWp.skip ?_
        refine hK35 _ ?_
        clear hK35 K35
        refine AWp.seqK fun K39 hK39 => ?_
        refine AWp.seqK fun K40 hK40 => ?_
        refine AWp.region ?_
        refine AOps.s0 (Cert.move (by conv => lhs; whnf)) rfl ?_
        refine AOps.s0 (Cert.binI rfl rfl rfl) rfl ?_
        refine AOps.nil ?_
        refine hK40 _ ?_
        clear hK40 K40
        refine AWp.condE hE rfl (fun hc41 hE => ?_) (fun hc41 hE => ?_)
        ·refine AWp.seqK fun K42 hK42 => ?_
         refine AWp.region ?_
         refine AOps.s0 (Cert.move (by conv => lhs; whnf)) rfl ?_
         obtain ⟨x43, gx43, hE⟩ := bindO_some hE
         refine AOps.sH (Cert.callH rfl rfl (Z25_walk gx43 _ hpG hpG)) rfl ?_
         refine AOps.heq (h' := ((H.set tk4_16 (some (.tok 1 x43.2.Fbuf.l.length (some 5)))).set id4_15 (some (.tcells 68 (Strings_Builder.cg id4_15 (some tk4_16) x43.2))))) (by first | rfl | (rw [Heap.set_set]; rfl) | (funext n_; simp only [Heap.set]; (repeat' split) <;> first | rfl | (exfalso; simp_all; done) | (simp_all; done))) ?_
         refine AOps.nil ?_
         refine hK42 _ ?_
         clear hK42 K42
         refine AWp.exit ?_
         exact hK29 _ (s5_23, x43.2) Weak.toA hE
        ·refine AWp.skip ?_
         refine hK39 _ ?_
         clear hK39 K39
         refine AWp.seqK fun K44 hK44 => ?_
         refine AWp.region ?_
         refine AOps.s0 (Cert.move (by conv => lhs; whnf)) rfl ?_
         obtain ⟨x45, gx45, hE⟩ := bindO_some hE
         refine AOps.s0 (Cert.addM rfl rfl gx45) rfl ?_
         refine AOps.s0 (Cert.assign (by conv => lhs; whnf)) rfl ?_
         refine AOps.nil ?_
         refine hK44 _ ?_
         clear hK44 K44
         refine AWp.seqK fun K46 hK46 => ?_
         refine AWp.seqK fun K47 hK47 => ?_
         refine AWp.region ?_
         refine AOps.s0 (Cert.move (by conv => lhs; whnf)) rfl ?_
         refine AOps.s0 (Cert.move (by conv => lhs; whnf)) rfl ?_
         refine AOps.sLenS (TK rfl) rfl rfl rfl rfl fun hL48 => ?_
         refine AOps.s0 (Cert.binI rfl rfl rfl) rfl ?_
         refine AOps.nil ?_
         refine hK47 _ ?_
         clear hK47 K47
         refine AWp.condE hE rfl (fun hc49 hE => ?_) (fun hc49 hE => ?_)
         ·refine AWp.seqK fun K50 hK50 => ?_
          refine AWp.region ?_
          refine AOps.s0 (Cert.assign (by conv => lhs; whnf)) rfl ?_
          refine AOps.s0 (Cert.assign (by conv => lhs; whnf)) rfl ?_
          refine AOps.nil ?_
          refine hK50 _ ?_
          clear hK50 K50
          refine AWp.ret ?_
          repeat (first | refine xBlock_ret ?_ | refine xThen_ret ?_)
          obtain rfl := Option.some.inj hE
          refine retQ.retF H rfl ⟨rfl, rfl⟩ ?_
          intro id_ o_ he_
          have e_tk4_16 : id_ ≠ tk4_16 := fun e_ => by subst e_; simp_all [Heap.set]
          have e_id4_15 : id_ ≠ id4_15 := fun e_ => by subst e_; simp_all [Heap.set]
          rw [← he_]
          simp only [Heap.set] at he_ ⊢
          (repeat' split) <;> simp_all
         ·refine AWp.skip ?_
          refine hK46 _ ?_
          clear hK46 K46
          refine AWp.seqK fun K51 hK51 => ?_
          refine AWp.seqK fun K52 hK52 => ?_
          refine AWp.region ?_
          refine AOps.s0 (Cert.move (by conv => lhs; whnf)) rfl ?_
          refine AOps.s0 (Cert.move (by conv => lhs; whnf)) rfl ?_
          obtain ⟨x53, gx53, hE⟩ := bindO_some hE
          refine AOps.s0 (Cert.idxS (TK rfl) rfl rfl rfl gx53) rfl ?_
          obtain ⟨x54, gx54, hE⟩ := bindO_some hE
          refine AOps.s0 (Cert.callP rfl rfl (fun H => Z38_walk gx54 H)) rfl ?_
          refine AOps.s0 (Cert.move (by conv => lhs; whnf)) rfl ?_
          refine AOps.s0 (Cert.extract rfl rfl) rfl ?_
          refine AOps.s0 (Cert.extract rfl rfl) rfl ?_
          refine AOps.s0 (Cert.assign (by conv => lhs; whnf)) rfl ?_
          refine AOps.s0 (Cert.assign (by conv => lhs; whnf)) rfl ?_
          refine AOps.nil ?_
          refine hK52 _ ?_
          clear hK52 K52
          refine AWp.seqK fun K55 hK55 => ?_
          refine AWp.region ?_
          refine AOps.s0 (Cert.move (by conv => lhs; whnf)) rfl ?_
          refine AOps.nil ?_
          refine hK55 _ ?_
          clear hK55 K55
          refine AWp.condE hE rfl (fun hc56 hE => ?_) (fun hc56 hE => ?_)
          ·refine AWp.seqK fun K57 hK57 => ?_
           refine AWp.region ?_
           refine AOps.s0 (Cert.move (by conv => lhs; whnf)) rfl ?_
           obtain ⟨x58, gx58, hE⟩ := bindO_some hE
           refine AOps.sH (Cert.callH rfl rfl (Z25_walk gx58 _ hpG hpG)) rfl ?_
           refine AOps.heq (h' := ((H.set tk4_16 (some (.tok 1 x58.2.Fbuf.l.length (some 5)))).set id4_15 (some (.tcells 68 (Strings_Builder.cg id4_15 (some tk4_16) x58.2))))) (by first | rfl | (rw [Heap.set_set]; rfl) | (funext n_; simp only [Heap.set]; (repeat' split) <;> first | rfl | (exfalso; simp_all; done) | (simp_all; done))) ?_
           refine AOps.nil ?_
           refine hK57 _ ?_
           clear hK57 K57
           refine AWp.exit ?_
           exact hK29 _ (x45, x58.2) Weak.toA hE
          ·refine AWp.skip ?_
           refine hK51 _ ?_
           clear hK51 K51
           refine AWp.seqK fun K59 hK59 => ?_
           refine AWp.seqK fun K60 hK60 => ?_
           refine AWp.region ?_
           refine AOps.s0 (Cert.move (by conv => lhs; whnf)) rfl ?_
           refine AOps.s0 (Cert.move (by conv => lhs; whnf)) rfl ?_
           obtain ⟨x61, gx61, hE⟩ := bindO_some hE
           refine AOps.s0 (Cert.idxS (TK rfl) rfl rfl rfl gx61) rfl ?_
           refine AOps.s0 (Cert.binI rfl rfl rfl) rfl ?_
           refine AOps.s0 (Cert.move (by conv => lhs; whnf)) rfl ?_
           refine AOps.gC rfl rfl (fun hC => Cert.move (by conv => lhs; whnf)) rfl ?_
           obtain ⟨x62, gx62, hE⟩ := guardO_some hE
           refine AOps.gC rfl rfl (fun hC => Cert.ungd (k := 78) rfl (by first | exact hC | exact andL hC | exact andL (andL hC) | exact andL (andL (andL hC)) | exact andR hC | simp_all) (Cert.addM rfl rfl (gx62 hC))) rfl ?_
           refine AOps.gC rfl rfl (fun hC => Cert.move (by conv => lhs; whnf)) rfl ?_
           refine AOps.gC rfl rfl (fun hC => Cert.ungd (k := 80) rfl (by first | exact hC | exact andL hC | exact andL (andL hC) | exact andL (andL (andL hC)) | exact andR hC | simp_all) (Cert.lenS (TK rfl) rfl rfl rfl)) rfl ?_
           refine AOps.gC rfl rfl (fun hC => Cert.ungd (k := 79) rfl (by first | exact hC | exact andL hC | exact andL (andL hC) | exact andL (andL (andL hC)) | exact andR hC | simp_all) (Cert.ungd (k := 81) rfl (by first | exact hC | exact andL hC | exact andL (andL hC) | exact andL (andL (andL hC)) | exact andR hC | simp_all) (Cert.binI rfl rfl rfl))) rfl ?_
           refine AOps.s0 (Cert.pickOr rfl rfl rfl (fun h => by first | exact h | exact notT h | exact andI hC h | exact andI hC (notT h) | simp_all)) rfl ?_
           refine AOps.nil ?_
           refine hK60 _ ?_
           clear hK60 K60
           refine AWp.condE hE rfl (fun hc63 hE => ?_) (fun hc63 hE => ?_)
           ·refine AWp.seqK fun K64 hK64 => ?_
            refine AWp.region ?_
            refine AOps.s0 (Cert.assign (by conv => lhs; whnf)) rfl ?_
            refine AOps.s0 (Cert.assign (by conv => lhs; whnf)) rfl ?_
            refine AOps.nil ?_
            refine hK64 _ ?_
            clear hK64 K64
            refine AWp.ret ?_
            repeat (first | refine xBlock_ret ?_ | refine xThen_ret ?_)
            obtain rfl := Option.some.inj hE
            refine retQ.retF H rfl ⟨rfl, rfl⟩ ?_
            intro id_ o_ he_
            have e_tk4_16 : id_ ≠ tk4_16 := fun e_ => by subst e_; simp_all [Heap.set]
            have e_id4_15 : id_ ≠ id4_15 := fun e_ => by subst e_; simp_all [Heap.set]
            rw [← he_]
            simp only [Heap.set] at he_ ⊢
            (repeat' split) <;> simp_all
           ·refine AWp.skip ?_
            refine hK59 _ ?_
            clear hK59 K59
            refine AWp.seqK fun K65 hK65 => ?_
            refine AWp.region ?_
            refine AOps.s0 (Cert.assign (by conv => lhs; whnf)) rfl ?_
            refine AOps.nil ?_
            refine hK65 _ ?_
            clear hK65 K65
            refine AWp.seqJH (KeepsT.cons (k := 0) (by conv => lhs; whnf) (KeepsT.cons (k := 4) (by conv => lhs; whnf) (KeepsT.cons (k := 5) (by conv => lhs; whnf) KeepsT.nil))) (fun (z : Int) => [(9, .a (.d (.int .i64 z)))]) (fun z => ((H.set tk4_16 (some (.tok 1 y24_id4_15.Fbuf.l.length (some 5)))).set id4_15 (some (.tcells 68 (Strings_Builder.cg id4_15 (some tk4_16) y24_id4_15))))) (fun z => Z37_j66 y24_id4_15 x45 ((Z37_l22 x13 n22)) z = some r) ?_ ?_
            ·intro K66 hK66
             refine AWp.seqK fun K75 hK75 => ?_
             refine AWp.region ?_
             refine AOps.s0 (Cert.move (by conv => lhs; whnf)) rfl ?_
             refine AOps.s0 (Cert.move (by conv => lhs; whnf)) rfl ?_
             obtain ⟨x76, gx76, hE⟩ := bindO_some hE
             refine AOps.s0 (Cert.addM rfl rfl gx76) rfl ?_
             refine AOps.s0 (Cert.move (by conv => lhs; whnf)) rfl ?_
             obtain ⟨x77, gx77, hE⟩ := bindO_some hE
             refine AOps.s0 (Cert.addM rfl rfl gx77) rfl ?_
             obtain ⟨x78, gx78, hE⟩ := bindO_some hE
             refine AOps.s0 (Cert.cutM (l := (some x76)) (r := (some x77)) (TK rfl) rfl rfl rfl rfl (by simp) gx78) rfl ?_
             obtain ⟨x79, gx79, hE⟩ := bindO_some hE
             refine AOps.s0 (Cert.convSB (TK rfl) rfl (TK rfl) rfl (TK rfl) rfl rfl gx79) rfl ?_
             refine AOps.sLen (f := (intE .u8)) (s := x79) (TK rfl) rfl rfl rfl rfl fun hL80 => ?_
             refine AOps.s0 (Cert.move (by conv => lhs; whnf)) rfl ?_
             refine AOps.nil ?_
             refine hK75 _ ?_
             clear hK75 K75
             refine AWp.block ?_
             refine AWp.loopH (KeepsT.cons (k := 0) (by conv => lhs; whnf) (KeepsT.cons (k := 4) (by conv => lhs; whnf) (KeepsT.cons (k := 5) (by conv => lhs; whnf) (KeepsT.cons (k := 90) (by conv => lhs; whnf) (KeepsT.cons (k := 91) (by conv => lhs; whnf) KeepsT.nil))))) (fun (z : Nat × Int × Nat) => [(9, .a (.d (.int .i64 z.2.1))), (92, .a (.d (.int .i64 ((z.2.2 : Nat) : Int))))]) (fun z => ((H.set tk4_16 (some (.tok 1 y24_id4_15.Fbuf.l.length (some 5)))).set id4_15 (some (.tcells 68 (Strings_Builder.cg id4_15 (some tk4_16) y24_id4_15))))) (fun z => z.1) (fun z => Z37_l81 y24_id4_15 x45 x79 ((Z37_l22 x13 n22)) z.1 z.2.1 z.2.2 = some r) ((x79.l.length + 1), (0 : Int), 0) hE Weak.toA ?_
             rintro ⟨n81, s9_82, s92_83⟩ hE K81 hK81
             try dsimp only at hE
             cases n81 with
             | zero => cases hE
             | succ n81 =>
               rw [Z37_l81] at hE
               refine AWp.seqK fun K84 hK84 => ?_
               refine AWp.region ?_
               refine AOps.s0 (Cert.binI rfl rfl rfl) rfl ?_
               refine AOps.nil ?_
               refine hK84 _ ?_
               clear hK84 K84
               refine AWp.seqK fun K85 hK85 => ?_
               refine AWp.condE hE rfl (fun hc86 hE => ?_) (fun hc86 hE => ?_)
               ·try dsimp only at hc86
                have hf86 := of_decide_eq_true hc86
                refine AWp.skip ?_
                refine hK85 _ ?_
                clear hK85 K85
                refine AWp.seqK fun K87 hK87 => ?_
                refine AWp.block ?_
                refine AWp.seqK fun K88 hK88 => ?_
                refine AWp.region ?_
                obtain ⟨x89, gx89, hE⟩ := bindO_some hE
                refine AOps.s0 (Cert.idxMn (f := (intE .u8)) (n := s92_83) (TK rfl) rfl (TK rfl) rfl rfl rfl gx89) rfl ?_
                refine AOps.s0 (Cert.loadV (TK rfl) rfl rfl rfl) rfl ?_
                refine AOps.s0 (Cert.assign (by conv => lhs; whnf)) rfl ?_
                refine AOps.nil ?_
                refine hK88 _ ?_
                clear hK88 K88
                refine AWp.seqK fun K90 hK90 => ?_
                refine AWp.region ?_
                refine AOps.s0 (Cert.move (by conv => lhs; whnf)) rfl ?_
                refine AOps.s0 (Cert.orI rfl rfl) rfl ?_
                obtain ⟨x91, gx91, hE⟩ := bindO_some hE
                refine AOps.s0 (Cert.callP rfl rfl (fun H => Z31_walk gx91 H)) rfl ?_
                refine AOps.s0 (Cert.assign (by conv => lhs; whnf)) rfl ?_
                refine AOps.nil ?_
                refine hK90 _ ?_
                clear hK90 K90
                refine AWp.seqK fun K92 hK92 => ?_
                refine AWp.seqK fun K93 hK93 => ?_
                refine AWp.region ?_
                refine AOps.s0 (Cert.move (by conv => lhs; whnf)) rfl ?_
                refine AOps.s0 (Cert.binI rfl rfl rfl) rfl ?_
                refine AOps.s0 (Cert.move (by conv => lhs; whnf)) rfl ?_
                refine AOps.gC rfl rfl (fun hC => Cert.move (by conv => lhs; whnf)) rfl ?_
                refine AOps.gC rfl rfl (fun hC => Cert.ungd (k := 102) rfl (by first | exact hC | exact andL hC | exact andL (andL hC) | exact andL (andL (andL hC)) | exact andR hC | simp_all) (Cert.binI rfl rfl rfl)) rfl ?_
                refine AOps.s0 (Cert.pickOr rfl rfl rfl (fun h => by first | exact h | exact notT h | exact andI hC h | exact andI hC (notT h) | simp_all)) rfl ?_
                refine AOps.s0 (Cert.move (by conv => lhs; whnf)) rfl ?_
                refine AOps.gC rfl rfl (fun hC => Cert.move (by conv => lhs; whnf)) rfl ?_
                refine AOps.gC rfl rfl (fun hC => Cert.ungd (k := 106) rfl (by first | exact hC | exact andL hC | exact andL (andL hC) | exact andL (andL (andL hC)) | exact andR hC | simp_all) (Cert.binI rfl rfl rfl)) rfl ?_
                refine AOps.gC rfl rfl (fun hC => Cert.ungd (k := 107) rfl (by first | exact hC | exact andL hC | exact andL (andL hC) | exact andL (andL (andL hC)) | exact andR hC | simp_all) (Cert.move (by conv => lhs; whnf))) rfl ?_
                refine AOps.gC rfl rfl (fun hC => Cert.move (by conv => lhs; whnf)) rfl ?_
                refine AOps.gC rfl rfl (fun hC => Cert.ungd (k := 109) rfl (by first | exact hC | exact andL hC | exact andL (andL hC) | exact andL (andL (andL hC)) | exact andR hC | simp_all) (Cert.binI rfl rfl rfl)) rfl ?_
                refine AOps.gC rfl rfl (fun hC => Cert.ungd (k := 108) rfl (by first | exact hC | exact andL hC | exact andL (andL hC) | exact andL (andL (andL hC)) | exact andR hC | simp_all) (Cert.pickAnd rfl rfl (fun h => by first | exact h | exact notT h | exact andI hC h | exact andI hC (notT h) | simp_all) rfl)) rfl ?_
                refine AOps.s0 (Cert.pickOr rfl rfl rfl (fun h => by first | exact h | exact notT h | exact andI hC h | exact andI hC (notT h) | simp_all)) rfl ?_
                refine AOps.nil ?_
                refine hK93 _ ?_
                clear hK93 K93
                refine AWp.condE hE rfl (fun hc94 hE => ?_) (fun hc94 hE => ?_)
                ·refine AWp.seqK fun K95 hK95 => ?_
                 refine AWp.region ?_
                 refine AOps.s0 (Cert.assign (by conv => lhs; whnf)) rfl ?_
                 refine AOps.s0 (Cert.assign (by conv => lhs; whnf)) rfl ?_
                 refine AOps.nil ?_
                 refine hK95 _ ?_
                 clear hK95 K95
                 refine AWp.ret ?_
                 repeat (first | refine xBlock_ret ?_ | refine xThen_ret ?_)
                 obtain rfl := Option.some.inj hE
                 refine retQ.retF H rfl ⟨rfl, rfl⟩ ?_
                 intro id_ o_ he_
                 have e_tk4_16 : id_ ≠ tk4_16 := fun e_ => by subst e_; simp_all [Heap.set]
                 have e_id4_15 : id_ ≠ id4_15 := fun e_ => by subst e_; simp_all [Heap.set]
                 rw [← he_]
                 simp only [Heap.set] at he_ ⊢
                 (repeat' split) <;> simp_all
                ·refine AWp.skip ?_
                 refine hK92 _ ?_
                 clear hK92 K92
                 refine AWp.region ?_
                 refine AOps.s0 (Cert.move (by conv => lhs; whnf)) rfl ?_
                 obtain ⟨x96, gx96, hE⟩ := bindO_some hE
                 refine AOps.s0 (Cert.mulM rfl rfl gx96) rfl ?_
                 refine AOps.s0 (Cert.move (by conv => lhs; whnf)) rfl ?_
                 obtain ⟨x97, gx97, hE⟩ := bindO_some hE
                 refine AOps.s0 (Cert.addM rfl rfl gx97) rfl ?_
                 refine AOps.s0 (Cert.assign (by conv => lhs; whnf)) rfl ?_
                 refine AOps.nil ?_
                 refine hK87 _ ?_
                 clear hK87 K87
                 refine AWp.region ?_
                 refine AOps.s0 (Cert.addI rfl rfl (by first | omega | (dsimp only; omega) | (simp at *; omega)) (by first | omega | (dsimp only; omega) | (simp at *; omega))) rfl ?_
                 refine AOps.s0 (Cert.move (by conv => lhs; whnf)) rfl ?_
                 refine AOps.nil ?_
                 exact hK81 _ (n81, x97, (s92_83 + 1)) Weak.toA hE (Nat.lt_succ_self _)
               ·refine AWp.exit ?_
                exact hK66 _ s9_82 Weak.toA hE
            ·rintro s9_67 hE
             try dsimp only at hE
             unfold Z37_j66 at hE
             refine AWp.seqK fun K68 hK68 => ?_
             refine AWp.seqK fun K69 hK69 => ?_
             refine AWp.region ?_
             refine AOps.s0 (Cert.move (by conv => lhs; whnf)) rfl ?_
             refine AOps.s0 (Cert.binI rfl rfl rfl) rfl ?_
             refine AOps.nil ?_
             refine hK69 _ ?_
             clear hK69 K69
             refine AWp.condE hE rfl (fun hc70 hE => ?_) (fun hc70 hE => ?_)
             ·refine AWp.seqK fun K71 hK71 => ?_
              refine AWp.region ?_
              refine AOps.s0 (Cert.assign (by conv => lhs; whnf)) rfl ?_
              refine AOps.s0 (Cert.assign (by conv => lhs; whnf)) rfl ?_
              refine AOps.nil ?_
              refine hK71 _ ?_
              clear hK71 K71
              refine AWp.ret ?_
              repeat (first | refine xBlock_ret ?_ | refine xThen_ret ?_)
              obtain rfl := Option.some.inj hE
              refine retQ.retF H rfl ⟨rfl, rfl⟩ ?_
              intro id_ o_ he_
              have e_tk4_16 : id_ ≠ tk4_16 := fun e_ => by subst e_; simp_all [Heap.set]
              have e_id4_15 : id_ ≠ id4_15 := fun e_ => by subst e_; simp_all [Heap.set]
              rw [← he_]
              simp only [Heap.set] at he_ ⊢
              (repeat' split) <;> simp_all
             ·refine AWp.skip ?_
              refine hK68 _ ?_
              clear hK68 K68
              refine AWp.seqK fun K72 hK72 => ?_
              refine AWp.region ?_
              refine AOps.s0 (Cert.move (by conv => lhs; whnf)) rfl ?_
              refine AOps.s0 (Cert.convI (TK rfl) (TK rfl) rfl rfl) rfl ?_
              obtain ⟨x73, gx73, hE⟩ := bindO_some hE
              refine AOps.sH (Cert.callH rfl rfl (Z25_walk gx73 _ hpG hpG)) rfl ?_
              refine AOps.heq (h' := ((H.set tk4_16 (some (.tok 1 x73.2.Fbuf.l.length (some 5)))).set id4_15 (some (.tcells 68 (Strings_Builder.cg id4_15 (some tk4_16) x73.2))))) (by first | rfl | (rw [Heap.set_set]; rfl) | (funext n_; simp only [Heap.set]; (repeat' split) <;> first | rfl | (exfalso; simp_all; done) | (simp_all; done))) ?_
              refine AOps.nil ?_
              refine hK72 _ ?_
              clear hK72 K72
              refine AWp.region ?_
              refine AOps.s0 (Cert.move (by conv => lhs; whnf)) rfl ?_
              obtain ⟨x74, gx74, hE⟩ := bindO_some hE
              refine AOps.s0 (Cert.addM rfl rfl gx74) rfl ?_
              refine AOps.s0 (Cert.assign (by conv => lhs; whnf)) rfl ?_
              refine AOps.nil ?_
              exact hK29 _ (x74, x73.2) Weak.toA hE
      ·rintro ⟨s5_30, y31_id4_15⟩ hE
       try dsimp only at hE
       unfold Z37_j29 at hE
       refine AWp.region ?_
       refine AOps.s0 (Cert.move (by conv => lhs; whnf)) rfl ?_
       obtain ⟨x32, gx32, hE⟩ := bindO_some hE
       refine AOps.s0 (Cert.addM rfl rfl gx32) rfl ?_
       refine AOps.s0 (Cert.assign (by conv => lhs; whnf)) rfl ?_
       refine AOps.nil ?_
       exact hK22 _ (n22, x32, y31_id4_15) Weak.toA hE (Nat.lt_succ_self _)
     ·refine AWp.exit ?_
      exact hK17 _ y24_id4_15 Weak.toA hE
  ·rintro y18_id4_15 hE
   try dsimp only at hE
   unfold Z37_j17 at hE
   refine AWp.seqK fun K19 hK19 => ?_
   refine AWp.region ?_
   obtain ⟨x20, gx20, hE⟩ := bindO_some hE
   refine AOps.sH (Cert.callH rfl rfl (Z24_walk gx20 _ hpG hpG)) rfl ?_
   refine AOps.heq (h' := H) (by first | rfl | (rw [Heap.set_set]; rfl) | (funext n_; simp only [Heap.set]; (repeat' split) <;> first | rfl | (exfalso; simp_all; done) | (simp_all; done))) ?_
   refine AOps.s0 (Cert.assign (by conv => lhs; whnf)) rfl ?_
   refine AOps.s0 (Cert.assign (by conv => lhs; whnf)) rfl ?_
   refine AOps.nil ?_
   refine hK19 _ ?_
   clear hK19 K19
   refine AWp.ret ?_
   repeat (first | refine xBlock_ret ?_ | refine xThen_ret ?_)
   obtain rfl := Option.some.inj hE
   refine retQ.retF H rfl ⟨rfl, rfl⟩ ?_
   exact (fun _ _ h => h)
section
variable [IsLoud lou]
def Z43 (a0 : Bs) (a1 : Int) : Option (Token_Token × Int × Int) := (idxC a0 a1).bind fun x3 => (Z28 ([33, 36, 38, 40, 41, 58, 61, 64, 91, 93, 123, 124, 125] : Bs) (IntKind.wrap .i32 ((x3.toNat : Nat) : Int))).bind fun x6 => bif x6 then ((addC a1 (1 : Int)).bind fun x9 => (cutC a0 (some a1) (some x9)).bind fun x10 => (addC a1 (1 : Int)).bind fun x11 => some ((Token_Token.mk (1 : Int) x10 a1), x11, (0 : Int))) else (bif (decide ((IntKind.wrap .i32 ((x3.toNat : Nat) : Int)) = (46 : Int))) then ((cutC a0 (some a1) none).bind fun x16 => (Z29 x16 ([46, 46, 46] : Bs)).bind fun x17 => bif (!x17) then (some ((Token_Token.mk (0 : Int) ([] : Bs) (0 : Int)), (0 : Int), (3 : Int))) else ((addC a1 (3 : Int)).bind fun x21 => some ((Token_Token.mk (1 : Int) ([46, 46, 46] : Bs) a1), x21, (0 : Int)))) else (bif ((decide ((IntKind.wrap .i32 ((x3.toNat : Nat) : Int)) = (45 : Int))) || ((decide ((48 : Int) ≤ (IntKind.wrap .i32 ((x3.toNat : Nat) : Int)))) && (decide ((IntKind.wrap .i32 ((x3.toNat : Nat) : Int)) ≤ (57 : Int))))) then ((addC a1 (1 : Int)).bind fun x25 => (Z45 a0 x25 Z41).bind fun x26 => (cutC a0 (some a1) (some x26)).bind fun x28 => (Z35 x28).bind fun x29 => (cutC a0 (some a1) (some x26)).bind fun x31 => some ((Token_Token.mk (3 : Int) x31 a1), x26, x29.2)) else ((Z41 (IntKind.wrap .i32 ((x3.toNat : Nat) : Int))).bind fun x33 => bif x33 then ((Z45 a0 a1 Z41).bind fun x36 => (subC x36 a1).bind fun x39 => bif (decide ((64 : Int) < x39)) then (some ((Token_Token.mk (0 : Int) ([] : Bs) (0 : Int)), (0 : Int), (3 : Int))) else ((cutC a0 (some a1) (some x36)).bind fun x43 => some ((Token_Token.mk (2 : Int) x43 a1), x36, (0 : Int)))) else (bif (decide ((IntKind.wrap .i32 ((x3.toNat : Nat) : Int)) = (34 : Int))) then ((Z42 a0 a1).bind fun x47 => bif (decide (x47 < (0 : Int))) then (some ((Token_Token.mk (0 : Int) ([] : Bs) (0 : Int)), (0 : Int), (3 : Int))) else ((cutC a0 (some a1) (some x47)).bind fun x53 => (Z37 x53).bind fun x54 => some ((Token_Token.mk (4 : Int) x54.1 a1), x47, x54.2))) else (some ((Token_Token.mk (0 : Int) ([] : Bs) (0 : Int)), (0 : Int), (3 : Int)))))))
set_option maxRecDepth 100000 in
set_option maxHeartbeats 2000000 in
theorem Z43_walk {a0 : Bs} {a1 : Int} {oE : Ab.Obj} {gE : Nat} {r : (Token_Token × Int × Int)} (hE : Z43 a0 a1 = some r) (H : Heap) (hgE : H gE = some oE) (hoE : IsErr Tryd.prog oE) : ACalls Tryd.prog 31 [.d (.str a0), .d (.int .i64 a1)] H fun v h' => v = .tup [.agg (Token_Token.c r.1), .d (.int .i64 r.2.1), .d (.int .i64 r.2.2)] ∧ h' = H := by
 unfold Z43 at hE
 refine ACalls.of_wp (fn := Tryd.f31) (c := _) Tryd.tab_ok (fun _ _ => Tryd.call31 _ _) Tryd.func31 rfl (n := 116) rfl (rs := [.cell 4 37, .tmp 5, .tmp 6]) rfl rfl ?_
 refine AWp.seqK fun K1 hK1 => ?_
 refine AWp.region ?_
 refine AOps.sL (Cert.allocL (TK rfl) rfl (by repeat (first | exact Snoc.nil | apply Snoc.cons))) rfl ?_
 refine AOps.s0 (Cert.assign (by conv => lhs; whnf)) rfl ?_
 refine AOps.s0 (Cert.assign (by conv => lhs; whnf)) rfl ?_
 refine AOps.nil ?_
 refine hK1 _ ?_
 clear hK1 K1
 refine AWp.seqK fun K2 hK2 => ?_
 refine AWp.region ?_
 refine AOps.s0 (Cert.move (by conv => lhs; whnf)) rfl ?_
 refine AOps.s0 (Cert.move (by conv => lhs; whnf)) rfl ?_
 obtain ⟨x3, gx3, hE⟩ := bindO_some hE
 refine AOps.s0 (Cert.idxS (TK rfl) rfl rfl rfl gx3) rfl ?_
 refine AOps.s0 (Cert.convI (TK rfl) (TK rfl) rfl rfl) rfl ?_
 refine AOps.s0 (Cert.assign (by conv => lhs; whnf)) rfl ?_
 refine AOps.nil ?_
 refine hK2 _ ?_
 clear hK2 K2
 refine AWp.seqK fun K4 hK4 => ?_
 refine AWp.block ?_
 refine AWp.seqK fun K5 hK5 => ?_
 refine AWp.region ?_
 refine AOps.s0 (Cert.move (by conv => lhs; whnf)) rfl ?_
 obtain ⟨x6, gx6, hE⟩ := bindO_some hE
 refine AOps.s0 (Cert.callP rfl rfl (fun H => Z28_walk gx6 H)) rfl ?_
 refine AOps.s0 (Cert.assign (by conv => lhs; whnf)) rfl ?_
 refine AOps.nil ?_
 refine hK5 _ ?_
 clear hK5 K5
 refine AWp.condE hE rfl (fun hc7 hE => ?_) (fun hc7 hE => ?_)
 ·refine AWp.seqK fun K8 hK8 => ?_
  refine AWp.region ?_
  refine AOps.s0 (Cert.move (by conv => lhs; whnf)) rfl ?_
  refine AOps.s0 (Cert.move (by conv => lhs; whnf)) rfl ?_
  refine AOps.s0 (Cert.move (by conv => lhs; whnf)) rfl ?_
  obtain ⟨x9, gx9, hE⟩ := bindO_some hE
  refine AOps.s0 (Cert.addM rfl rfl gx9) rfl ?_
  obtain ⟨x10, gx10, hE⟩ := bindO_some hE
  refine AOps.s0 (Cert.cutM (l := (some a1)) (r := (some x9)) (TK rfl) rfl rfl rfl rfl (by simp) gx10) rfl ?_
  refine AOps.s0 (Cert.move (by conv => lhs; whnf)) rfl ?_
  refine AOps.s0 (Cert.build Tryd.tab_ok rfl rfl rfl rfl rfl rfl) rfl ?_
  refine AOps.s0 (Cert.move (by conv => lhs; whnf)) rfl ?_
  obtain ⟨x11, gx11, hE⟩ := bindO_some hE
  refine AOps.s0 (Cert.addM rfl rfl gx11) rfl ?_
  refine AOps.sLn (Cert.storeLF (TK rfl) rfl rfl rfl rfl rfl (by repeat (first | exact SetAt.zero | apply SetAt.succ))) ?_
  refine AOps.s0 (Cert.assign (by conv => lhs; whnf)) rfl ?_
  refine AOps.s0 (Cert.assign (by conv => lhs; whnf)) rfl ?_
  refine AOps.nil ?_
  refine hK8 _ ?_
  clear hK8 K8
  refine AWp.ret ?_
  repeat (first | refine xBlock_ret ?_ | refine xThen_ret ?_)
  obtain rfl := Option.some.inj hE
  refine retQ.retF H rfl ⟨rfl, rfl⟩ ?_
  exact (fun _ _ h => h)
 ·refine AWp.seqK fun K12 hK12 => ?_
  refine AWp.region ?_
  refine AOps.s0 (Cert.move (by conv => lhs; whnf)) rfl ?_
  refine AOps.s0 (Cert.binI rfl rfl rfl) rfl ?_
  refine AOps.s0 (Cert.assign (by conv => lhs; whnf)) rfl ?_
  refine AOps.nil ?_
  refine hK12 _ ?_
  clear hK12 K12
  refine AWp.condE hE rfl (fun hc13 hE => ?_) (fun hc13 hE => ?_)
  ·refine AWp.seqK fun K14 hK14 => ?_
   refine AWp.seqK fun K15 hK15 => ?_
   refine AWp.region ?_
   refine AOps.s0 (Cert.move (by conv => lhs; whnf)) rfl ?_
   refine AOps.s0 (Cert.move (by conv => lhs; whnf)) rfl ?_
   obtain ⟨x16, gx16, hE⟩ := bindO_some hE
   refine AOps.s0 (Cert.cutM (l := (some a1)) (r := none) (TK rfl) rfl rfl rfl trivial (by simp) gx16) rfl ?_
   obtain ⟨x17, gx17, hE⟩ := bindO_some hE
   refine AOps.s0 (Cert.callP rfl rfl (fun H => Z29_walk gx17 H)) rfl ?_
   refine AOps.s0 (Cert.notB rfl) rfl ?_
   refine AOps.nil ?_
   refine hK15 _ ?_
   clear hK15 K15
   refine AWp.condE hE rfl (fun hc18 hE => ?_) (fun hc18 hE => ?_)
   ·refine AWp.seqK fun K19 hK19 => ?_
    refine AWp.region ?_
    refine AOps.s0 (Cert.build Tryd.tab_ok rfl rfl rfl rfl rfl rfl) rfl ?_
    refine AOps.sLn (Cert.storeLF (TK rfl) rfl rfl rfl rfl rfl (by repeat (first | exact SetAt.zero | apply SetAt.succ))) ?_
    refine AOps.s0 (Cert.assign (by conv => lhs; whnf)) rfl ?_
    refine AOps.s0 (Cert.assign (by conv => lhs; whnf)) rfl ?_
    refine AOps.nil ?_
    refine hK19 _ ?_
    clear hK19 K19
    refine AWp.ret ?_
    repeat (first | refine xBlock_ret ?_ | refine xThen_ret ?_)
    obtain rfl := Option.some.inj hE
    refine retQ.retF H rfl ⟨rfl, rfl⟩ ?_
    exact (fun _ _ h => h)
   ·refine AWp.skip ?_
    refine hK14 _ ?_
    clear hK14 K14
    refine AWp.seqK fun K20 hK20 => ?_
    refine AWp.region ?_
    refine AOps.s0 (Cert.move (by conv => lhs; whnf)) rfl ?_
    refine AOps.s0 (Cert.build Tryd.tab_ok rfl rfl rfl rfl rfl rfl) rfl ?_
    refine AOps.s0 (Cert.move (by conv => lhs; whnf)) rfl ?_
    obtain ⟨x21, gx21, hE⟩ := bindO_some hE
    refine AOps.s0 (Cert.addM rfl rfl gx21) rfl ?_
    refine AOps.sLn (Cert.storeLF (TK rfl) rfl rfl rfl rfl rfl (by repeat (first | exact SetAt.zero | apply SetAt.succ))) ?_
    refine AOps.s0 (Cert.assign (by conv => lhs; whnf)) rfl ?_
    refine AOps.s0 (Cert.assign (by conv => lhs; whnf)) rfl ?_
    refine AOps.nil ?_
    refine hK20 _ ?_
    clear hK20 K20
    refine AWp.ret ?_
    repeat (first | refine xBlock_ret ?_ | refine xThen_ret ?_)
    obtain rfl := Option.some.inj hE
    refine retQ.retF H rfl ⟨rfl, rfl⟩ ?_
    exact (fun _ _ h => h)
  ·refine AWp.seqK fun K22 hK22 => ?_
   refine AWp.region ?_
   refine AOps.s0 (Cert.move (by conv => lhs; whnf)) rfl ?_
   refine AOps.s0 (Cert.binI rfl rfl rfl) rfl ?_
   refine AOps.s0 (Cert.move (by conv => lhs; whnf)) rfl ?_
   refine AOps.gC rfl rfl (fun hC => Cert.move (by conv => lhs; whnf)) rfl ?_
   refine AOps.gC rfl rfl (fun hC => Cert.ungd (k := 48) rfl (by first | exact hC | exact andL hC | exact andL (andL hC) | exact andL (andL (andL hC)) | exact andR hC | simp_all) (Cert.binI rfl rfl rfl)) rfl ?_
   refine AOps.gC rfl rfl (fun hC => Cert.ungd (k := 49) rfl (by first | exact hC | exact andL hC | exact andL (andL hC) | exact andL (andL (andL hC)) | exact andR hC | simp_all) (Cert.move (by conv => lhs; whnf))) rfl ?_
   refine AOps.gC rfl rfl (fun hC => Cert.move (by conv => lhs; whnf)) rfl ?_
   refine AOps.gC rfl rfl (fun hC => Cert.ungd (k := 51) rfl (by first | exact hC | exact andL hC | exact andL (andL hC) | exact andL (andL (andL hC)) | exact andR hC | simp_all) (Cert.binI rfl rfl rfl)) rfl ?_
   refine AOps.gC rfl rfl (fun hC => Cert.ungd (k := 50) rfl (by first | exact hC | exact andL hC | exact andL (andL hC) | exact andL (andL (andL hC)) | exact andR hC | simp_all) (Cert.pickAnd rfl rfl (fun h => by first | exact h | exact notT h | exact andI hC h | exact andI hC (notT h) | simp_all) rfl)) rfl ?_
   refine AOps.s0 (Cert.pickOr rfl rfl rfl (fun h => by first | exact h | exact notT h | exact andI hC h | exact andI hC (notT h) | simp_all)) rfl ?_
   refine AOps.s0 (Cert.assign (by conv => lhs; whnf)) rfl ?_
   refine AOps.nil ?_
   refine hK22 _ ?_
   clear hK22 K22
   refine AWp.condE hE rfl (fun hc23 hE => ?_) (fun hc23 hE => ?_)
   ·refine AWp.seqK fun K24 hK24 => ?_
    refine AWp.region ?_
    refine AOps.s0 (Cert.move (by conv => lhs; whnf)) rfl ?_
    refine AOps.s0 (Cert.move (by conv => lhs; whnf)) rfl ?_
    obtain ⟨x25, gx25, hE⟩ := bindO_some hE
    refine AOps.s0 (Cert.addM rfl rfl gx25) rfl ?_
    obtain ⟨x26, gx26, hE⟩ := bindO_some hE
    refine AOps.s0 (Cert.callP rfl rfl (fun H => Z45_walk gx26 H (fun _ _ hx => Z41_walk hx))) rfl ?_
    refine AOps.s0 (Cert.assign (by conv => lhs; whnf)) rfl ?_
    refine AOps.nil ?_
    refine hK24 _ ?_
    clear hK24 K24
    refine AWp.seqK fun K27 hK27 => ?_
    refine AWp.region ?_
    refine AOps.s0 (Cert.move (by conv => lhs; whnf)) rfl ?_
    refine AOps.s0 (Cert.move (by conv => lhs; whnf)) rfl ?_
    refine AOps.s0 (Cert.move (by conv => lhs; whnf)) rfl ?_
    obtain ⟨x28, gx28, hE⟩ := bindO_some hE
    refine AOps.s0 (Cert.cutM (l := (some a1)) (r := (some x26)) (TK rfl) rfl rfl rfl rfl (by simp) gx28) rfl ?_
    obtain ⟨x29, gx29, hE⟩ := bindO_some hE
    refine AOps.s0 (Cert.callR rfl rfl (Z35_walk (gE := gE) (oE := oE) gx29 _ hpG (by assumption))) rfl ?_
    refine AOps.s0 (Cert.move (by conv => lhs; whnf)) rfl ?_
    refine AOps.s0 (Cert.extract rfl rfl) rfl ?_
    refine AOps.s0 (Cert.extract rfl rfl) rfl ?_
    refine AOps.s0 (Cert.assign (by conv => lhs; whnf)) rfl ?_
    refine AOps.s0 (Cert.assign (by conv => lhs; whnf)) rfl ?_
    refine AOps.nil ?_
    refine hK27 _ ?_
    clear hK27 K27
    refine AWp.seqK fun K30 hK30 => ?_
    refine AWp.region ?_
    refine AOps.s0 (Cert.move (by conv => lhs; whnf)) rfl ?_
    refine AOps.s0 (Cert.move (by conv => lhs; whnf)) rfl ?_
    refine AOps.s0 (Cert.move (by conv => lhs; whnf)) rfl ?_
    obtain ⟨x31, gx31, hE⟩ := bindO_some hE
    refine AOps.s0 (Cert.cutM (l := (some a1)) (r := (some x26)) (TK rfl) rfl rfl rfl rfl (by simp) gx31) rfl ?_
    refine AOps.s0 (Cert.move (by conv => lhs; whnf)) rfl ?_
    refine AOps.s0 (Cert.build Tryd.tab_ok rfl rfl rfl rfl rfl rfl) rfl ?_
    refine AOps.s0 (Cert.move (by conv => lhs; whnf)) rfl ?_
    refine AOps.s0 (Cert.move (by conv => lhs; whnf)) rfl ?_
    refine AOps.sLn (Cert.storeLF (TK rfl) rfl rfl rfl rfl rfl (by repeat (first | exact SetAt.zero | apply SetAt.succ))) ?_
    refine AOps.s0 (Cert.assign (by conv => lhs; whnf)) rfl ?_
    refine AOps.s0 (Cert.assign (by conv => lhs; whnf)) rfl ?_
    refine AOps.nil ?_
    refine hK30 _ ?_
    clear hK30 K30
    refine AWp.ret ?_
    repeat (first | refine xBlock_ret ?_ | refine xThen_ret ?_)
    obtain rfl := Option.some.inj hE
    refine retQ.retF H rfl ⟨rfl, rfl⟩ ?_
    exact (fun _ _ h => h)
   ·refine AWp.seqK fun K32 hK32 => ?_
    refine AWp.region ?_
    refine AOps.s0 (Cert.move (by conv => lhs; whnf)) rfl ?_
    obtain ⟨x33, gx33, hE⟩ := bindO_some hE
    refine AOps.s0 (Cert.callP rfl rfl (fun H => Z41_walk gx33 H)) rfl ?_
    refine AOps.s0 (Cert.assign (by conv => lhs; whnf)) rfl ?_
    refine AOps.nil ?_
    refine hK32 _ ?_
    clear hK32 K32
    refine AWp.condE hE rfl (fun hc34 hE => ?_) (fun hc34 hE => ?_)
    ·refine AWp.seqK fun K35 hK35 => ?_
     refine AWp.region ?_
     refine AOps.s0 (Cert.move (by conv => lhs; whnf)) rfl ?_
     refine AOps.s0 (Cert.move (by conv => lhs; whnf)) rfl ?_
     obtain ⟨x36, gx36, hE⟩ := bindO_some hE
     refine AOps.s0 (Cert.callP rfl rfl (fun H => Z45_walk gx36 H (fun _ _ hx => Z41_walk hx))) rfl ?_
     refine AOps.s0 (Cert.assign (by conv => lhs; whnf)) rfl ?_
     refine AOps.nil ?_
     refine hK35 _ ?_
     clear hK35 K35
     refine AWp.seqK fun K37 hK37 => ?_
     refine AWp.seqK fun K38 hK38 => ?_
     refine AWp.region ?_
     refine AOps.s0 (Cert.move (by conv => lhs; whnf)) rfl ?_
     refine AOps.s0 (Cert.move (by conv => lhs; whnf)) rfl ?_
     obtain ⟨x39, gx39, hE⟩ := bindO_some hE
     refine AOps.s0 (Cert.subM rfl rfl gx39) rfl ?_
     refine AOps.s0 (Cert.binI rfl rfl rfl) rfl ?_
     refine AOps.nil ?_
     refine hK38 _ ?_
     clear hK38 K38
     refine AWp.condE hE rfl (fun hc40 hE => ?_) (fun hc40 hE => ?_)
     ·refine AWp.seqK fun K41 hK41 => ?_
      refine AWp.region ?_
      refine AOps.s0 (Cert.build Tryd.tab_ok rfl rfl rfl rfl rfl rfl) rfl ?_
      refine AOps.sLn (Cert.storeLF (TK rfl) rfl rfl rfl rfl rfl (by repeat (first | exact SetAt.zero | apply SetAt.succ))) ?_
      refine AOps.s0 (Cert.assign (by conv => lhs; whnf)) rfl ?_
      refine AOps.s0 (Cert.assign (by conv => lhs; whnf)) rfl ?_
      refine AOps.nil ?_
      refine hK41 _ ?_
      clear hK41 K41
      refine AWp.ret ?_
      repeat (first | refine xBlock_ret ?_ | refine xThen_ret ?_)
      obtain rfl := Option.some.inj hE
      refine retQ.retF H rfl ⟨rfl, rfl⟩ ?_
      exact (fun _ _ h => h)
     ·refine AWp.skip ?_
      refine hK37 _ ?_
      clear hK37 K37
      refine AWp.seqK fun K42 hK42 => ?_
      refine AWp.region ?_
      refine AOps.s0 (Cert.move (by conv => lhs; whnf)) rfl ?_
      refine AOps.s0 (Cert.move (by conv => lhs; whnf)) rfl ?_
      refine AOps.s0 (Cert.move (by conv => lhs; whnf)) rfl ?_
      obtain ⟨x43, gx43, hE⟩ := bindO_some hE
      refine AOps.s0 (Cert.cutM (l := (some a1)) (r := (some x36)) (TK rfl) rfl rfl rfl rfl (by simp) gx43) rfl ?_
      refine AOps.s0 (Cert.move (by conv => lhs; whnf)) rfl ?_
      refine AOps.s0 (Cert.build Tryd.tab_ok rfl rfl rfl rfl rfl rfl) rfl ?_
      refine AOps.s0 (Cert.move (by conv => lhs; whnf)) rfl ?_
      refine AOps.sLn (Cert.storeLF (TK rfl) rfl rfl rfl rfl rfl (by repeat (first | exact SetAt.zero | apply SetAt.succ))) ?_
      refine AOps.s0 (Cert.assign (by conv => lhs; whnf)) rfl ?_
      refine AOps.s0 (Cert.assign (by conv => lhs; whnf)) rfl ?_
      refine AOps.nil ?_
      refine hK42 _ ?_
      clear hK42 K42
      refine AWp.ret ?_
      repeat (first | refine xBlock_ret ?_ | refine xThen_ret ?_)
      obtain rfl := Option.some.inj hE
      refine retQ.retF H rfl ⟨rfl, rfl⟩ ?_
      exact (fun _ _ h => h)
    ·refine AWp.seqK fun K44 hK44 => ?_
     refine AWp.region ?_
     refine AOps.s0 (Cert.move (by conv => lhs; whnf)) rfl ?_
     refine AOps.s0 (Cert.binI rfl rfl rfl) rfl ?_
     refine AOps.s0 (Cert.assign (by conv => lhs; whnf)) rfl ?_
     refine AOps.nil ?_
     refine hK44 _ ?_
     clear hK44 K44
     refine AWp.condE hE rfl (fun hc45 hE => ?_) (fun hc45 hE => ?_)
     ·refine AWp.seqK fun K46 hK46 => ?_
      refine AWp.region ?_
      refine AOps.s0 (Cert.move (by conv => lhs; whnf)) rfl ?_
      refine AOps.s0 (Cert.move (by conv => lhs; whnf)) rfl ?_
      obtain ⟨x47, gx47, hE⟩ := bindO_some hE
      refine AOps.s0 (Cert.callP rfl rfl (fun H => Z42_walk gx47 H)) rfl ?_
      refine AOps.s0 (Cert.assign (by conv => lhs; whnf)) rfl ?_
      refine AOps.nil ?_
      refine hK46 _ ?_
      clear hK46 K46
      refine AWp.seqK fun K48 hK48 => ?_
      refine AWp.seqK fun K49 hK49 => ?_
      refine AWp.region ?_
      refine AOps.s0 (Cert.move (by conv => lhs; whnf)) rfl ?_
      refine AOps.s0 (Cert.binI rfl rfl rfl) rfl ?_
      refine AOps.nil ?_
      refine hK49 _ ?_
      clear hK49 K49
      refine AWp.condE hE rfl (fun hc50 hE => ?_) (fun hc50 hE => ?_)
      ·refine AWp.seqK fun K51 hK51 => ?_
       refine AWp.region ?_
       refine AOps.s0 (Cert.build Tryd.tab_ok rfl rfl rfl rfl rfl rfl) rfl ?_
       refine AOps.sLn (Cert.storeLF (TK rfl) rfl rfl rfl rfl rfl (by repeat (first | exact SetAt.zero | apply SetAt.succ))) ?_
       refine AOps.s0 (Cert.assign (by conv => lhs; whnf)) rfl ?_
       refine AOps.s0 (Cert.assign (by conv => lhs; whnf)) rfl ?_
       refine AOps.nil ?_
       refine hK51 _ ?_
       clear hK51 K51
       refine AWp.ret ?_
       repeat (first | refine xBlock_ret ?_ | refine xThen_ret ?_)
       obtain rfl := Option.some.inj hE
       refine retQ.retF H rfl ⟨rfl, rfl⟩ ?_
       exact (fun _ _ h => h)
      ·refine AWp.skip ?_
       refine hK48 _ ?_
       clear hK48 K48
       refine AWp.seqK fun K52 hK52 => ?_
       refine AWp.region ?_
       refine AOps.s0 (Cert.move (by conv => lhs; whnf)) rfl ?_
       refine AOps.s0 (Cert.move (by conv => lhs; whnf)) rfl ?_
       refine AOps.s0 (Cert.move (by conv => lhs; whnf)) rfl ?_
       obtain ⟨x53, gx53, hE⟩ := bindO_some hE
       refine AOps.s0 (Cert.cutM (l := (some a1)) (r := (some x47)) (TK rfl) rfl rfl rfl rfl (by simp) gx53) rfl ?_
       obtain ⟨x54, gx54, hE⟩ := bindO_some hE
       refine AOps.s0 (Cert.callP rfl rfl (fun H => Z37_walk gx54 H)) rfl ?_
       refine AOps.s0 (Cert.move (by conv => lhs; whnf)) rfl ?_
       refine AOps.s0 (Cert.extract rfl rfl) rfl ?_
       refine AOps.s0 (Cert.extract rfl rfl) rfl ?_
       refine AOps.s0 (Cert.assign (by conv => lhs; whnf)) rfl ?_
       refine AOps.s0 (Cert.assign (by conv => lhs; whnf)) rfl ?_
       refine AOps.nil ?_
       refine hK52 _ ?_
       clear hK52 K52
       refine AWp.seqK fun K55 hK55 => ?_
       refine AWp.region ?_
       refine AOps.s0 (Cert.move (by conv => lhs; whnf)) rfl ?_
       refine AOps.s0 (Cert.move (by conv => lhs; whnf)) rfl ?_
       refine AOps.s0 (Cert.build Tryd.tab_ok rfl rfl rfl rfl rfl rfl) rfl ?_
       refine AOps.s0 (Cert.move (by conv => lhs; whnf)) rfl ?_
       refine AOps.s0 (Cert.move (by conv => lhs; whnf)) rfl ?_
       refine AOps.sLn (Cert.storeLF (TK rfl) rfl rfl rfl rfl rfl (by repeat (first | exact SetAt.zero | apply SetAt.succ))) ?_
       refine AOps.s0 (Cert.assign (by conv => lhs; whnf)) rfl ?_
       refine AOps.s0 (Cert.assign (by conv => lhs; whnf)) rfl ?_
       refine AOps.nil ?_
       refine hK55 _ ?_
       clear hK55 K55
       refine AWp.ret ?_
       repeat (first | refine xBlock_ret ?_ | refine xThen_ret ?_)
       obtain rfl := Option.some.inj hE
       refine retQ.retF H rfl ⟨rfl, rfl⟩ ?_
       exact (fun _ _ h => h)
     ·refine AWp.skip ?_
      refine hK4 _ ?_
      clear hK4 K4
      refine AWp.seqK fun K56 hK56 => ?_
      refine AWp.region ?_
      refine AOps.s0 (Cert.build Tryd.tab_ok rfl rfl rfl rfl rfl rfl) rfl ?_
      refine AOps.sLn (Cert.storeLF (TK rfl) rfl rfl rfl rfl rfl (by repeat (first | exact SetAt.zero | apply SetAt.succ))) ?_
      refine AOps.s0 (Cert.assign (by conv => lhs; whnf)) rfl ?_
      refine AOps.s0 (Cert.assign (by conv => lhs; whnf)) rfl ?_
      refine AOps.nil ?_
      refine hK56 _ ?_
      clear hK56 K56
      refine AWp.ret ?_
      repeat (first | refine xBlock_ret ?_ | refine xThen_ret ?_)
      obtain rfl := Option.some.inj hE
      refine retQ.retF H rfl ⟨rfl, rfl⟩ ?_
      exact (fun _ _ h => h)
end
end Go.Proofs

namespace Go.Proofs
open Go Go.Ab
variable {lou : Lou}
section
variable [IsLoud lou]
def Z40_j8 (a0 : Bs)  (s5_9 : (Sl Token_Token)) : Option ((Sl Token_Token) × Int × Int) := (appC 32 s5_9 (⟨false, [(Token_Token.mk (5 : Int) ([] : Bs) ((a0.length : Nat) : Int))]⟩ : Sl Token_Token)).bind fun x12 => some (x12, (0 : Int), (0 : Int))
def Z40_l15 (a0 : Bs)  : Nat → (Sl Token_Token) → Int → Option ((Sl Token_Token) × Int × Int)
 | 0, _, _ => none
 | n15 + 1, s5_16, s6_17 => bif (decide (s6_17 < ((a0.length : Nat) : Int))) then ((Z43 a0 s6_17).bind fun x24 => bif (!decide (x24.2.2 = (0 : Int))) then (some ((Sl.nil : Sl Token_Token), s6_17, x24.2.2)) else ((appC 32 s5_16 (⟨false, [x24.1]⟩ : Sl Token_Token)).bind fun x30 => (Z44 a0 x24.2.1).bind fun x31 => (Z40_l15 a0 n15) x30 x31)) else (Z40_j8 a0  s5_16)
def Z40 (a0 : Bs) : Option ((Sl Token_Token) × Int × Int) := bif (decide ((65536 : Int) < ((a0.length : Nat) : Int))) then (some ((Sl.nil : Sl Token_Token), (65536 : Int), (4 : Int))) else ((Z44 a0 (0 : Int)).bind fun x14 => Z40_l15 a0 F0 (Sl.nil : Sl Token_Token) x14)
set_option maxRecDepth 100000 in
set_option maxHeartbeats 2000000 in
theorem Z40_walk {a0 : Bs} {oE : Ab.Obj} {gE : Nat} {r : ((Sl Token_Token) × Int × Int)} (hE : Z40 a0 = some r) (H : Heap) (hgE : H gE = some oE) (hoE : IsErr Tryd.prog oE) : ACalls Tryd.prog 13 [.d (.str a0)] H fun v h' => v = .tup [.d (Sl.d 3 Token_Token.c none r.1), .d (.int .i64 r.2.1), .d (.int .i64 r.2.2)] ∧ h' = H := by
 unfold Z40 at hE
 refine ACalls.of_wp (fn := Tryd.f13) (c := _) Tryd.tab_ok (fun _ _ => Tryd.call13 _ _) Tryd.func13 rfl (n := 44) rfl (rs := [.tmp 2, .tmp 3, .tmp 4]) rfl rfl ?_
 refine AWp.tok 3 fun tk1 htk1 => ?_
 have ne_tk1_gE : tk1 ≠ gE := fun e_ => by subst e_; simp_all
 refine AWp.seqK fun K1 hK1 => ?_
 refine AWp.region ?_
 refine AOps.s0 (Cert.assignNil (k' := 3) rfl) rfl ?_
 refine AOps.s0 (Cert.assign (by conv => lhs; whnf)) rfl ?_
 refine AOps.s0 (Cert.assign (by conv => lhs; whnf)) rfl ?_
 refine AOps.nil ?_
 refine hK1 _ ?_
 clear hK1 K1
 refine AWp.seqK fun K2 hK2 => ?_
 refine AWp.seqK fun K3 hK3 => ?_
 refine AWp.region ?_
 refine AOps.s0 (Cert.move (by conv => lhs; whnf)) rfl ?_
 refine AOps.sLenS (TK rfl) rfl rfl rfl rfl fun hL4 => ?_
 refine AOps.s0 (Cert.binI rfl rfl rfl) rfl ?_
 refine AOps.nil ?_
 refine hK3 _ ?_
 clear hK3 K3
 refine AWp.condE hE rfl (fun hc5 hE => ?_) (fun hc5 hE => ?_)
 ·refine AWp.seqK fun K6 hK6 => ?_
  refine AWp.region ?_
  refine AOps.s0 (Cert.assignNil (k' := 3) rfl) rfl ?_
  refine AOps.s0 (Cert.assign (by conv => lhs; whnf)) rfl ?_
  refine AOps.s0 (Cert.assign (by conv => lhs; whnf)) rfl ?_
  refine AOps.nil ?_
  refine hK6 _ ?_
  clear hK6 K6
  refine AWp.ret ?_
  repeat (first | refine xBlock_ret ?_ | refine xThen_ret ?_)
  obtain rfl := Option.some.inj hE
  refine retQ.retF H rfl ⟨rfl, rfl⟩ ?_
  first | exact Heap.sub_set htk1 | (simp only [Heap.set_set]; exact Heap.sub_set htk1)
 ·refine AWp.skip ?_
  refine hK2 _ ?_
  clear hK2 K2
  refine AWp.seqK fun K7 hK7 => ?_
  refine AWp.region ?_
  refine AOps.s0 (Cert.assign (by conv => lhs; whnf)) rfl ?_
  refine AOps.nil ?_
  refine hK7 _ ?_
  clear hK7 K7
  refine AWp.nilTok 5 3 tk1 rfl hpG ?_
  refine AWp.seqJH (KeepsT.cons (k := 0) (by conv => lhs; whnf) KeepsT.nil) (fun (z : (Sl Token_Token)) => [(5, .a (.d (Sl.d 3 Token_Token.c (some tk1) z)))]) (fun z => (H.set tk1 (some (.tok 3 z.l.length)))) (fun z => Z40_j8 a0 z = some r) ?_ ?_
  ·intro K8 hK8
   refine AWp.seqK fun K13 hK13 => ?_
   refine AWp.region ?_
   refine AOps.s0 (Cert.move (by conv => lhs; whnf)) rfl ?_
   obtain ⟨x14, gx14, hE⟩ := bindO_some hE
   refine AOps.s0 (Cert.callP rfl rfl (fun H => Z44_walk gx14 H)) rfl ?_
   refine AOps.s0 (Cert.assign (by conv => lhs; whnf)) rfl ?_
   refine AOps.nil ?_
   refine hK13 _ ?_
   clear hK13 K13
   refine AWp.block ?_
   refine AWp.loopH (KeepsT.cons (k := 0) (by conv => lhs; whnf) KeepsT.nil) (fun (z : Nat × (Sl Token_Token) × Int) => [(5, .a (.d (Sl.d 3 Token_Token.c (some tk1) z.2.1))), (6, .a (.d (.int .i64 z.2.2)))]) (fun z => (H.set tk1 (some (.tok 3 z.2.1.l.length)))) (fun z => z.1) (fun z => Z40_l15 a0 z.1 z.2.1 z.2.2 = some r) (F0, (Sl.nil : Sl Token_Token), x14) hE Weak.toA ?_
   rintro ⟨n15, s5_16, s6_17⟩ hE K15 hK15
   try dsimp only at hE
   cases n15 with
   | zero => cases hE
   | succ n15 =>
     rw [Z40_l15] at hE
     refine AWp.seqK fun K18 hK18 => ?_
     refine AWp.seqK fun K19 hK19 => ?_
     refine AWp.region ?_
     refine AOps.s0 (Cert.move (by conv => lhs; whnf)) rfl ?_
     refine AOps.s0 (Cert.move (by conv => lhs; whnf)) rfl ?_
     refine AOps.sLenS (TK rfl) rfl rfl rfl rfl fun hL20 => ?_
     refine AOps.s0 (Cert.binI rfl rfl rfl) rfl ?_
     refine AOps.nil ?_
     refine hK19 _ ?_
     clear hK19 K19
     refine AWp.condE hE rfl (fun hc21 hE => ?_) (fun hc21 hE => ?_)
     ·refine AWp.skip ?_
      refine hK18 _ ?_
      clear hK18 K18
      refine AWp.seqK fun K22 hK22 => ?_
      refine AWp.block ?_
      refine AWp.seqK fun K23 hK23 => ?_
      refine AWp.region ?_
      refine AOps.s0 (Cert.move (by conv => lhs; whnf)) rfl ?_
      refine AOps.s0 (Cert.move (by conv => lhs; whnf)) rfl ?_
      obtain ⟨x24, gx24, hE⟩ := bindO_some hE
      refine AOps.s0 (Cert.callR rfl rfl (Z43_walk (gE := gE) (oE := oE) gx24 _ hpG (by assumption))) rfl ?_
      refine AOps.s0 (Cert.move (by conv => lhs; whnf)) rfl ?_
      refine AOps.s0 (Cert.extract rfl rfl) rfl ?_
      refine AOps.s0 (Cert.extract rfl rfl) rfl ?_
      refine AOps.s0 (Cert.extract rfl rfl) rfl ?_
      refine AOps.sL (Cert.allocL (TK rfl) rfl (by repeat (first | exact Snoc.nil | apply Snoc.cons))) rfl ?_
      refine AOps.sLn (Cert.storeLF (TK rfl) rfl rfl rfl rfl rfl (by repeat (first | exact SetAt.zero | apply SetAt.succ))) ?_
      refine AOps.s0 (Cert.assign (by conv => lhs; whnf)) rfl ?_
      refine AOps.s0 (Cert.assign (by conv => lhs; whnf)) rfl ?_
      refine AOps.nil ?_
      refine hK23 _ ?_
      clear hK23 K23
      refine AWp.freeze 7 _ rfl (by repeat (first | exact Snoc.nil | apply Snoc.cons)) (Keeps.c (k := 0) (by conv => lhs; whnf) (by rfl) (Keeps.c (k := 5) (by conv => lhs; whnf) (by rfl) (Keeps.c (k := 6) (by conv => lhs; whnf) (by rfl) (Keeps.c (k := 8) (by conv => lhs; whnf) (by rfl) (Keeps.c (k := 9) (by conv => lhs; whnf) (by rfl) Keeps.nil))))) ?_
      refine AWp.seqK fun K25 hK25 => ?_
      refine AWp.seqK fun K26 hK26 => ?_
      refine AWp.region ?_
      refine AOps.s0 (Cert.move (by conv => lhs; whnf)) rfl ?_
      refine AOps.s0 (Cert.binI rfl rfl rfl) rfl ?_
      refine AOps.nil ?_
      refine hK26 _ ?_
      clear hK26 K26
      refine AWp.condE hE rfl (fun hc27 hE => ?_) (fun hc27 hE => ?_)
      ·refine AWp.seqK fun K28 hK28 => ?_
       refine AWp.region ?_
       refine AOps.s0 (Cert.move (by conv => lhs; whnf)) rfl ?_
       refine AOps.s0 (Cert.move (by conv => lhs; whnf)) rfl ?_
       refine AOps.s0 (Cert.assignNil (k' := 3) rfl) rfl ?_
       refine AOps.s0 (Cert.assign (by conv => lhs; whnf)) rfl ?_
       refine AOps.s0 (Cert.assign (by conv => lhs; whnf)) rfl ?_
       refine AOps.nil ?_
       refine hK28 _ ?_
       clear hK28 K28
       refine AWp.ret ?_
       repeat (first | refine xBlock_ret ?_ | refine xThen_ret ?_)
       obtain rfl := Option.some.inj hE
       refine retQ.retF H rfl ⟨rfl, rfl⟩ ?_
       first | exact Heap.sub_set htk1 | (simp only [Heap.set_set]; exact Heap.sub_set htk1)
      ·refine AWp.skip ?_
       refine hK25 _ ?_
       clear hK25 K25
       refine AWp.seqK fun K29 hK29 => ?_
       refine AWp.region ?_
       refine AOps.s0 (Cert.move (by conv => lhs; whnf)) rfl ?_
       refine AOps.s0 (Cert.loadV (TK rfl) rfl rfl rfl) rfl ?_
       refine AOps.s0 (Cert.buildSlice (TK rfl) rfl (TK rfl) rfl rfl rfl rfl rfl rfl) rfl ?_
       obtain ⟨x30, gx30, hE⟩ := bindO_some hE
       refine AOps.sH (Cert.appM (f := Token_Token.c) (TK rfl) rfl (TK rfl) (TK rfl) ⟨_, rfl⟩ rfl rfl (by decide) rfl rfl rfl rfl hpG rfl gx30) rfl ?_
       refine AOps.heq (h' := (H.set tk1 (some (.tok 3 x30.l.length)))) (by first | rfl | (rw [Heap.set_set]; rfl) | (funext n_; simp only [Heap.set]; (repeat' split) <;> first | rfl | (exfalso; simp_all; done) | (simp_all; done))) ?_
       refine AOps.s0 (Cert.assign (by conv => lhs; whnf)) rfl ?_
       refine AOps.nil ?_
       refine hK29 _ ?_
       clear hK29 K29
       refine AWp.region ?_
       refine AOps.s0 (Cert.move (by conv => lhs; whnf)) rfl ?_
       refine AOps.s0 (Cert.assign (by conv => lhs; whnf)) rfl ?_
       refine AOps.nil ?_
       refine hK22 _ ?_
       clear hK22 K22
       refine AWp.region ?_
       refine AOps.s0 (Cert.move (by conv => lhs; whnf)) rfl ?_
       refine AOps.s0 (Cert.move (by conv => lhs; whnf)) rfl ?_
       obtain ⟨x31, gx31, hE⟩ := bindO_some hE
       refine AOps.s0 (Cert.callP rfl rfl (fun H => Z44_walk gx31 H)) rfl ?_
       refine AOps.s0 (Cert.assign (by conv => lhs; whnf)) rfl ?_
       refine AOps.nil ?_
       exact hK15 _ (n15, x30, x31) Weak.toA hE (Nat.lt_succ_self _)
     ·refine AWp.exit ?_
      exact hK8 _ s5_16 Weak.toA hE
  ·rintro s5_9 hE
   try dsimp only at hE
   unfold Z40_j8 at hE
   refine AWp.seqK fun K10 hK10 => ?_
   refine AWp.region ?_
   refine AOps.s0 (Cert.move (by conv => lhs; whnf)) rfl ?_
   refine AOps.s0 (Cert.move (by conv => lhs; whnf)) rfl ?_
   refine AOps.sLenS (TK rfl) rfl rfl rfl rfl fun hL11 => ?_
   refine AOps.s0 (Cert.build Tryd.tab_ok rfl rfl rfl rfl rfl rfl) rfl ?_
   refine AOps.s0 (Cert.buildSlice (TK rfl) rfl (TK rfl) rfl rfl rfl rfl rfl rfl) rfl ?_
   obtain ⟨x12, gx12, hE⟩ := bindO_some hE
   refine AOps.sH (Cert.appM (f := Token_Token.c) (TK rfl) rfl (TK rfl) (TK rfl) ⟨_, rfl⟩ rfl rfl (by decide) rfl rfl rfl rfl hpG rfl gx12) rfl ?_
   refine AOps.heq (h' := (H.set tk1 (some (.tok 3 x12.l.length)))) (by first | rfl | (rw [Heap.set_set]; rfl) | (funext n_; simp only [Heap.set]; (repeat' split) <;> first | rfl | (exfalso; simp_all; done) | (simp_all; done))) ?_
   refine AOps.s0 (Cert.assign (by conv => lhs; whnf)) rfl ?_
   refine AOps.s0 (Cert.assign (by conv => lhs; whnf)) rfl ?_
   refine AOps.s0 (Cert.assign (by conv => lhs; whnf)) rfl ?_
   refine AOps.nil ?_
   refine hK10 _ ?_
   clear hK10 K10
   refine AWp.dropTok 2 rfl ?_
   refine AWp.ret ?_
   repeat (first | refine xBlock_ret ?_ | refine xThen_ret ?_)
   obtain rfl := Option.some.inj hE
   refine retQ.retF H rfl ⟨rfl, rfl⟩ ?_
   first | exact Heap.sub_set htk1 | (simp only [Heap.set_set]; exact Heap.sub_set htk1)
end
def Z26 (a0 : Strings_Builder) (a1 : Bs) : Option (Int × Bool × Strings_Builder) := (Z27 a0).bind fun x3 => (appC 1 x3.Fbuf (strSl a1)).bind fun x5 => some (((a1.length : Nat) : Int), false, (Strings_Builder.mk x3.Faddr x5))
set_option maxRecDepth 100000 in
set_option maxHeartbeats 2000000 in
theorem Z26_walk {a0 : Strings_Builder} {a1 : Bs}  {c0 : Nat} {c0_1 : Nat} {r : (Int × Bool × Strings_Builder)} (hE : Z26 a0 a1 = some r) (H : Heap) (hc0 : H c0 = some (.tcells 68 (Strings_Builder.cg c0 (some c0_1) a0))) (ht0_1 : H c0_1 = some (.tok 1 a0.Fbuf.l.length (some 5))) : ACalls Tryd.prog 69 [.d (.ptr c0 0), .d (.str a1)] H fun v h' => v = .tup [.d (.int .i64 r.1), .d (errE 114 r.2.1)] ∧ h' = ((H.set c0_1 (some (.tok 1 r.2.2.Fbuf.l.length (some 5)))).set c0 (some (.tcells 68 (Strings_Builder.cg c0 (some c0_1) r.2.2)))) := by
 unfold Z26 at hE
 refine ACalls.of_wp (fn := Tryd.f69) (c := _) Tryd.tab_ok (fun _ _ => Tryd.call69 _ _) Tryd.func69 rfl (n := 19) rfl (rs := [.tmp 4, .tmp 5]) rfl rfl ?_
 have ne_c0_c0_1 : c0 ≠ c0_1 := fun e_ => by subst e_; simp_all
 refine AWp.heqA (h' := ((H.set c0_1 (some (.tok 1 a0.Fbuf.l.length (some 5)))).set c0 (some (.tcells 68 (Strings_Builder.cg c0 (some c0_1) a0))))) (by funext n_; simp only [Heap.set]; (repeat' split) <;> simp_all) ?_
 refine AWp.seqK fun K1 hK1 => ?_
 refine AWp.region ?_
 refine AOps.s0 (Cert.assign (by conv => lhs; whnf)) rfl ?_
 refine AOps.s0 (Cert.assign (by conv => lhs; whnf)) rfl ?_
 refine AOps.nil ?_
 refine hK1 _ ?_
 clear hK1 K1
 refine AWp.seqK fun K2 hK2 => ?_
 refine AWp.region ?_
 refine AOps.s0 (Cert.move (by conv => lhs; whnf)) rfl ?_
 obtain ⟨x3, gx3, hE⟩ := bindO_some hE
 refine AOps.sH (Cert.callH rfl rfl (Z27_walk gx3 _ hpG hpG)) rfl ?_
 refine AOps.heq (h' := ((H.set c0_1 (some (.tok 1 x3.Fbuf.l.length (some 5)))).set c0 (some (.tcells 68 (Strings_Builder.cg c0 (some c0_1) x3))))) (by first | rfl | (rw [Heap.set_set]; rfl) | (funext n_; simp only [Heap.set]; (repeat' split) <;> first | rfl | (exfalso; simp_all; done) | (simp_all; done))) ?_
 refine AOps.nil ?_
 refine hK2 _ ?_
 clear hK2 K2
 refine AWp.seqK fun K4 hK4 => ?_
 refine AWp.region ?_
 refine AOps.s0 (Cert.move (by conv => lhs; whnf)) rfl ?_
 refine AOps.s0 (Cert.move (by conv => lhs; whnf)) rfl ?_
 refine AOps.s0 (Cert.nilP rfl) rfl ?_
 refine AOps.s0 (Cert.fieldP (TK rfl) rfl rfl (TK rfl) rfl rfl) rfl ?_
 refine AOps.s0 (Cert.loadPT (TK rfl) rfl rfl hpG rfl) rfl ?_
 refine AOps.s0 (Cert.move (by conv => lhs; whnf)) rfl ?_
 obtain ⟨x5, gx5, hE⟩ := bindO_some hE
 refine AOps.sH (Cert.appST (TK rfl) rfl (TK rfl) (TK rfl) rfl rfl rfl rfl rfl rfl rfl hpG rfl rfl gx5) rfl ?_
 refine AOps.heq (h' := ((H.set c0_1 (some (.tok 1 x5.l.length (some 5)))).set c0 (some (.tcells 68 (Strings_Builder.cg c0 (some c0_1) x3))))) (by first | rfl | (rw [Heap.set_set]; rfl) | (funext n_; simp only [Heap.set]; (repeat' split) <;> first | rfl | (exfalso; simp_all; done) | (simp_all; done))) ?_
 refine AOps.s0 (Cert.nilP rfl) rfl ?_
 refine AOps.s0 (Cert.fieldP (TK rfl) rfl rfl (TK rfl) rfl rfl) rfl ?_
 refine AOps.sHn (Cert.storePT (TK rfl) rfl rfl hpG rfl (by repeat (first | exact SetAt.zero | apply SetAt.succ))) rfl rfl ?_
 refine AOps.heq (h' := ((H.set c0_1 (some (.tok 1 x5.l.length (some 5)))).set c0 (some (.tcells 68 (Strings_Builder.cg c0 (some c0_1) (Strings_Builder.mk x3.Faddr x5)))))) (by first | rfl | (rw [Heap.set_set]; rfl) | (funext n_; simp only [Heap.set]; (repeat' split) <;> first | rfl | (exfalso; simp_all; done) | (simp_all; done))) ?_
 refine AOps.nil ?_
 refine hK4 _ ?_
 clear hK4 K4
 refine AWp.seqK fun K6 hK6 => ?_
 refine AWp.region ?_
 refine AOps.s0 (Cert.move (by conv => lhs; whnf)) rfl ?_
 refine AOps.sLenS (TK rfl) rfl rfl rfl rfl fun hL7 => ?_
 refine AOps.s0 (Cert.assign (by conv => lhs; whnf)) rfl ?_
 refine AOps.s0 (Cert.assign (by conv => lhs; whnf)) rfl ?_
 refine AOps.nil ?_
 refine hK6 _ ?_
 clear hK6 K6
 refine AWp.ret ?_
 repeat (first | refine xBlock_ret ?_ | refine xThen_ret ?_)
 obtain rfl := Option.some.inj hE
 refine retQ.retF ((H.set c0_1 (some (.tok 1 x5.l.length (some 5)))).set c0 (some (.tcells 68 (Strings_Builder.cg c0 (some c0_1) (Strings_Builder.mk x3.Faddr x5))))) rfl ⟨rfl, rfl⟩ ?_
 exact (fun _ _ h => h)
def Z36_j7  (y8_id3_3 : Strings_Builder) : Option Bs := (Z25 y8_id3_3 (34 : Int)).bind fun x10 => (Z24 x10.2).bind fun x12 => some x12
def Z36_j21 (s9_16 : Nat) (k_next_15 : Nat → Strings_Builder → Option Bs) (y22_id3_3 : Strings_Builder) : Option Bs := k_next_15 (s9_16 + 1) y22_id3_3
def Z36_j27 (s9_16 : Nat) (y17_id3_3 : Strings_Builder) (x25 : UInt8) (k_next_15 : Nat → Strings_Builder → Option Bs) (s33_28 : Bool) : Option Bs := bif s33_28 then ((Z25 y17_id3_3 (92 : Int)).bind fun x31 => (Z25 x31.2 ((x25.toNat : Nat) : Int)).bind fun x32 => Z36_j21 s9_16 k_next_15 x32.2) else (bif (decide (((x25.toNat : Nat) : Int) = (10 : Int))) then ((Z26 y17_id3_3 ([92, 110] : Bs)).bind fun x35 => Z36_j21 s9_16 k_next_15 x35.2.2) else (bif (decide (((x25.toNat : Nat) : Int) = (13 : Int))) then ((Z26 y17_id3_3 ([92, 114] : Bs)).bind fun x38 => Z36_j21 s9_16 k_next_15 x38.2.2) else (bif (decide (((x25.toNat : Nat) : Int) = (9 : Int))) then ((Z26 y17_id3_3 ([92, 116] : Bs)).bind fun x41 => Z36_j21 s9_16 k_next_15 x41.2.2) else (bif ((decide ((32 : Int) ≤ ((x25.toNat : Nat) : Int))) && (decide (((x25.toNat : Nat) : Int) ≤ (126 : Int)))) then ((Z25 y17_id3_3 ((x25.toNat : Nat) : Int)).bind fun x46 => Z36_j21 s9_16 k_next_15 x46.2) else ((Z26 y17_id3_3 ([92, 117, 48, 48] : Bs)).bind fun x48 => (idxC ([48, 49, 50, 51, 52, 53, 54, 55, 56, 57, 97, 98, 99, 100, 101, 102] : Bs) (Int.fdiv ((x25.toNat : Nat) : Int) (2 ^ (min (Int.toNat 4) (IntKind.bits .u8))))).bind fun x50 => (Z25 x48.2.2 ((x50.toNat : Nat) : Int)).bind fun x51 => (idxC ([48, 49, 50, 51, 52, 53, 54, 55, 56, 57, 97, 98, 99, 100, 101, 102] : Bs) (IntKind.wrap .u8 ((BitVec.ofInt (IntKind.bits .u8) ((x25.toNat : Nat) : Int) &&& BitVec.ofInt (IntKind.bits .u8) (15 : Int)).toNat : Int))).bind fun x52 => (Z25 x51.2 ((x52.toNat : Nat) : Int)).bind fun x53 => Z36_j21 s9_16 k_next_15 x53.2)))))
def Z36_l15 (a0 : Bs)  : Nat → Nat → Strings_Builder → Option Bs
 | 0, _, _ => none
 | n15 + 1, s9_16, y17_id3_3 => bif (decide (((s9_16 : Nat) : Int) < ((a0.length : Nat) : Int))) then ((a0[s9_16]?).bind fun x25 => bif (decide (((x25.toNat : Nat) : Int) = (34 : Int))) then (Z36_j27 s9_16 y17_id3_3 x25 ((Z36_l15 a0 n15)) (decide (((x25.toNat : Nat) : Int) = (34 : Int)))) else (Z36_j27 s9_16 y17_id3_3 x25 ((Z36_l15 a0 n15)) (decide (((x25.toNat : Nat) : Int) = (92 : Int))))) else (Z36_j7   y17_id3_3)
def Z36 (a0 : Bs) : Option Bs := (Z25 Strings_Builder.zero (34 : Int)).bind fun x6 => Z36_l15 a0 (a0.length + 1) 0 x6.2
set_option maxRecDepth 100000 in
set_option maxHeartbeats 2000000 in
theorem Z36_walk {a0 : Bs}   {r : Bs} (hE : Z36 a0 = some r) (H : Heap)  : ACalls Tryd.prog 34 [.d (.str a0)] H fun v h' => v = .a (.d (.str r)) ∧ h' = H := by
 unfold Z36 at hE
 refine ACalls.of_wp (fn := Tryd.f34) (c := _) Tryd.tab_ok (fun _ _ => Tryd.call34 _ _) Tryd.func34 rfl (n := 51) rfl (rs := [.tmp 2]) rfl rfl ?_
 refine AWp.seqK fun K1 hK1 => ?_
 refine AWp.region ?_
 refine AOps.s0 (Cert.assign (by conv => lhs; whnf)) rfl ?_
 refine AOps.nil ?_
 refine hK1 _ ?_
 clear hK1 K1
 refine AWp.seqK fun K2 hK2 => ?_
 refine AWp.region ?_
 refine AOps.tokE 1 5 fun tk3_4 htk3_4 => ?_
 refine AOps.sE (StepE.allocT (TK rfl) rfl) rfl (fun _ _ _ ⟨id3_3, hid3_3, e1, e2, e3⟩ => ?_); subst e1 e2 e3
 obtain ⟨ne_id3_3_tk3_4, hid3_3⟩ := Heap.set_fresh hid3_3
 refine AOps.recellT id3_3 _ hpG (fun j w cs hh hx => tok_cell 1 1 1 hh (t := tk3_4) hpG hx rfl) ?_
 refine AOps.heq (h' := ((H.set tk3_4 (some (.tok 1 0 (some 5)))).set id3_3 (some (.tcells 68 (Strings_Builder.cg id3_3 (some tk3_4) Strings_Builder.zero))))) (by first | rfl | (rw [Heap.set_set]; rfl) | (funext n_; simp only [Heap.set]; (repeat' split) <;> first | rfl | (exfalso; simp_all; done) | (simp_all; done))) ?_
 refine AOps.nil ?_
 refine hK2 _ ?_
 clear hK2 K2
 refine AWp.seqK fun K5 hK5 => ?_
 refine AWp.region ?_
 obtain ⟨x6, gx6, hE⟩ := bindO_some hE
 refine AOps.sH (Cert.callH rfl rfl (Z25_walk gx6 _ hpG hpG)) rfl ?_
 refine AOps.heq (h' := ((H.set tk3_4 (some (.tok 1 x6.2.Fbuf.l.length (some 5)))).set id3_3 (some (.tcells 68 (Strings_Builder.cg id3_3 (some tk3_4) x6.2))))) (by first | rfl | (rw [Heap.set_set]; rfl) | (funext n_; simp only [Heap.set]; (repeat' split) <;> first | rfl | (exfalso; simp_all; done) | (simp_all; done))) ?_
 refine AOps.nil ?_
 refine hK5 _ ?_
 clear hK5 K5
 refine AWp.seqJH (KeepsT.cons (k := 3) (by conv => lhs; whnf) KeepsT.nil) (fun (z : Strings_Builder) => []) (fun z => ((H.set tk3_4 (some (.tok 1 z.Fbuf.l.length (some 5)))).set id3_3 (some (.tcells 68 (Strings_Builder.cg id3_3 (some tk3_4) z))))) (fun z => Z36_j7 z = some r) ?_ ?_
 ·intro K7 hK7
  refine AWp.seqK fun K13 hK13 => ?_
  refine AWp.region ?_
  refine AOps.s0 (Cert.move (by conv => lhs; whnf)) rfl ?_
  refine AOps.sLenS (TK rfl) rfl rfl rfl rfl fun hL14 => ?_
  refine AOps.s0 (Cert.move (by conv => lhs; whnf)) rfl ?_
  refine AOps.nil ?_
  refine hK13 _ ?_
  clear hK13 K13
  refine AWp.block ?_
  refine AWp.loopH (KeepsT.cons (k := 0) (by conv => lhs; whnf) (KeepsT.cons (k := 3) (by conv => lhs; whnf) (KeepsT.cons (k := 8) (by conv => lhs; whnf) KeepsT.nil))) (fun (z : Nat × Nat × Strings_Builder) => [(9, .a (.d (.int .i64 ((z.2.1 : Nat) : Int))))]) (fun z => ((H.set tk3_4 (some (.tok 1 z.2.2.Fbuf.l.length (some 5)))).set id3_3 (some (.tcells 68 (Strings_Builder.cg id3_3 (some tk3_4) z.2.2))))) (fun z => z.1) (fun z => Z36_l15 a0 z.1 z.2.1 z.2.2 = some r) ((a0.length + 1), 0, x6.2) hE Weak.toA ?_
  rintro ⟨n15, s9_16, y17_id3_3⟩ hE K15 hK15
  try dsimp only at hE
  cases n15 with
  | zero => cases hE
  | succ n15 =>
    rw [Z36_l15] at hE
    refine AWp.seqK fun K18 hK18 => ?_
    refine AWp.region ?_
    refine AOps.s0 (Cert.binI rfl rfl rfl) rfl ?_
    refine AOps.nil ?_
    refine hK18 _ ?_
    clear hK18 K18
    refine AWp.seqK fun K19 hK19 => ?_
    refine AWp.condE hE rfl (fun hc20 hE => ?_) (fun hc20 hE => ?_)
    ·try dsimp only at hc20
     have hf20 := of_decide_eq_true hc20
     refine AWp.skip ?_
     refine hK19 _ ?_
     clear hK19 K19
     refine AWp.seqJH (KeepsT.cons (k := 0) (by conv => lhs; whnf) (KeepsT.cons (k := 3) (by conv => lhs; whnf) (KeepsT.cons (k := 8) (by conv => lhs; whnf) (KeepsT.cons (k := 9) (by conv => lhs; whnf) KeepsT.nil)))) (fun (z : Strings_Builder) => []) (fun z => ((H.set tk3_4 (some (.tok 1 z.Fbuf.l.length (some 5)))).set id3_3 (some (.tcells 68 (Strings_Builder.cg id3_3 (some tk3_4) z))))) (fun z => Z36_j21 s9_16 ((Z36_l15 a0 n15)) z = some r) ?_ ?_
     ·intro K21 hK21
      refine AWp.block ?_
      refine AWp.seqK fun K23 hK23 => ?_
      refine AWp.region ?_
      refine AOps.s0 (Cert.move (by conv => lhs; whnf)) rfl ?_
      refine AOps.s0 (Cert.assign (by conv => lhs; whnf)) rfl ?_
      refine AOps.nil ?_
      refine hK23 _ ?_
      clear hK23 K23
      refine AWp.seqK fun K24 hK24 => ?_
      refine AWp.region ?_
      refine AOps.s0 (Cert.move (by conv => lhs; whnf)) rfl ?_
      refine AOps.s0 (Cert.move (by conv => lhs; whnf)) rfl ?_
      obtain ⟨x25, gx25, hE⟩ := bindO_some hE
      refine AOps.s0 (Cert.idxSn (n := s9_16) (TK rfl) rfl rfl rfl gx25) rfl ?_
      refine AOps.s0 (Cert.assign (by conv => lhs; whnf)) rfl ?_
      refine AOps.nil ?_
      refine hK24 _ ?_
      clear hK24 K24
      refine AWp.seqK fun K26 hK26 => ?_
      refine AWp.region ?_
      refine AOps.s0 (Cert.move (by conv => lhs; whnf)) rfl ?_
      refine AOps.nil ?_
      refine hK26 _ ?_
      clear hK26 K26
      refine AWp.block ?_
      refine AWp.seqJH (KeepsT.cons (k := 0) (by conv => lhs; whnf) (KeepsT.cons (k := 3) (by conv => lhs; whnf) (KeepsT.cons (k := 5) (by conv => lhs; whnf) (KeepsT.cons (k := 8) (by conv => lhs; whnf) (KeepsT.cons (k := 9) (by conv => lhs; whnf) (KeepsT.cons (k := 15) (by conv => lhs; whnf) KeepsT.nil)))))) (fun (z : Bool) => [(33, .a (.d (.bool z)))]) (fun z => ((H.set tk3_4 (some (.tok 1 y17_id3_3.Fbuf.l.length (some 5)))).set id3_3 (some (.tcells 68 (Strings_Builder.cg id3_3 (some tk3_4) y17_id3_3))))) (fun z => Z36_j27 s9_16 y17_id3_3 x25 ((Z36_l15 a0 n15)) z = some r) ?_ ?_
      ·intro K27 hK27
       refine AWp.seqK fun K54 hK54 => ?_
       refine AWp.region ?_
       refine AOps.s0 (Cert.binI rfl rfl rfl) rfl ?_
       refine AOps.s0 (Cert.assign (by conv => lhs; whnf)) rfl ?_
       refine AOps.nil ?_
       refine hK54 _ ?_
       clear hK54 K54
       refine AWp.condE hE rfl (fun hc55 hE => ?_) (fun hc55 hE => ?_)
       ·refine AWp.skip ?_
        exact hK27 _ (decide (((x25.toNat : Nat) : Int) = (34 : Int))) Weak.toA hE
       ·refine AWp.region ?_
        refine AOps.s0 (Cert.binI rfl rfl rfl) rfl ?_
        refine AOps.s0 (Cert.assign (by conv => lhs; whnf)) rfl ?_
        refine AOps.nil ?_
        exact hK27 _ (decide (((x25.toNat : Nat) : Int) = (92 : Int))) Weak.toA hE
      ·rintro s33_28 hE
       try dsimp only at hE
       unfold Z36_j27 at hE
       refine AWp.condE hE rfl (fun hc29 hE => ?_) (fun hc29 hE => ?_)
       ·refine AWp.seqK fun K30 hK30 => ?_
        refine AWp.region ?_
        obtain ⟨x31, gx31, hE⟩ := bindO_some hE
        refine AOps.sH (Cert.callH rfl rfl (Z25_walk gx31 _ hpG hpG)) rfl ?_
        refine AOps.heq (h' := ((H.set tk3_4 (some (.tok 1 x31.2.Fbuf.l.length (some 5)))).set id3_3 (some (.tcells 68 (Strings_Builder.cg id3_3 (some tk3_4) x31.2))))) (by first | rfl | (rw [Heap.set_set]; rfl) | (funext n_; simp only [Heap.set]; (repeat' split) <;> first | rfl | (exfalso; simp_all; done) | (simp_all; done))) ?_
        refine AOps.nil ?_
        refine hK30 _ ?_
        clear hK30 K30
        refine AWp.region ?_
        refine AOps.s0 (Cert.move (by conv => lhs; whnf)) rfl ?_
        obtain ⟨x32, gx32, hE⟩ := bindO_some hE
        refine AOps.sH (Cert.callH rfl rfl (Z25_walk gx32 _ hpG hpG)) rfl ?_
        refine AOps.heq (h' := ((H.set tk3_4 (some (.tok 1 x32.2.Fbuf.l.length (some 5)))).set id3_3 (some (.tcells 68 (Strings_Builder.cg id3_3 (some tk3_4) x32.2))))) (by first | rfl | (rw [Heap.set_set]; rfl) | (funext n_; simp only [Heap.set]; (repeat' split) <;> first | rfl | (exfalso; simp_all; done) | (simp_all; done))) ?_
        refine AOps.nil ?_
        exact hK21 _ x32.2 Weak.toA hE
       ·refine AWp.seqK fun K33 hK33 => ?_
        refine AWp.region ?_
        refine AOps.s0 (Cert.binI rfl rfl rfl) rfl ?_
        refine AOps.s0 (Cert.assign (by conv => lhs; whnf)) rfl ?_
        refine AOps.nil ?_
        refine hK33 _ ?_
        clear hK33 K33
        refine AWp.condE hE rfl (fun hc34 hE => ?_) (fun hc34 hE => ?_)
        ·refine AWp.region ?_
         obtain ⟨x35, gx35, hE⟩ := bindO_some hE
         refine AOps.sH (Cert.callH rfl rfl (Z26_walk gx35 _ hpG hpG)) rfl ?_
         refine AOps.heq (h' := ((H.set tk3_4 (some (.tok 1 x35.2.2.Fbuf.l.length (some 5)))).set id3_3 (some (.tcells 68 (Strings_Builder.cg id3_3 (some tk3_4) x35.2.2))))) (by first | rfl | (rw [Heap.set_set]; rfl) | (funext n_; simp only [Heap.set]; (repeat' split) <;> first | rfl | (exfalso; simp_all; done) | (simp_all; done))) ?_
         refine AOps.nil ?_
         exact hK21 _ x35.2.2 Weak.toA hE
        ·refine AWp.seqK fun K36 hK36 => ?_
         refine AWp.region ?_
         refine AOps.s0 (Cert.binI rfl rfl rfl) rfl ?_
         refine AOps.s0 (Cert.assign (by conv => lhs; whnf)) rfl ?_
         refine AOps.nil ?_
         refine hK36 _ ?_
         clear hK36 K36
         refine AWp.condE hE rfl (fun hc37 hE => ?_) (fun hc37 hE => ?_)
         ·refine AWp.region ?_
          obtain ⟨x38, gx38, hE⟩ := bindO_some hE
          refine AOps.sH (Cert.callH rfl rfl (Z26_walk gx38 _ hpG hpG)) rfl ?_
          refine AOps.heq (h' := ((H.set tk3_4 (some (.tok 1 x38.2.2.Fbuf.l.length (some 5)))).set id3_3 (some (.tcells 68 (Strings_Builder.cg id3_3 (some tk3_4) x38.2.2))))) (by first | rfl | (rw [Heap.set_set]; rfl) | (funext n_; simp only [Heap.set]; (repeat' split) <;> first | rfl | (exfalso; simp_all; done) | (simp_all; done))) ?_
          refine AOps.nil ?_
          exact hK21 _ x38.2.2 Weak.toA hE
         ·refine AWp.seqK fun K39 hK39 => ?_
          refine AWp.region ?_
          refine AOps.s0 (Cert.binI rfl rfl rfl) rfl ?_
          refine AOps.s0 (Cert.assign (by conv => lhs; whnf)) rfl ?_
          refine AOps.nil ?_
          refine hK39 _ ?_
          clear hK39 K39
          refine AWp.condE hE rfl (fun hc40 hE => ?_) (fun hc40 hE => ?_)
          ·refine AWp.region ?_
           obtain ⟨x41, gx41, hE⟩ := bindO_some hE
           refine AOps.sH (Cert.callH rfl rfl (Z26_walk gx41 _ hpG hpG)) rfl ?_
           refine AOps.heq (h' := ((H.set tk3_4 (some (.tok 1 x41.2.2.Fbuf.l.length (some 5)))).set id3_3 (some (.tcells 68 (Strings_Builder.cg id3_3 (some tk3_4) x41.2.2))))) (by first | rfl | (rw [Heap.set_set]; rfl) | (funext n_; simp only [Heap.set]; (repeat' split) <;> first | rfl | (exfalso; simp_all; done) | (simp_all; done))) ?_
           refine AOps.nil ?_
           exact hK21 _ x41.2.2 Weak.toA hE
          ·refine AWp.seqK fun K42 hK42 => ?_
           refine AWp.seqK fun K43 hK43 => ?_
           refine AWp.region ?_
           refine AOps.s0 (Cert.move (by conv => lhs; whnf)) rfl ?_
           refine AOps.s0 (Cert.binI rfl rfl rfl) rfl ?_
           refine AOps.s0 (Cert.move (by conv => lhs; whnf)) rfl ?_
           refine AOps.gC rfl rfl (fun hC => Cert.move (by conv => lhs; whnf)) rfl ?_
           refine AOps.gC rfl rfl (fun hC => Cert.ungd (k := 19) rfl (by first | exact hC | exact andL hC | exact andL (andL hC) | exact andL (andL (andL hC)) | exact andR hC | simp_all) (Cert.binI rfl rfl rfl)) rfl ?_
           refine AOps.s0 (Cert.pickAnd rfl rfl (fun h => by first | exact h | exact notT h | exact andI hC h | exact andI hC (notT h) | simp_all) rfl) rfl ?_
           refine AOps.nil ?_
           refine hK43 _ ?_
           clear hK43 K43
           refine AWp.condE hE rfl (fun hc44 hE => ?_) (fun hc44 hE => ?_)
           ·refine AWp.seqK fun K45 hK45 => ?_
            refine AWp.region ?_
            refine AOps.s0 (Cert.move (by conv => lhs; whnf)) rfl ?_
            obtain ⟨x46, gx46, hE⟩ := bindO_some hE
            refine AOps.sH (Cert.callH rfl rfl (Z25_walk gx46 _ hpG hpG)) rfl ?_
            refine AOps.heq (h' := ((H.set tk3_4 (some (.tok 1 x46.2.Fbuf.l.length (some 5)))).set id3_3 (some (.tcells 68 (Strings_Builder.cg id3_3 (some tk3_4) x46.2))))) (by first | rfl | (rw [Heap.set_set]; rfl) | (funext n_; simp only [Heap.set]; (repeat' split) <;> first | rfl | (exfalso; simp_all; done) | (simp_all; done))) ?_
            refine AOps.nil ?_
            refine hK45 _ ?_
            clear hK45 K45
            refine AWp.exit ?_
            exact hK21 _ x46.2 Weak.toA hE
           ·refine AWp.skip ?_
            refine hK42 _ ?_
            clear hK42 K42
            refine AWp.seqK fun K47 hK47 => ?_
            refine AWp.region ?_
            obtain ⟨x48, gx48, hE⟩ := bindO_some hE
            refine AOps.sH (Cert.callH rfl rfl (Z26_walk gx48 _ hpG hpG)) rfl ?_
            refine AOps.heq (h' := ((H.set tk3_4 (some (.tok 1 x48.2.2.Fbuf.l.length (some 5)))).set id3_3 (some (.tcells 68 (Strings_Builder.cg id3_3 (some tk3_4) x48.2.2))))) (by first | rfl | (rw [Heap.set_set]; rfl) | (funext n_; simp only [Heap.set]; (repeat' split) <;> first | rfl | (exfalso; simp_all; done) | (simp_all; done))) ?_
            refine AOps.nil ?_
            refine hK47 _ ?_
            clear hK47 K47
            refine AWp.seqK fun K49 hK49 => ?_
            refine AWp.region ?_
            refine AOps.s0 (Cert.move (by conv => lhs; whnf)) rfl ?_
            refine AOps.s0 (Cert.shrI rfl rfl (by decide)) rfl ?_
            obtain ⟨x50, gx50, hE⟩ := bindO_some hE
            refine AOps.s0 (Cert.idxS (TK rfl) rfl rfl rfl gx50) rfl ?_
            obtain ⟨x51, gx51, hE⟩ := bindO_some hE
            refine AOps.sH (Cert.callH rfl rfl (Z25_walk gx51 _ hpG hpG)) rfl ?_
            refine AOps.heq (h' := ((H.set tk3_4 (some (.tok 1 x51.2.Fbuf.l.length (some 5)))).set id3_3 (some (.tcells 68 (Strings_Builder.cg id3_3 (some tk3_4) x51.2))))) (by first | rfl | (rw [Heap.set_set]; rfl) | (funext n_; simp only [Heap.set]; (repeat' split) <;> first | rfl | (exfalso; simp_all; done) | (simp_all; done))) ?_
            refine AOps.nil ?_
            refine hK49 _ ?_
            clear hK49 K49
            refine AWp.region ?_
            refine AOps.s0 (Cert.move (by conv => lhs; whnf)) rfl ?_
            refine AOps.s0 (Cert.andI rfl rfl) rfl ?_
            obtain ⟨x52, gx52, hE⟩ := bindO_some hE
            refine AOps.s0 (Cert.idxS (TK rfl) rfl rfl rfl gx52) rfl ?_
            obtain ⟨x53, gx53, hE⟩ := bindO_some hE
            refine AOps.sH (Cert.callH rfl rfl (Z25_walk gx53 _ hpG hpG)) rfl ?_
            refine AOps.heq (h' := ((H.set tk3_4 (some (.tok 1 x53.2.Fbuf.l.length (some 5)))).set id3_3 (some (.tcells 68 (Strings_Builder.cg id3_3 (some tk3_4) x53.2))))) (by first | rfl | (rw [Heap.set_set]; rfl) | (funext n_; simp only [Heap.set]; (repeat' split) <;> first | rfl | (exfalso; simp_all; done) | (simp_all; done))) ?_
            refine AOps.nil ?_
            exact hK21 _ x53.2 Weak.toA hE
     ·rintro y22_id3_3 hE
      try dsimp only at hE
      unfold Z36_j21 at hE
      refine AWp.region ?_
      refine AOps.s0 (Cert.addI rfl rfl (by first | omega | (dsimp only; omega) | (simp at *; omega)) (by first | omega | (dsimp only; omega) | (simp at *; omega))) rfl ?_
      refine AOps.s0 (Cert.move (by conv => lhs; whnf)) rfl ?_
      refine AOps.nil ?_
      exact hK15 _ (n15, (s9_16 + 1), y22_id3_3) Weak.toA hE (Nat.lt_succ_self _)
    ·refine AWp.exit ?_
     exact hK7 _ y17_id3_3 Weak.toA hE
 ·rintro y8_id3_3 hE
  try dsimp only at hE
  unfold Z36_j7 at hE
  refine AWp.seqK fun K9 hK9 => ?_
  refine AWp.region ?_
  obtain ⟨x10, gx10, hE⟩ := bindO_some hE
  refine AOps.sH (Cert.callH rfl rfl (Z25_walk gx10 _ hpG hpG)) rfl ?_
  refine AOps.heq (h' := ((H.set tk3_4 (some (.tok 1 x10.2.Fbuf.l.length (some 5)))).set id3_3 (some (.tcells 68 (Strings_Builder.cg id3_3 (some tk3_4) x10.2))))) (by first | rfl | (rw [Heap.set_set]; rfl) | (funext n_; simp only [Heap.set]; (repeat' split) <;> first | rfl | (exfalso; simp_all; done) | (simp_all; done))) ?_
  refine AOps.nil ?_
  refine hK9 _ ?_
  clear hK9 K9
  refine AWp.seqK fun K11 hK11 => ?_
  refine AWp.region ?_
  obtain ⟨x12, gx12, hE⟩ := bindO_some hE
  refine AOps.sH (Cert.callH rfl rfl (Z24_walk gx12 _ hpG hpG)) rfl ?_
  refine AOps.heq (h' := H) (by first | rfl | (rw [Heap.set_set]; rfl) | (funext n_; simp only [Heap.set]; (repeat' split) <;> first | rfl | (exfalso; simp_all; done) | (simp_all; done))) ?_
  refine AOps.s0 (Cert.assign (by conv => lhs; whnf)) rfl ?_
  refine AOps.nil ?_
  refine hK11 _ ?_
  clear hK11 K11
  refine AWp.ret ?_
  repeat (first | refine xBlock_ret ?_ | refine xThen_ret ?_)
  obtain rfl := Option.some.inj hE
  refine retQ.retF H rfl ⟨rfl, rfl⟩ ?_
  exact (fun _ _ h => h)
section
variable [IsLoud lou]
def Tryd.lay35_ren : Go.Shelf.Ren := ⟨fun | 156 => 35 | 165 => 70 | 166 => 69 | 169 => 48 | 240 => 79 | 241 => 92 | 276 => 95 | 277 => 104 | n => n, fun | 31 => 41 | 9 => 9 | 3 => 3 | 4 => 4 | 0 => 0 | 20 => 20 | 72 => 68 | 76 => 84 | 70 => 66 | 37 => 33 | 75 => 70 | 127 => 91 | 164 => 104 | 5 => 5 | 80 => 72 | n => n, fun | n => n⟩
theorem Tryd.lay35 : Go.Proofs.Lays.n156 Tryd.prog Tryd.lay35_ren := {
 mixed := by kernel_rfl
 f156 := Tryd.func35.trans (congrArg some (by kernel_rfl))
 f165 := Tryd.func70.trans (congrArg some (by kernel_rfl))
 f166 := Tryd.func69.trans (congrArg some (by kernel_rfl))
 f169 := Tryd.func48.trans (congrArg some (by kernel_rfl))
 f240 := Tryd.func79.trans (congrArg some (by kernel_rfl))
 f241 := Tryd.func92.trans (congrArg some (by kernel_rfl))
 f276 := Tryd.func95.trans (congrArg some (by kernel_rfl))
 f277 := Tryd.func104.trans (congrArg some (by kernel_rfl))
 t0 := Tryd.underlying0
 a0 := Tryd.isAgg0
 z0 := Tryd.sizeOf0
 v0 := Tryd.zeroValue0
 t3 := Tryd.underlying3
 a3 := Tryd.isAgg3
 z3 := Tryd.sizeOf3
 v3 := Tryd.zeroValue3
 t4 := Tryd.underlying4
 a4 := Tryd.isAgg4
 z4 := Tryd.sizeOf4
 v4 := Tryd.zeroValue4
 t9 := Tryd.underlying9
 a9 := Tryd.isAgg9
 z9 := Tryd.sizeOf9
 v9 := Tryd.zeroValue9
 t20 := Tryd.underlying20
 a20 := Tryd.isAgg20
 z20 := Tryd.sizeOf20
 v20 := Tryd.zeroValue20
 t31 := Tryd.underlying41
 a31 := Tryd.isAgg41
 z31 := Tryd.sizeOf41
 v31 := Tryd.zeroValue41
 t37 := Tryd.underlying33
 a37 := Tryd.isAgg33
 z37 := Tryd.sizeOf33
 v37 := Tryd.zeroValue33
 t70 := Tryd.underlying66
 a70 := Tryd.isAgg66
 z70 := Tryd.sizeOf66
 v70 := Tryd.zeroValue66
 t72 := Tryd.underlying68
 a72 := Tryd.isAgg68
 z72 := Tryd.sizeOf68
 v72 := Tryd.zeroValue68
 t75 := Tryd.underlying70
 a75 := Tryd.isAgg70
 z75 := Tryd.sizeOf70
 v75 := Tryd.zeroValue70
 t76 := Tryd.underlying84
 a76 := Tryd.isAgg84
 z76 := Tryd.sizeOf84
 v76 := Tryd.zeroValue84
 t127 := Tryd.underlying91
 a127 := Tryd.isAgg91
 z127 := Tryd.sizeOf91
 v127 := Tryd.zeroValue91
 t164 := Tryd.underlying104
 a164 := Tryd.isAgg104
 z164 := Tryd.sizeOf104
 v164 := Tryd.zeroValue104 }
theorem Tryd.extra35 : Builder.Extra Tryd.prog Tryd.lay35_ren where
 sizeBuilder := by kernel_rfl
 liesBuilder := by kernel_rfl
 t5 := Tryd.underlying5
 a5 := Tryd.isAgg5
 z5 := Tryd.sizeOf5
 v5 := Tryd.zeroValue5
 infoByte := by kernel_rfl
 cellsByte := by kernel_rfl
 sizeByte := by kernel_rfl
 neB5 := by decide
def Z33 (s : Sl Bs) (sep : Bs) : Option Bs := joinA s sep
theorem Z33_walk {a0 : Sl Bs} {a1 : Bs} {w0 : Option Nat} {r : Bs} (hE : Z33 a0 a1 = some r) (H : Heap) : ACalls Tryd.prog 35 [.d (Sl.d 1 strE w0 a0), .d (.str a1)] H fun v h' => v = .a (.d (.str r)) ∧ h' = H := joinA_calls Tryd.lay35 Tryd.extra35 hE rfl
end
section
variable [IsLoud lou]
def Z39_j3  (s3_4 : (Sl Bs)) : Option Bs := (Z33 s3_4 ([32] : Bs)).bind fun x6 => some x6
def Z39_j15 (s8_11 : Nat) (k_next_9 : (Sl Bs) → Nat → Option Bs) (s3_16 : (Sl Bs)) : Option Bs := k_next_9 s3_16 (s8_11 + 1)
def Z39_l9 (a0 : (Sl Token_Token))  : Nat → (Sl Bs) → Nat → Option Bs
 | 0, _, _ => none
 | n9 + 1, s3_10, s8_11 => bif (decide (((s8_11 : Nat) : Int) < ((a0.l.length : Nat) : Int))) then ((a0.l[s8_11]?).bind fun x18 => bif (decide (x18.FKind = (5 : Int))) then (Z39_j15 s8_11 ((Z39_l9 a0 n9)) s3_10) else (bif (decide (x18.FKind = (4 : Int))) then ((Z36 x18.FText).bind fun x24 => (appC 16 s3_10 (⟨false, [x24]⟩ : Sl Bs)).bind fun x25 => Z39_j15 s8_11 ((Z39_l9 a0 n9)) x25) else ((appC 16 s3_10 (⟨false, [x18.FText]⟩ : Sl Bs)).bind fun x26 => Z39_j15 s8_11 ((Z39_l9 a0 n9)) x26))) else (Z39_j3   s3_10)
def Z39 (a0 : (Sl Token_Token)) : Option Bs := Z39_l9 a0 (a0.l.length + 1) (Sl.nil : Sl Bs) 0
set_option maxRecDepth 100000 in
set_option maxHeartbeats 2000000 in
theorem Z39_walk {a0 : (Sl Token_Token)} {w0 : Option Nat}  {r : Bs} (hE : Z39 a0 = some r) (H : Heap)  : ACalls Tryd.prog 17 [.d (Sl.d 3 Token_Token.c w0 a0)] H fun v h' => v = .a (.d (.str r)) ∧ h' = H := by
 unfold Z39 at hE
 refine ACalls.of_wp (fn := Tryd.f17) (c := _) Tryd.tab_ok (fun _ _ => Tryd.call17 _ _) Tryd.func17 rfl (n := 32) rfl (rs := [.tmp 2]) rfl rfl ?_
 refine AWp.tok 1 fun tk1 htk1 => ?_
 refine AWp.seqK fun K1 hK1 => ?_
 refine AWp.region ?_
 refine AOps.s0 (Cert.assign (by conv => lhs; whnf)) rfl ?_
 refine AOps.nil ?_
 refine hK1 _ ?_
 clear hK1 K1
 refine AWp.seqK fun K2 hK2 => ?_
 refine AWp.region ?_
 refine AOps.s0 (Cert.assign (by conv => lhs; whnf)) rfl ?_
 refine AOps.nil ?_
 refine hK2 _ ?_
 clear hK2 K2
 refine AWp.nilTok 3 1 tk1 rfl hpG ?_
 refine AWp.seqJH KeepsT.nil (fun (z : (Sl Bs)) => [(3, .a (.d (Sl.d 1 strE (some tk1) z)))]) (fun z => (H.set tk1 (some (.tok 1 z.l.length)))) (fun z => Z39_j3 z = some r) ?_ ?_
 ·intro K3 hK3
  refine AWp.seqK fun K7 hK7 => ?_
  refine AWp.region ?_
  refine AOps.s0 (Cert.move (by conv => lhs; whnf)) rfl ?_
  refine AOps.sLen (f := Token_Token.c) (s := a0) (TK rfl) rfl rfl rfl rfl fun hL8 => ?_
  refine AOps.s0 (Cert.move (by conv => lhs; whnf)) rfl ?_
  refine AOps.nil ?_
  refine hK7 _ ?_
  clear hK7 K7
  refine AWp.block ?_
  refine AWp.loopH (KeepsT.cons (k := 6) (by conv => lhs; whnf) (KeepsT.cons (k := 7) (by conv => lhs; whnf) KeepsT.nil)) (fun (z : Nat × (Sl Bs) × Nat) => [(3, .a (.d (Sl.d 1 strE (some tk1) z.2.1))), (8, .a (.d (.int .i64 ((z.2.2 : Nat) : Int))))]) (fun z => (H.set tk1 (some (.tok 1 z.2.1.l.length)))) (fun z => z.1) (fun z => Z39_l9 a0 z.1 z.2.1 z.2.2 = some r) ((a0.l.length + 1), (Sl.nil : Sl Bs), 0) hE Weak.toA ?_
  rintro ⟨n9, s3_10, s8_11⟩ hE K9 hK9
  try dsimp only at hE
  cases n9 with
  | zero => cases hE
  | succ n9 =>
    rw [Z39_l9] at hE
    refine AWp.seqK fun K12 hK12 => ?_
    refine AWp.region ?_
    refine AOps.s0 (Cert.binI rfl rfl rfl) rfl ?_
    refine AOps.nil ?_
    refine hK12 _ ?_
    clear hK12 K12
    refine AWp.seqK fun K13 hK13 => ?_
    refine AWp.condE hE rfl (fun hc14 hE => ?_) (fun hc14 hE => ?_)
    ·try dsimp only at hc14
     have hf14 := of_decide_eq_true hc14
     refine AWp.skip ?_
     refine hK13 _ ?_
     clear hK13 K13
     refine AWp.seqJH (KeepsT.cons (k := 6) (by conv => lhs; whnf) (KeepsT.cons (k := 7) (by conv => lhs; whnf) (KeepsT.cons (k := 8) (by conv => lhs; whnf) KeepsT.nil))) (fun (z : (Sl Bs)) => [(3, .a (.d (Sl.d 1 strE (some tk1) z)))]) (fun z => (H.set tk1 (some (.tok 1 z.l.length)))) (fun z => Z39_j15 s8_11 ((Z39_l9 a0 n9)) z = some r) ?_ ?_
     ·intro K15 hK15
      refine AWp.block ?_
      refine AWp.seqK fun K17 hK17 => ?_
      refine AWp.region ?_
      obtain ⟨x18, gx18, hE⟩ := bindO_some hE
      refine AOps.s0 (Cert.idxMn (f := Token_Token.c) (n := s8_11) (TK rfl) rfl (TK rfl) rfl rfl rfl gx18) rfl ?_
      refine AOps.s0 (Cert.loadV (TK rfl) rfl rfl rfl) rfl ?_
      refine AOps.sL (Cert.allocL (TK rfl) rfl (by repeat (first | exact Snoc.nil | apply Snoc.cons))) rfl ?_
      refine AOps.sLn (Cert.storeLF (TK rfl) rfl rfl rfl rfl rfl (by repeat (first | exact SetAt.zero | apply SetAt.succ))) ?_
      refine AOps.nil ?_
      refine hK17 _ ?_
      clear hK17 K17
      refine AWp.freeze 5 _ rfl (by repeat (first | exact Snoc.nil | apply Snoc.cons)) (Keeps.c (k := 3) (by conv => lhs; whnf) (by rfl) (Keeps.c (k := 6) (by conv => lhs; whnf) (by rfl) (Keeps.c (k := 7) (by conv => lhs; whnf) (by rfl) (Keeps.c (k := 8) (by conv => lhs; whnf) (by rfl) Keeps.nil)))) ?_
      refine AWp.seqK fun K19 hK19 => ?_
      refine AWp.region ?_
      refine AOps.s0 (Cert.fieldV (TK rfl) rfl rfl (TK rfl) rfl rfl (by conv => lhs; whnf)) rfl ?_
      refine AOps.s0 (Cert.loadV (TK rfl) rfl rfl rfl) rfl ?_
      refine AOps.nil ?_
      refine hK19 _ ?_
      clear hK19 K19
      refine AWp.block ?_
      refine AWp.seqK fun K20 hK20 => ?_
      refine AWp.region ?_
      refine AOps.s0 (Cert.binI rfl rfl rfl) rfl ?_
      refine AOps.s0 (Cert.assign (by conv => lhs; whnf)) rfl ?_
      refine AOps.nil ?_
      refine hK20 _ ?_
      clear hK20 K20
      refine AWp.condE hE rfl (fun hc21 hE => ?_) (fun hc21 hE => ?_)
      ·refine AWp.skip ?_
       exact hK15 _ s3_10 Weak.toA hE
      ·refine AWp.seqK fun K22 hK22 => ?_
       refine AWp.region ?_
       refine AOps.s0 (Cert.binI rfl rfl rfl) rfl ?_
       refine AOps.s0 (Cert.assign (by conv => lhs; whnf)) rfl ?_
       refine AOps.nil ?_
       refine hK22 _ ?_
       clear hK22 K22
       refine AWp.condE hE rfl (fun hc23 hE => ?_) (fun hc23 hE => ?_)
       ·refine AWp.region ?_
        refine AOps.s0 (Cert.move (by conv => lhs; whnf)) rfl ?_
        refine AOps.s0 (Cert.fieldV (TK rfl) rfl rfl (TK rfl) rfl rfl (by conv => lhs; whnf)) rfl ?_
        refine AOps.s0 (Cert.loadV (TK rfl) rfl rfl rfl) rfl ?_
        obtain ⟨x24, gx24, hE⟩ := bindO_some hE
        refine AOps.s0 (Cert.callP rfl rfl (fun H => Z36_walk gx24 H)) rfl ?_
        refine AOps.s0 (Cert.buildSlice (TK rfl) rfl (TK rfl) rfl rfl rfl rfl rfl rfl) rfl ?_
        obtain ⟨x25, gx25, hE⟩ := bindO_some hE
        refine AOps.sH (Cert.appM (f := strE) (TK rfl) rfl (TK rfl) (TK rfl) ⟨_, rfl⟩ rfl rfl (by decide) rfl rfl rfl rfl hpG rfl gx25) rfl ?_
        refine AOps.heq (h' := (H.set tk1 (some (.tok 1 x25.l.length)))) (by first | rfl | (rw [Heap.set_set]; rfl) | (funext n_; simp only [Heap.set]; (repeat' split) <;> first | rfl | (exfalso; simp_all; done) | (simp_all; done))) ?_
        refine AOps.s0 (Cert.assign (by conv => lhs; whnf)) rfl ?_
        refine AOps.nil ?_
        exact hK15 _ x25 Weak.toA hE
       ·refine AWp.region ?_
        refine AOps.s0 (Cert.move (by conv => lhs; whnf)) rfl ?_
        refine AOps.s0 (Cert.fieldV (TK rfl) rfl rfl (TK rfl) rfl rfl (by conv => lhs; whnf)) rfl ?_
        refine AOps.s0 (Cert.loadV (TK rfl) rfl rfl rfl) rfl ?_
        refine AOps.s0 (Cert.buildSlice (TK rfl) rfl (TK rfl) rfl rfl rfl rfl rfl rfl) rfl ?_
        obtain ⟨x26, gx26, hE⟩ := bindO_some hE
        refine AOps.sH (Cert.appM (f := strE) (TK rfl) rfl (TK rfl) (TK rfl) ⟨_, rfl⟩ rfl rfl (by decide) rfl rfl rfl rfl hpG rfl gx26) rfl ?_
        refine AOps.heq (h' := (H.set tk1 (some (.tok 1 x26.l.length)))) (by first | rfl | (rw [Heap.set_set]; rfl) | (funext n_; simp only [Heap.set]; (repeat' split) <;> first | rfl | (exfalso; simp_all; done) | (simp_all; done))) ?_
        refine AOps.s0 (Cert.assign (by conv => lhs; whnf)) rfl ?_
        refine AOps.nil ?_
        exact hK15 _ x26 Weak.toA hE
     ·rintro s3_16 hE
      try dsimp only at hE
      unfold Z39_j15 at hE
      refine AWp.region ?_
      refine AOps.s0 (Cert.addI rfl rfl (by first | omega | (dsimp only; omega) | (simp at *; omega)) (by first | omega | (dsimp only; omega) | (simp at *; omega))) rfl ?_
      refine AOps.s0 (Cert.move (by conv => lhs; whnf)) rfl ?_
      refine AOps.nil ?_
      exact hK9 _ (n9, s3_16, (s8_11 + 1)) Weak.toA hE (Nat.lt_succ_self _)
    ·refine AWp.exit ?_
     exact hK3 _ s3_10 Weak.toA hE
 ·rintro s3_4 hE
  try dsimp only at hE
  unfold Z39_j3 at hE
  refine AWp.seqK fun K5 hK5 => ?_
  refine AWp.region ?_
  refine AOps.s0 (Cert.move (by conv => lhs; whnf)) rfl ?_
  obtain ⟨x6, gx6, hE⟩ := bindO_some hE
  refine AOps.s0 (Cert.callP rfl rfl (fun H => Z33_walk gx6 H)) rfl ?_
  refine AOps.s0 (Cert.assign (by conv => lhs; whnf)) rfl ?_
  refine AOps.nil ?_
  refine hK5 _ ?_
  clear hK5 K5
  refine AWp.ret ?_
  repeat (first | refine xBlock_ret ?_ | refine xThen_ret ?_)
  obtain rfl := Option.some.inj hE
  refine retQ.retF H rfl ⟨rfl, rfl⟩ ?_
  first | exact Heap.sub_set htk1 | (simp only [Heap.set_set]; exact Heap.sub_set htk1)
end
section
variable [IsLoud lou]
def Z4  : Option Bool := (Z40 ([123, 97, 44, 32, 98, 58, 45, 49, 125] : Bs)).bind fun x3 => guardO (((decide (x3.2.2 = (0 : Int))) && (decide (((x3.1.l.length : Nat) : Int) = (7 : Int))))) (x3.1.l[4]?) Token_Token.zero fun x5 => guardO ((((decide (x3.2.2 = (0 : Int))) && (decide (((x3.1.l.length : Nat) : Int) = (7 : Int)))) && (decide (x5.FAt = (6 : Int))))) (Z39 x3.1) ([] : Bs) fun x6 => some ((((decide (x3.2.2 = (0 : Int))) && (decide (((x3.1.l.length : Nat) : Int) = (7 : Int)))) && (decide (x5.FAt = (6 : Int)))) && ((x6 == ([123, 32, 97, 32, 98, 32, 58, 32, 45, 49, 32, 125] : Bs))))
set_option maxRecDepth 100000 in
set_option maxHeartbeats 2000000 in
theorem Z4_walk  {oE : Ab.Obj} {gE : Nat} {r : Bool} (hE : Z4  = some r) (H : Heap) (hgE : H gE = some oE) (hoE : IsErr Tryd.prog oE) : ACalls Tryd.prog 12 [] H fun v h' => v = .a (.d (.bool r)) ∧ h' = H := by
 unfold Z4 at hE
 refine ACalls.of_wp (fn := Tryd.f12) (c := _) Tryd.tab_ok (fun _ _ => Tryd.call12 _ _) Tryd.func12 rfl (n := 28) rfl (rs := [.tmp 0]) rfl rfl ?_
 refine AWp.seqK fun K1 hK1 => ?_
 refine AWp.region ?_
 refine AOps.s0 (Cert.assign (by conv => lhs; whnf)) rfl ?_
 refine AOps.nil ?_
 refine hK1 _ ?_
 clear hK1 K1
 refine AWp.seqK fun K2 hK2 => ?_
 refine AWp.region ?_
 obtain ⟨x3, gx3, hE⟩ := bindO_some hE
 refine AOps.s0 (Cert.callR rfl rfl (Z40_walk (gE := gE) (oE := oE) gx3 _ hpG (by assumption))) rfl ?_
 refine AOps.s0 (Cert.move (by conv => lhs; whnf)) rfl ?_
 refine AOps.s0 (Cert.extract rfl rfl) rfl ?_
 refine AOps.s0 (Cert.extract rfl rfl) rfl ?_
 refine AOps.s0 (Cert.extract rfl rfl) rfl ?_
 refine AOps.s0 (Cert.assign (by conv => lhs; whnf)) rfl ?_
 refine AOps.s0 (Cert.assign (by conv => lhs; whnf)) rfl ?_
 refine AOps.s0 (Cert.assign (by conv => lhs; whnf)) rfl ?_
 refine AOps.nil ?_
 refine hK2 _ ?_
 clear hK2 K2
 refine AWp.seqK fun K4 hK4 => ?_
 refine AWp.region ?_
 refine AOps.s0 (Cert.move (by conv => lhs; whnf)) rfl ?_
 refine AOps.s0 (Cert.binI rfl rfl rfl) rfl ?_
 refine AOps.s0 (Cert.move (by conv => lhs; whnf)) rfl ?_
 refine AOps.gC rfl rfl (fun hC => Cert.move (by conv => lhs; whnf)) rfl ?_
 refine AOps.gC rfl rfl (fun hC => Cert.ungd (k := 12) rfl (by first | exact hC | exact andL hC | exact andL (andL hC) | exact andL (andL (andL hC)) | exact andR hC | simp_all) (Cert.lenM' (f := Token_Token.c) (s := x3.1) (TK rfl) rfl rfl rfl)) rfl ?_
 refine AOps.gC rfl rfl (fun hC => Cert.ungd (k := 13) rfl (by first | exact hC | exact andL hC | exact andL (andL hC) | exact andL (andL (andL hC)) | exact andR hC | simp_all) (Cert.binI rfl rfl rfl)) rfl ?_
 refine AOps.s0 (Cert.pickAnd rfl rfl (fun h => by first | exact h | exact notT h | exact andI hC h | exact andI hC (notT h) | simp_all) rfl) rfl ?_
 refine AOps.s0 (Cert.move (by conv => lhs; whnf)) rfl ?_
 refine AOps.gC rfl rfl (fun hC => Cert.move (by conv => lhs; whnf)) rfl ?_
 obtain ⟨x5, gx5, hE⟩ := guardO_some hE
 refine AOps.gC rfl rfl (fun hC => Cert.ungd (k := 17) rfl (by first | exact hC | exact andL hC | exact andL (andL hC) | exact andL (andL (andL hC)) | exact andR hC | simp_all) (Cert.idxMn (f := Token_Token.c) (n := 4) (TK rfl) rfl (TK rfl) rfl rfl rfl (gx5 hC))) rfl ?_
 refine AOps.gC rfl rfl (fun hC => Cert.ungd (k := 18) rfl (by first | exact hC | exact andL hC | exact andL (andL hC) | exact andL (andL (andL hC)) | exact andR hC | simp_all) (Cert.fieldV (TK rfl) rfl rfl (TK rfl) rfl rfl (by conv => lhs; whnf))) rfl ?_
 refine AOps.gC rfl rfl (fun hC => Cert.ungd (k := 19) rfl (by first | exact hC | exact andL hC | exact andL (andL hC) | exact andL (andL (andL hC)) | exact andR hC | simp_all) (Cert.loadV (TK rfl) rfl rfl rfl)) rfl ?_
 refine AOps.gC rfl rfl (fun hC => Cert.ungd (k := 20) rfl (by first | exact hC | exact andL hC | exact andL (andL hC) | exact andL (andL (andL hC)) | exact andR hC | simp_all) (Cert.binI rfl rfl rfl)) rfl ?_
 refine AOps.s0 (Cert.pickAnd rfl rfl (fun h => by first | exact h | exact notT h | exact andI hC h | exact andI hC (notT h) | simp_all) rfl) rfl ?_
 refine AOps.s0 (Cert.move (by conv => lhs; whnf)) rfl ?_
 refine AOps.gC rfl rfl (fun hC => Cert.move (by conv => lhs; whnf)) rfl ?_
 obtain ⟨x6, gx6, hE⟩ := guardO_some hE
 refine AOps.gC rfl rfl (fun hC => Cert.ungd (k := 24) rfl (by first | exact hC | exact andL hC | exact andL (andL hC) | exact andL (andL (andL hC)) | exact andR hC | simp_all) (Cert.callP rfl rfl (fun H => Z39_walk (gx6 hC) H))) rfl ?_
 refine AOps.gC rfl rfl (fun hC => Cert.ungd (k := 25) rfl (by first | exact hC | exact andL hC | exact andL (andL hC) | exact andL (andL (andL hC)) | exact andR hC | simp_all) (Cert.binS rfl rfl rfl)) rfl ?_
 refine AOps.s0 (Cert.pickAnd rfl rfl (fun h => by first | exact h | exact notT h | exact andI hC h | exact andI hC (notT h) | simp_all) rfl) rfl ?_
 refine AOps.s0 (Cert.assign (by conv => lhs; whnf)) rfl ?_
 refine AOps.nil ?_
 refine hK4 _ ?_
 clear hK4 K4
 refine AWp.ret ?_
 repeat (first | refine xBlock_ret ?_ | refine xThen_ret ?_)
 obtain rfl := Option.some.inj hE
 refine retQ.retF H rfl ⟨rfl, rfl⟩ ?_
 exact (fun _ _ h => h)
end
end Go.Proofs
