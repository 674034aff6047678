import Derived.Test.YtmjbloiidajknaaDoorV1
set_option maxRecDepth 100000
set_option maxHeartbeats 2000000
set_option linter.unusedVariables false
set_option linter.unusedSimpArgs false
namespace Go.Proofs
open Go Go.Ab
open AOps Cert AWp
variable {lou : Lou}
def Z60_j17  (y18_id4_15 : Strings_Builder) : Option (Bs × Int) := (Z46 y18_id4_15).bind fun x20 => some (x20, (0 : Int))
def Z60_j29 (k_next_22 : Int → Strings_Builder → Option (Bs × Int)) (s5_30 : Int) (y31_id4_15 : Strings_Builder) : Option (Bs × Int) := (addC s5_30 (1 : Int)).bind fun x32 => k_next_22 x32 y31_id4_15
def Z60_j66 (y24_id4_15 : Strings_Builder) (x45 : Int) (k_next_22 : Int → Strings_Builder → Option (Bs × Int)) (s9_67 : Int) : Option (Bs × Int) := bif (decide ((255 : Int) < s9_67)) then (some (([] : Bs), (3 : Int))) else ((Z47 y24_id4_15 (IntKind.wrap .u8 s9_67)).bind fun x73 => (addC x45 (4 : Int)).bind fun x74 => Z60_j29  k_next_22 x74 x73.2)
def Z60_l81 (y24_id4_15 : Strings_Builder) (x45 : Int) (x79 : Sl Int) (k_next_22 : Int → Strings_Builder → Option (Bs × Int)) : Nat → Int → Nat → Option (Bs × Int)
 | 0, _, _ => none
 | n81 + 1, s9_82, s92_83 => bif (decide (((s92_83 : Nat) : Int) < ((x79.l.length : Nat) : Int))) then ((x79.l[s92_83]?).bind fun x89 => (Z53 ([48, 49, 50, 51, 52, 53, 54, 55, 56, 57, 97, 98, 99, 100, 101, 102] : Bs) (IntKind.wrap .u8 ((BitVec.ofInt (IntKind.bits .u8) x89 ||| BitVec.ofInt (IntKind.bits .u8) (32 : Int)).toNat : Int))).bind fun x91 => bif (((decide (x91 < (0 : Int))) || (decide (x89 < (48 : Int)))) || ((decide ((57 : Int) < x89)) && (decide (x89 < (65 : Int))))) then (some (([] : Bs), (3 : Int))) else ((mulC s9_82 (16 : Int)).bind fun x96 => (addC x96 x91).bind fun x97 => (Z60_l81 y24_id4_15 x45 x79 k_next_22 n81) x97 (s92_83 + 1))) else (Z60_j66 y24_id4_15 x45 k_next_22 s9_82)
def Z60_l22 (x13 : Bs)  : Nat → Int → Strings_Builder → Option (Bs × Int)
 | 0, _, _ => none
 | n22 + 1, s5_23, y24_id4_15 => bif (decide (s5_23 < ((x13.length : Nat) : Int))) then ((idxC x13 s5_23).bind fun x34 => bif (((decide (((x34.toNat : Nat) : Int) < (32 : Int))) || (decide ((126 : Int) < ((x34.toNat : Nat) : Int)))) || (decide (((x34.toNat : Nat) : Int) = (34 : Int)))) then (some (([] : Bs), (3 : Int))) else (bif (!decide (((x34.toNat : Nat) : Int) = (92 : Int))) then ((Z47 y24_id4_15 ((x34.toNat : Nat) : Int)).bind fun x43 => Z60_j29  ((Z60_l22 x13 n22)) s5_23 x43.2) else ((addC s5_23 (1 : Int)).bind fun x45 => bif (decide (x45 = ((x13.length : Nat) : Int))) then (some (([] : Bs), (3 : Int))) else ((idxC x13 x45).bind fun x53 => (Z61 ((x53.toNat : Nat) : Int)).bind fun x54 => bif x54.2 then ((Z47 y24_id4_15 x54.1).bind fun x58 => Z60_j29  ((Z60_l22 x13 n22)) x45 x58.2) else ((idxC x13 x45).bind fun x61 => guardO (!(!decide (((x61.toNat : Nat) : Int) = (117 : Int)))) (addC x45 (4 : Int)) (0 : Int) fun x62 => bif ((!decide (((x61.toNat : Nat) : Int) = (117 : Int))) || (decide (((x13.length : Nat) : Int) ≤ x62))) then (some (([] : Bs), (3 : Int))) else ((addC x45 (1 : Int)).bind fun x76 => (addC x45 (5 : Int)).bind fun x77 => (cutC x13 (some x76) (some x77)).bind fun x78 => (bytesOf x78).bind fun x79 => Z60_l81 y24_id4_15 x45 x79 ((Z60_l22 x13 n22)) (x79.l.length + 1) (0 : Int) 0)))))) else (Z60_j17   y24_id4_15)
def Z60 (a0 : Bs) : Option (Bs × Int) := guardO (!(decide (((a0.length : Nat) : Int) < (2 : Int)))) (a0[0]?) (0 : UInt8) fun x5 => guardO (!((decide (((a0.length : Nat) : Int) < (2 : Int))) || (!decide (((x5.toNat : Nat) : Int) = (34 : Int))))) (subC ((a0.length : Nat) : Int) (1 : Int)) (0 : Int) fun x6 => guardO (!((decide (((a0.length : Nat) : Int) < (2 : Int))) || (!decide (((x5.toNat : Nat) : Int) = (34 : Int))))) (idxC a0 x6) (0 : UInt8) fun x7 => bif (((decide (((a0.length : Nat) : Int) < (2 : Int))) || (!decide (((x5.toNat : Nat) : Int) = (34 : Int)))) || (!decide (((x7.toNat : Nat) : Int) = (34 : Int)))) then (some (([] : Bs), (3 : Int))) else ((subC ((a0.length : Nat) : Int) (1 : Int)).bind fun x12 => (cutC a0 (some (1 : Int)) (some x12)).bind fun x13 => Z60_l22 x13 F0 (0 : Int) Strings_Builder.zero)
theorem Z60_walk {a0 : Bs}   {r : (Bs × Int)} (hE : Z60 a0 = some r) (H : Heap)  : ACalls Tryd.prog 60 [.d (.str a0)] H fun v h' => v = .tup [.d (.str r.1), .d (.int .i64 r.2)] ∧ h' = H := by
 unfold Z60 at hE
 refine ACalls.of_wp (fn := Tryd.f60) (c := _) Tryd.tab_ok (fun _ _ => Tryd.call60 _ _) Tryd.func60 rfl (n := 126) rfl (rs := [.tmp 2, .tmp 3]) rfl rfl ?_
 refine seqK fun K1 hK1 => ?_
 refine region ?_
 refine s0 assignA rfl ?_
 refine s0 assignA rfl ?_
 refine nil ?_
 refine hK1 _ ?_
 clear hK1 K1
 refine seqK fun K2 hK2 => ?_
 refine seqK fun K3 hK3 => ?_
 refine region ?_
 refine s0 moveA rfl ?_
 refine sLenS (TK rfl) rfl rfl rfl rfl fun hL4 => ?_
 refine s0 (binI rfl rfl rfl) rfl ?_
 refine s0 moveA rfl ?_
 refine gC rfl rfl (fun hC => moveA) rfl ?_
 obtain ⟨x5, gx5, hE⟩ := guardO_some hE
 refine gC rfl rfl (fun hC => ungdA (k := 17) rfl (idxSn (n := 0) (TK rfl) rfl rfl rfl (gx5 hC))) rfl ?_
 refine gC rfl rfl (fun hC => ungdA (k := 18) rfl (binI rfl rfl rfl)) rfl ?_
 refine s0 (pickOrA rfl rfl rfl) rfl ?_
 refine s0 moveA rfl ?_
 refine gC rfl rfl (fun hC => moveA) rfl ?_
 refine gC rfl rfl (fun hC => moveA) rfl ?_
 refine gC rfl rfl (fun hC => ungdA (k := 23) rfl (lenS (TK rfl) rfl rfl rfl)) rfl ?_
 obtain ⟨x6, gx6, hE⟩ := guardO_some hE
 refine gC rfl rfl (fun hC => ungdA (k := 24) rfl (subM rfl rfl (gx6 hC))) rfl ?_
 obtain ⟨x7, gx7, hE⟩ := guardO_some hE
 refine gC rfl rfl (fun hC => ungdA (k := 22) rfl (ungdA (k := 25) rfl (idxS (TK rfl) rfl rfl rfl (gx7 hC)))) rfl ?_
 refine gC rfl rfl (fun hC => ungdA (k := 26) rfl (binI rfl rfl rfl)) rfl ?_
 refine s0 (pickOrA rfl rfl rfl) rfl ?_
 refine nil ?_
 refine hK3 _ ?_
 clear hK3 K3
 refine condE hE rfl (fun hc8 hE => ?_) (fun hc8 hE => ?_)
 ·refine seqK fun K9 hK9 => ?_
  refine region ?_
  refine s0 assignA rfl ?_
  refine s0 assignA rfl ?_
  refine nil ?_
  refine hK9 _ ?_
  clear hK9 K9
  refine AWp.ret ?_
  repeat (first | refine xBlock_ret ?_ | refine xThen_ret ?_)
  obtain rfl := Option.some.inj hE
  refine retQ.retF H rfl ⟨rfl, rfl⟩ ?_
  exact (fun _ _ h => h)
 refine AWp.skip ?_
 refine hK2 _ ?_
 clear hK2 K2
 refine seqK fun K10 hK10 => ?_
 refine region ?_
 refine s0 moveA rfl ?_
 refine s0 moveA rfl ?_
 refine sLenS (TK rfl) rfl rfl rfl rfl fun hL11 => ?_
 obtain ⟨x12, gx12, hE⟩ := bindO_some hE
 refine s0 (subM rfl rfl gx12) rfl ?_
 obtain ⟨x13, gx13, hE⟩ := bindO_some hE
 refine s0 (cutM (l := (some (1 : Int))) (r := (some x12)) (TK rfl) rfl rfl rfl rfl (by simp) gx13) rfl ?_
 refine s0 assignA rfl ?_
 refine nil ?_
 refine hK10 _ ?_
 clear hK10 K10
 refine seqK fun K14 hK14 => ?_
 refine region ?_
 refine AOps.tokE 1 5 fun tk4_16 htk4_16 => ?_
 refine sE (StepE.allocT (TK rfl) rfl) rfl (fun _ _ _ ⟨id4_15, hid4_15, e1, e2, e3⟩ => ?_); subst e1 e2 e3
 obtain ⟨ne_id4_15_tk4_16, hid4_15⟩ := Heap.set_fresh hid4_15
 refine AOps.recellT id4_15 _ hpG (fun j w cs hh hx => tok_cell 1 1 1 hh (t := tk4_16) hpG hx rfl) ?_
 refine AOps.heq (h' := ((H.set tk4_16 (some (.tok 1 0 (some 5)))).set id4_15 (some (.tcells 68 (Strings_Builder.cg id4_15 (some tk4_16) Strings_Builder.zero))))) (by first | rfl | (rw [Heap.set_set]; rfl) | (funext n_; simp only [Heap.set]; (repeat' split) <;> first | rfl | (exfalso; simp_all; done) | (simp_all; done))) ?_
 refine nil ?_
 refine hK14 _ ?_
 clear hK14 K14
 refine seqJH (KeepsT.A (k := 4) KeepsT.nil) (fun (z : Strings_Builder) => []) (fun z => ((H.set tk4_16 (some (.tok 1 z.Fbuf.l.length (some 5)))).set id4_15 (some (.tcells 68 (Strings_Builder.cg id4_15 (some tk4_16) z))))) (fun z => Z60_j17 z = some r) ?_ ?_
 ·intro K17 hK17
  refine seqK fun K21 hK21 => ?_
  refine region ?_
  refine s0 assignA rfl ?_
  refine nil ?_
  refine hK21 _ ?_
  clear hK21 K21
  refine block ?_
  refine loopH (KeepsT.A (k := 0) (KeepsT.A (k := 4) KeepsT.nil)) (fun (z : Nat × Int × Strings_Builder) => [(5, .a (.d (.int .i64 z.2.1)))]) (fun z => ((H.set tk4_16 (some (.tok 1 z.2.2.Fbuf.l.length (some 5)))).set id4_15 (some (.tcells 68 (Strings_Builder.cg id4_15 (some tk4_16) z.2.2))))) (fun z => z.1) (fun z => Z60_l22 x13 z.1 z.2.1 z.2.2 = some r) (F0, (0 : Int), Strings_Builder.zero) hE Weak.toA ?_
  rintro ⟨n22, s5_23, y24_id4_15⟩ hE K22 hK22
  try dsimp only at hE
  cases n22 with
  | zero => cases hE
  | succ n22 =>
    rw [Z60_l22] at hE
    refine seqK fun K25 hK25 => ?_
    refine seqK fun K26 hK26 => ?_
    refine region ?_
    refine s0 moveA rfl ?_
    refine s0 moveA rfl ?_
    refine sLenS (TK rfl) rfl rfl rfl rfl fun hL27 => ?_
    refine s0 (binI rfl rfl rfl) rfl ?_
    refine nil ?_
    refine hK26 _ ?_
    clear hK26 K26
    refine condE hE rfl (fun hc28 hE => ?_) (fun hc28 hE => ?_)
    ·refine AWp.skip ?_
     refine hK25 _ ?_
     clear hK25 K25
     refine seqJH (KeepsT.A (k := 0) (KeepsT.A (k := 4) KeepsT.nil)) (fun (z : Int × Strings_Builder) => [(5, .a (.d (.int .i64 z.1)))]) (fun z => ((H.set tk4_16 (some (.tok 1 z.2.Fbuf.l.length (some 5)))).set id4_15 (some (.tcells 68 (Strings_Builder.cg id4_15 (some tk4_16) z.2))))) (fun z => Z60_j29  ((Z60_l22 x13 n22)) z.1 z.2 = some r) ?_ ?_
     ·intro K29 hK29
      refine block ?_
      refine seqK fun K33 hK33 => ?_
      refine region ?_
      refine s0 moveA rfl ?_
      refine s0 moveA rfl ?_
      obtain ⟨x34, gx34, hE⟩ := bindO_some hE
      refine s0 (idxS (TK rfl) rfl rfl rfl gx34) rfl ?_
      refine s0 assignA rfl ?_
      refine nil ?_
      refine hK33 _ ?_
      clear hK33 K33
      refine seqK fun K35 hK35 => ?_
      refine seqK fun K36 hK36 => ?_
      refine region ?_
      refine s0 moveA rfl ?_
      refine s0 (binI rfl rfl rfl) rfl ?_
      refine s0 moveA rfl ?_
      refine gC rfl rfl (fun hC => moveA) rfl ?_
      refine gC rfl rfl (fun hC => ungdA (k := 46) rfl (binI rfl rfl rfl)) rfl ?_
      refine s0 (pickOrA rfl rfl rfl) rfl ?_
      refine s0 moveA rfl ?_
      refine gC rfl rfl (fun hC => moveA) rfl ?_
      refine gC rfl rfl (fun hC => ungdA (k := 50) rfl (binI rfl rfl rfl)) rfl ?_
      refine s0 (pickOrA rfl rfl rfl) rfl ?_
      refine nil ?_
      refine hK36 _ ?_
      clear hK36 K36
      refine condE hE rfl (fun hc37 hE => ?_) (fun hc37 hE => ?_)
      ·refine seqK fun K38 hK38 => ?_
       refine region ?_
       refine s0 assignA rfl ?_
       refine s0 assignA rfl ?_
       refine nil ?_
       refine hK38 _ ?_
       clear hK38 K38
       refine AWp.ret ?_
       repeat (first | refine xBlock_ret ?_ | refine xThen_ret ?_)
       obtain rfl := Option.some.inj hE
       refine retQ.retF H rfl ⟨rfl, rfl⟩ ?_
       intro id_ o_ he_
       have e_tk4_16 : id_ ≠ tk4_16 := fun e_ => by subst e_; simp_all [Heap.set]
       have e_id4_15 : id_ ≠ id4_15 := fun e_ => by subst e_; simp_all [Heap.set]
       rw [← he_]
       simp only [Heap.set] at he_ ⊢
       (repeat' split) <;> simp_all
      refine AWp.skip ?_
      refine hK35 _ ?_
      clear hK35 K35
      refine seqK fun K39 hK39 => ?_
      refine seqK fun K40 hK40 => ?_
      refine region ?_
      refine s0 moveA rfl ?_
      refine s0 (binI rfl rfl rfl) rfl ?_
      refine nil ?_
      refine hK40 _ ?_
      clear hK40 K40
      refine condE hE rfl (fun hc41 hE => ?_) (fun hc41 hE => ?_)
      ·refine seqK fun K42 hK42 => ?_
       refine region ?_
       refine s0 moveA rfl ?_
       obtain ⟨x43, gx43, hE⟩ := bindO_some hE
       refine sH (callH rfl rfl (Z47_walk gx43 _ hpG hpG)) rfl ?_
       refine AOps.heq (h' := ((H.set tk4_16 (some (.tok 1 x43.2.Fbuf.l.length (some 5)))).set id4_15 (some (.tcells 68 (Strings_Builder.cg id4_15 (some tk4_16) x43.2))))) (by first | rfl | (rw [Heap.set_set]; rfl) | (funext n_; simp only [Heap.set]; (repeat' split) <;> first | rfl | (exfalso; simp_all; done) | (simp_all; done))) ?_
       refine nil ?_
       refine hK42 _ ?_
       clear hK42 K42
       refine AWp.exit ?_
       exact hK29 _ (s5_23, x43.2) Weak.toA hE
      refine AWp.skip ?_
      refine hK39 _ ?_
      clear hK39 K39
      refine seqK fun K44 hK44 => ?_
      refine region ?_
      refine s0 moveA rfl ?_
      obtain ⟨x45, gx45, hE⟩ := bindO_some hE
      refine s0 (addM rfl rfl gx45) rfl ?_
      refine s0 assignA rfl ?_
      refine nil ?_
      refine hK44 _ ?_
      clear hK44 K44
      refine seqK fun K46 hK46 => ?_
      refine seqK fun K47 hK47 => ?_
      refine region ?_
      refine s0 moveA rfl ?_
      refine s0 moveA rfl ?_
      refine sLenS (TK rfl) rfl rfl rfl rfl fun hL48 => ?_
      refine s0 (binI rfl rfl rfl) rfl ?_
      refine nil ?_
      refine hK47 _ ?_
      clear hK47 K47
      refine condE hE rfl (fun hc49 hE => ?_) (fun hc49 hE => ?_)
      ·refine seqK fun K50 hK50 => ?_
       refine region ?_
       refine s0 assignA rfl ?_
       refine s0 assignA rfl ?_
       refine nil ?_
       refine hK50 _ ?_
       clear hK50 K50
       refine AWp.ret ?_
       repeat (first | refine xBlock_ret ?_ | refine xThen_ret ?_)
       obtain rfl := Option.some.inj hE
       refine retQ.retF H rfl ⟨rfl, rfl⟩ ?_
       intro id_ o_ he_
       have e_tk4_16 : id_ ≠ tk4_16 := fun e_ => by subst e_; simp_all [Heap.set]
       have e_id4_15 : id_ ≠ id4_15 := fun e_ => by subst e_; simp_all [Heap.set]
       rw [← he_]
       simp only [Heap.set] at he_ ⊢
       (repeat' split) <;> simp_all
      refine AWp.skip ?_
      refine hK46 _ ?_
      clear hK46 K46
      refine seqK fun K51 hK51 => ?_
      refine seqK fun K52 hK52 => ?_
      refine region ?_
      refine s0 moveA rfl ?_
      refine s0 moveA rfl ?_
      obtain ⟨x53, gx53, hE⟩ := bindO_some hE
      refine s0 (idxS (TK rfl) rfl rfl rfl gx53) rfl ?_
      obtain ⟨x54, gx54, hE⟩ := bindO_some hE
      refine s0 (callP rfl rfl (fun H => Z61_walk gx54 H)) rfl ?_
      refine s0 moveA rfl ?_
      refine s0 (extract rfl rfl) rfl ?_
      refine s0 (extract rfl rfl) rfl ?_
      refine s0 assignA rfl ?_
      refine s0 assignA rfl ?_
      refine nil ?_
      refine hK52 _ ?_
      clear hK52 K52
      refine seqK fun K55 hK55 => ?_
      refine region ?_
      refine s0 moveA rfl ?_
      refine nil ?_
      refine hK55 _ ?_
      clear hK55 K55
      refine condE hE rfl (fun hc56 hE => ?_) (fun hc56 hE => ?_)
      ·refine seqK fun K57 hK57 => ?_
       refine region ?_
       refine s0 moveA rfl ?_
       obtain ⟨x58, gx58, hE⟩ := bindO_some hE
       refine sH (callH rfl rfl (Z47_walk gx58 _ hpG hpG)) rfl ?_
       refine AOps.heq (h' := ((H.set tk4_16 (some (.tok 1 x58.2.Fbuf.l.length (some 5)))).set id4_15 (some (.tcells 68 (Strings_Builder.cg id4_15 (some tk4_16) x58.2))))) (by first | rfl | (rw [Heap.set_set]; rfl) | (funext n_; simp only [Heap.set]; (repeat' split) <;> first | rfl | (exfalso; simp_all; done) | (simp_all; done))) ?_
       refine nil ?_
       refine hK57 _ ?_
       clear hK57 K57
       refine AWp.exit ?_
       exact hK29 _ (x45, x58.2) Weak.toA hE
      refine AWp.skip ?_
      refine hK51 _ ?_
      clear hK51 K51
      refine seqK fun K59 hK59 => ?_
      refine seqK fun K60 hK60 => ?_
      refine region ?_
      refine s0 moveA rfl ?_
      refine s0 moveA rfl ?_
      obtain ⟨x61, gx61, hE⟩ := bindO_some hE
      refine s0 (idxS (TK rfl) rfl rfl rfl gx61) rfl ?_
      refine s0 (binI rfl rfl rfl) rfl ?_
      refine s0 moveA rfl ?_
      refine gC rfl rfl (fun hC => moveA) rfl ?_
      obtain ⟨x62, gx62, hE⟩ := guardO_some hE
      refine gC rfl rfl (fun hC => ungdA (k := 78) rfl (addM rfl rfl (gx62 hC))) rfl ?_
      refine gC rfl rfl (fun hC => moveA) rfl ?_
      refine gC rfl rfl (fun hC => ungdA (k := 80) rfl (lenS (TK rfl) rfl rfl rfl)) rfl ?_
      refine gC rfl rfl (fun hC => ungdA (k := 79) rfl (ungdA (k := 81) rfl (binI rfl rfl rfl))) rfl ?_
      refine s0 (pickOrA rfl rfl rfl) rfl ?_
      refine nil ?_
      refine hK60 _ ?_
      clear hK60 K60
      refine condE hE rfl (fun hc63 hE => ?_) (fun hc63 hE => ?_)
      ·refine seqK fun K64 hK64 => ?_
       refine region ?_
       refine s0 assignA rfl ?_
       refine s0 assignA rfl ?_
       refine nil ?_
       refine hK64 _ ?_
       clear hK64 K64
       refine AWp.ret ?_
       repeat (first | refine xBlock_ret ?_ | refine xThen_ret ?_)
       obtain rfl := Option.some.inj hE
       refine retQ.retF H rfl ⟨rfl, rfl⟩ ?_
       intro id_ o_ he_
       have e_tk4_16 : id_ ≠ tk4_16 := fun e_ => by subst e_; simp_all [Heap.set]
       have e_id4_15 : id_ ≠ id4_15 := fun e_ => by subst e_; simp_all [Heap.set]
       rw [← he_]
       simp only [Heap.set] at he_ ⊢
       (repeat' split) <;> simp_all
      refine AWp.skip ?_
      refine hK59 _ ?_
      clear hK59 K59
      refine seqK fun K65 hK65 => ?_
      refine region ?_
      refine s0 assignA rfl ?_
      refine nil ?_
      refine hK65 _ ?_
      clear hK65 K65
      refine seqJH (KeepsT.A (k := 0) (KeepsT.A (k := 4) (KeepsT.A (k := 5) KeepsT.nil))) (fun (z : Int) => [(9, .a (.d (.int .i64 z)))]) (fun z => ((H.set tk4_16 (some (.tok 1 y24_id4_15.Fbuf.l.length (some 5)))).set id4_15 (some (.tcells 68 (Strings_Builder.cg id4_15 (some tk4_16) y24_id4_15))))) (fun z => Z60_j66 y24_id4_15 x45 ((Z60_l22 x13 n22)) z = some r) ?_ ?_
      ·intro K66 hK66
       refine seqK fun K75 hK75 => ?_
       refine region ?_
       refine s0 moveA rfl ?_
       refine s0 moveA rfl ?_
       obtain ⟨x76, gx76, hE⟩ := bindO_some hE
       refine s0 (addM rfl rfl gx76) rfl ?_
       refine s0 moveA rfl ?_
       obtain ⟨x77, gx77, hE⟩ := bindO_some hE
       refine s0 (addM rfl rfl gx77) rfl ?_
       obtain ⟨x78, gx78, hE⟩ := bindO_some hE
       refine s0 (cutM (l := (some x76)) (r := (some x77)) (TK rfl) rfl rfl rfl rfl (by simp) gx78) rfl ?_
       obtain ⟨x79, gx79, hE⟩ := bindO_some hE
       refine s0 (convSB (TK rfl) rfl (TK rfl) rfl (TK rfl) rfl rfl gx79) rfl ?_
       refine sLen (f := (intE .u8)) (s := x79) (TK rfl) rfl rfl rfl rfl fun hL80 => ?_
       refine s0 moveA rfl ?_
       refine nil ?_
       refine hK75 _ ?_
       clear hK75 K75
       refine block ?_
       refine loopH (KeepsT.A (k := 0) (KeepsT.A (k := 4) (KeepsT.A (k := 5) (KeepsT.A (k := 90) (KeepsT.A (k := 91) KeepsT.nil))))) (fun (z : Nat × Int × Nat) => [(9, .a (.d (.int .i64 z.2.1))), (92, .a (.d (.int .i64 ((z.2.2 : Nat) : Int))))]) (fun z => ((H.set tk4_16 (some (.tok 1 y24_id4_15.Fbuf.l.length (some 5)))).set id4_15 (some (.tcells 68 (Strings_Builder.cg id4_15 (some tk4_16) y24_id4_15))))) (fun z => z.1) (fun z => Z60_l81 y24_id4_15 x45 x79 ((Z60_l22 x13 n22)) z.1 z.2.1 z.2.2 = some r) ((x79.l.length + 1), (0 : Int), 0) hE Weak.toA ?_
       rintro ⟨n81, s9_82, s92_83⟩ hE K81 hK81
       try dsimp only at hE
       cases n81 with
       | zero => cases hE
       | succ n81 =>
         rw [Z60_l81] at hE
         refine seqK fun K84 hK84 => ?_
         refine region ?_
         refine s0 (binI rfl rfl rfl) rfl ?_
         refine nil ?_
         refine hK84 _ ?_
         clear hK84 K84
         refine seqK fun K85 hK85 => ?_
         refine condE hE rfl (fun hc86 hE => ?_) (fun hc86 hE => ?_)
         ·try dsimp only at hc86
          have hf86 := of_decide_eq_true hc86
          refine AWp.skip ?_
          refine hK85 _ ?_
          clear hK85 K85
          refine seqK fun K87 hK87 => ?_
          refine block ?_
          refine seqK fun K88 hK88 => ?_
          refine region ?_
          obtain ⟨x89, gx89, hE⟩ := bindO_some hE
          refine s0 (idxMn (f := (intE .u8)) (n := s92_83) (TK rfl) rfl (TK rfl) rfl rfl rfl gx89) rfl ?_
          refine s0 (loadV (TK rfl) rfl rfl rfl) rfl ?_
          refine s0 assignA rfl ?_
          refine nil ?_
          refine hK88 _ ?_
          clear hK88 K88
          refine seqK fun K90 hK90 => ?_
          refine region ?_
          refine s0 moveA rfl ?_
          refine s0 (orI rfl rfl) rfl ?_
          obtain ⟨x91, gx91, hE⟩ := bindO_some hE
          refine s0 (callP rfl rfl (fun H => Z53_walk gx91 H)) rfl ?_
          refine s0 assignA rfl ?_
          refine nil ?_
          refine hK90 _ ?_
          clear hK90 K90
          refine seqK fun K92 hK92 => ?_
          refine seqK fun K93 hK93 => ?_
          refine region ?_
          refine s0 moveA rfl ?_
          refine s0 (binI rfl rfl rfl) rfl ?_
          refine s0 moveA rfl ?_
          refine gC rfl rfl (fun hC => moveA) rfl ?_
          refine gC rfl rfl (fun hC => ungdA (k := 102) rfl (binI rfl rfl rfl)) rfl ?_
          refine s0 (pickOrA rfl rfl rfl) rfl ?_
          refine s0 moveA rfl ?_
          refine gC rfl rfl (fun hC => moveA) rfl ?_
          refine gC rfl rfl (fun hC => ungdA (k := 106) rfl (binI rfl rfl rfl)) rfl ?_
          refine gC rfl rfl (fun hC => ungdA (k := 107) rfl moveA) rfl ?_
          refine gC rfl rfl (fun hC => moveA) rfl ?_
          refine gC rfl rfl (fun hC => ungdA (k := 109) rfl (binI rfl rfl rfl)) rfl ?_
          refine gC rfl rfl (fun hC => ungdA (k := 108) rfl (pickAndA rfl rfl rfl)) rfl ?_
          refine s0 (pickOrA rfl rfl rfl) rfl ?_
          refine nil ?_
          refine hK93 _ ?_
          clear hK93 K93
          refine condE hE rfl (fun hc94 hE => ?_) (fun hc94 hE => ?_)
          ·refine seqK fun K95 hK95 => ?_
           refine region ?_
           refine s0 assignA rfl ?_
           refine s0 assignA rfl ?_
           refine nil ?_
           refine hK95 _ ?_
           clear hK95 K95
           refine AWp.ret ?_
           repeat (first | refine xBlock_ret ?_ | refine xThen_ret ?_)
           obtain rfl := Option.some.inj hE
           refine retQ.retF H rfl ⟨rfl, rfl⟩ ?_
           intro id_ o_ he_
           have e_tk4_16 : id_ ≠ tk4_16 := fun e_ => by subst e_; simp_all [Heap.set]
           have e_id4_15 : id_ ≠ id4_15 := fun e_ => by subst e_; simp_all [Heap.set]
           rw [← he_]
           simp only [Heap.set] at he_ ⊢
           (repeat' split) <;> simp_all
          refine AWp.skip ?_
          refine hK92 _ ?_
          clear hK92 K92
          refine region ?_
          refine s0 moveA rfl ?_
          obtain ⟨x96, gx96, hE⟩ := bindO_some hE
          refine s0 (mulM rfl rfl gx96) rfl ?_
          refine s0 moveA rfl ?_
          obtain ⟨x97, gx97, hE⟩ := bindO_some hE
          refine s0 (addM rfl rfl gx97) rfl ?_
          refine s0 assignA rfl ?_
          refine nil ?_
          refine hK87 _ ?_
          clear hK87 K87
          refine region ?_
          refine s0 (addI rfl rfl (by first | omega | (dsimp only; omega) | (simp at *; omega)) (by first | omega | (dsimp only; omega) | (simp at *; omega))) rfl ?_
          refine s0 moveA rfl ?_
          refine nil ?_
          exact hK81 _ (n81, x97, (s92_83 + 1)) Weak.toA hE (Nat.lt_succ_self _)
         refine AWp.exit ?_
         exact hK66 _ s9_82 Weak.toA hE
      rintro s9_67 hE
      try dsimp only at hE
      unfold Z60_j66 at hE
      refine seqK fun K68 hK68 => ?_
      refine seqK fun K69 hK69 => ?_
      refine region ?_
      refine s0 moveA rfl ?_
      refine s0 (binI rfl rfl rfl) rfl ?_
      refine nil ?_
      refine hK69 _ ?_
      clear hK69 K69
      refine condE hE rfl (fun hc70 hE => ?_) (fun hc70 hE => ?_)
      ·refine seqK fun K71 hK71 => ?_
       refine region ?_
       refine s0 assignA rfl ?_
       refine s0 assignA rfl ?_
       refine nil ?_
       refine hK71 _ ?_
       clear hK71 K71
       refine AWp.ret ?_
       repeat (first | refine xBlock_ret ?_ | refine xThen_ret ?_)
       obtain rfl := Option.some.inj hE
       refine retQ.retF H rfl ⟨rfl, rfl⟩ ?_
       intro id_ o_ he_
       have e_tk4_16 : id_ ≠ tk4_16 := fun e_ => by subst e_; simp_all [Heap.set]
       have e_id4_15 : id_ ≠ id4_15 := fun e_ => by subst e_; simp_all [Heap.set]
       rw [← he_]
       simp only [Heap.set] at he_ ⊢
       (repeat' split) <;> simp_all
      refine AWp.skip ?_
      refine hK68 _ ?_
      clear hK68 K68
      refine seqK fun K72 hK72 => ?_
      refine region ?_
      refine s0 moveA rfl ?_
      refine s0 (convI (TK rfl) (TK rfl) rfl rfl) rfl ?_
      obtain ⟨x73, gx73, hE⟩ := bindO_some hE
      refine sH (callH rfl rfl (Z47_walk gx73 _ hpG hpG)) rfl ?_
      refine AOps.heq (h' := ((H.set tk4_16 (some (.tok 1 x73.2.Fbuf.l.length (some 5)))).set id4_15 (some (.tcells 68 (Strings_Builder.cg id4_15 (some tk4_16) x73.2))))) (by first | rfl | (rw [Heap.set_set]; rfl) | (funext n_; simp only [Heap.set]; (repeat' split) <;> first | rfl | (exfalso; simp_all; done) | (simp_all; done))) ?_
      refine nil ?_
      refine hK72 _ ?_
      clear hK72 K72
      refine region ?_
      refine s0 moveA rfl ?_
      obtain ⟨x74, gx74, hE⟩ := bindO_some hE
      refine s0 (addM rfl rfl gx74) rfl ?_
      refine s0 assignA rfl ?_
      refine nil ?_
      exact hK29 _ (x74, x73.2) Weak.toA hE
     rintro ⟨s5_30, y31_id4_15⟩ hE
     try dsimp only at hE
     unfold Z60_j29 at hE
     refine region ?_
     refine s0 moveA rfl ?_
     obtain ⟨x32, gx32, hE⟩ := bindO_some hE
     refine s0 (addM rfl rfl gx32) rfl ?_
     refine s0 assignA rfl ?_
     refine nil ?_
     exact hK22 _ (n22, x32, y31_id4_15) Weak.toA hE (Nat.lt_succ_self _)
    refine AWp.exit ?_
    exact hK17 _ y24_id4_15 Weak.toA hE
 rintro y18_id4_15 hE
 try dsimp only at hE
 unfold Z60_j17 at hE
 refine seqK fun K19 hK19 => ?_
 refine region ?_
 obtain ⟨x20, gx20, hE⟩ := bindO_some hE
 refine sH (callH rfl rfl (Z46_walk gx20 _ hpG hpG)) rfl ?_
 refine AOps.heq (h' := H) (by first | rfl | (rw [Heap.set_set]; rfl) | (funext n_; simp only [Heap.set]; (repeat' split) <;> first | rfl | (exfalso; simp_all; done) | (simp_all; done))) ?_
 refine s0 assignA rfl ?_
 refine s0 assignA rfl ?_
 refine nil ?_
 refine hK19 _ ?_
 clear hK19 K19
 refine AWp.ret ?_
 repeat (first | refine xBlock_ret ?_ | refine xThen_ret ?_)
 obtain rfl := Option.some.inj hE
 refine retQ.retF H rfl ⟨rfl, rfl⟩ ?_
 exact (fun _ _ h => h)
section
variable [IsLoud lou]
def Z66 (a0 : Bs) (a1 : Int) : Option (Token_Token × Int × Int) := (idxC a0 a1).bind fun x3 => (Z50 ([33, 36, 38, 40, 41, 58, 61, 64, 91, 93, 123, 124, 125] : Bs) (IntKind.wrap .i32 ((x3.toNat : Nat) : Int))).bind fun x6 => bif x6 then ((addC a1 (1 : Int)).bind fun x9 => (cutC a0 (some a1) (some x9)).bind fun x10 => (addC a1 (1 : Int)).bind fun x11 => some ((Token_Token.mk (1 : Int) x10 a1), x11, (0 : Int))) else (bif (decide ((IntKind.wrap .i32 ((x3.toNat : Nat) : Int)) = (46 : Int))) then ((cutC a0 (some a1) none).bind fun x16 => (Z51 x16 ([46, 46, 46] : Bs)).bind fun x17 => bif (!x17) then (some ((Token_Token.mk (0 : Int) ([] : Bs) (0 : Int)), (0 : Int), (3 : Int))) else ((addC a1 (3 : Int)).bind fun x21 => some ((Token_Token.mk (1 : Int) ([46, 46, 46] : Bs) a1), x21, (0 : Int)))) else (bif ((decide ((IntKind.wrap .i32 ((x3.toNat : Nat) : Int)) = (45 : Int))) || ((decide ((48 : Int) ≤ (IntKind.wrap .i32 ((x3.toNat : Nat) : Int)))) && (decide ((IntKind.wrap .i32 ((x3.toNat : Nat) : Int)) ≤ (57 : Int))))) then ((addC a1 (1 : Int)).bind fun x25 => (Z68 a0 x25 Z64).bind fun x26 => (cutC a0 (some a1) (some x26)).bind fun x28 => (Z58 x28).bind fun x29 => (cutC a0 (some a1) (some x26)).bind fun x31 => some ((Token_Token.mk (3 : Int) x31 a1), x26, x29.2)) else ((Z64 (IntKind.wrap .i32 ((x3.toNat : Nat) : Int))).bind fun x33 => bif x33 then ((Z68 a0 a1 Z64).bind fun x36 => (subC x36 a1).bind fun x39 => bif (decide ((64 : Int) < x39)) then (some ((Token_Token.mk (0 : Int) ([] : Bs) (0 : Int)), (0 : Int), (3 : Int))) else ((cutC a0 (some a1) (some x36)).bind fun x43 => some ((Token_Token.mk (2 : Int) x43 a1), x36, (0 : Int)))) else (bif (decide ((IntKind.wrap .i32 ((x3.toNat : Nat) : Int)) = (34 : Int))) then ((Z65 a0 a1).bind fun x47 => bif (decide (x47 < (0 : Int))) then (some ((Token_Token.mk (0 : Int) ([] : Bs) (0 : Int)), (0 : Int), (3 : Int))) else ((cutC a0 (some a1) (some x47)).bind fun x53 => (Z60 x53).bind fun x54 => some ((Token_Token.mk (4 : Int) x54.1 a1), x47, x54.2))) else (some ((Token_Token.mk (0 : Int) ([] : Bs) (0 : Int)), (0 : Int), (3 : Int)))))))
theorem Z66_walk {a0 : Bs} {a1 : Int} {oE : Ab.Obj} {gE : Nat} {r : (Token_Token × Int × Int)} (hE : Z66 a0 a1 = some r) (H : Heap) (hgE : H gE = some oE) (hoE : IsErr Tryd.prog oE) : ACalls Tryd.prog 31 [.d (.str a0), .d (.int .i64 a1)] H fun v h' => v = .tup [.agg (Token_Token.c r.1), .d (.int .i64 r.2.1), .d (.int .i64 r.2.2)] ∧ h' = H := by
 unfold Z66 at hE
 refine ACalls.of_wp (fn := Tryd.f31) (c := _) Tryd.tab_ok (fun _ _ => Tryd.call31 _ _) Tryd.func31 rfl (n := 116) rfl (rs := [.cell 4 37, .tmp 5, .tmp 6]) rfl rfl ?_
 refine seqK fun K1 hK1 => ?_
 refine region ?_
 refine sL (allocLA (TK rfl) rfl) rfl ?_
 refine s0 assignA rfl ?_
 refine s0 assignA rfl ?_
 refine nil ?_
 refine hK1 _ ?_
 clear hK1 K1
 refine seqK fun K2 hK2 => ?_
 refine region ?_
 refine s0 moveA rfl ?_
 refine s0 moveA rfl ?_
 obtain ⟨x3, gx3, hE⟩ := bindO_some hE
 refine s0 (idxS (TK rfl) rfl rfl rfl gx3) rfl ?_
 refine s0 (convI (TK rfl) (TK rfl) rfl rfl) rfl ?_
 refine s0 assignA rfl ?_
 refine nil ?_
 refine hK2 _ ?_
 clear hK2 K2
 refine seqK fun K4 hK4 => ?_
 refine block ?_
 refine seqK fun K5 hK5 => ?_
 refine region ?_
 refine s0 moveA rfl ?_
 obtain ⟨x6, gx6, hE⟩ := bindO_some hE
 refine s0 (callP rfl rfl (fun H => Z50_walk gx6 H)) rfl ?_
 refine s0 assignA rfl ?_
 refine nil ?_
 refine hK5 _ ?_
 clear hK5 K5
 refine condE hE rfl (fun hc7 hE => ?_) (fun hc7 hE => ?_)
 ·refine seqK fun K8 hK8 => ?_
  refine region ?_
  refine s0 moveA rfl ?_
  refine s0 moveA rfl ?_
  refine s0 moveA rfl ?_
  obtain ⟨x9, gx9, hE⟩ := bindO_some hE
  refine s0 (addM rfl rfl gx9) rfl ?_
  obtain ⟨x10, gx10, hE⟩ := bindO_some hE
  refine s0 (cutM (l := (some a1)) (r := (some x9)) (TK rfl) rfl rfl rfl rfl (by simp) gx10) rfl ?_
  refine s0 moveA rfl ?_
  refine s0 (build Tryd.tab_ok rfl rfl rfl rfl rfl rfl) rfl ?_
  refine s0 moveA rfl ?_
  obtain ⟨x11, gx11, hE⟩ := bindO_some hE
  refine s0 (addM rfl rfl gx11) rfl ?_
  refine sLn (storeLFA (TK rfl) rfl rfl rfl rfl rfl) ?_
  refine s0 assignA rfl ?_
  refine s0 assignA rfl ?_
  refine nil ?_
  refine hK8 _ ?_
  clear hK8 K8
  refine AWp.ret ?_
  repeat (first | refine xBlock_ret ?_ | refine xThen_ret ?_)
  obtain rfl := Option.some.inj hE
  refine retQ.retF H rfl ⟨rfl, rfl⟩ ?_
  exact (fun _ _ h => h)
 refine seqK fun K12 hK12 => ?_
 refine region ?_
 refine s0 moveA rfl ?_
 refine s0 (binI rfl rfl rfl) rfl ?_
 refine s0 assignA rfl ?_
 refine nil ?_
 refine hK12 _ ?_
 clear hK12 K12
 refine condE hE rfl (fun hc13 hE => ?_) (fun hc13 hE => ?_)
 ·refine seqK fun K14 hK14 => ?_
  refine seqK fun K15 hK15 => ?_
  refine region ?_
  refine s0 moveA rfl ?_
  refine s0 moveA rfl ?_
  obtain ⟨x16, gx16, hE⟩ := bindO_some hE
  refine s0 (cutM (l := (some a1)) (r := none) (TK rfl) rfl rfl rfl trivial (by simp) gx16) rfl ?_
  obtain ⟨x17, gx17, hE⟩ := bindO_some hE
  refine s0 (callP rfl rfl (fun H => Z51_walk gx17 H)) rfl ?_
  refine s0 (notB rfl) rfl ?_
  refine nil ?_
  refine hK15 _ ?_
  clear hK15 K15
  refine condE hE rfl (fun hc18 hE => ?_) (fun hc18 hE => ?_)
  ·refine seqK fun K19 hK19 => ?_
   refine region ?_
   refine s0 (build Tryd.tab_ok rfl rfl rfl rfl rfl rfl) rfl ?_
   refine sLn (storeLFA (TK rfl) rfl rfl rfl rfl rfl) ?_
   refine s0 assignA rfl ?_
   refine s0 assignA rfl ?_
   refine nil ?_
   refine hK19 _ ?_
   clear hK19 K19
   refine AWp.ret ?_
   repeat (first | refine xBlock_ret ?_ | refine xThen_ret ?_)
   obtain rfl := Option.some.inj hE
   refine retQ.retF H rfl ⟨rfl, rfl⟩ ?_
   exact (fun _ _ h => h)
  refine AWp.skip ?_
  refine hK14 _ ?_
  clear hK14 K14
  refine seqK fun K20 hK20 => ?_
  refine region ?_
  refine s0 moveA rfl ?_
  refine s0 (build Tryd.tab_ok rfl rfl rfl rfl rfl rfl) rfl ?_
  refine s0 moveA rfl ?_
  obtain ⟨x21, gx21, hE⟩ := bindO_some hE
  refine s0 (addM rfl rfl gx21) rfl ?_
  refine sLn (storeLFA (TK rfl) rfl rfl rfl rfl rfl) ?_
  refine s0 assignA rfl ?_
  refine s0 assignA rfl ?_
  refine nil ?_
  refine hK20 _ ?_
  clear hK20 K20
  refine AWp.ret ?_
  repeat (first | refine xBlock_ret ?_ | refine xThen_ret ?_)
  obtain rfl := Option.some.inj hE
  refine retQ.retF H rfl ⟨rfl, rfl⟩ ?_
  exact (fun _ _ h => h)
 refine seqK fun K22 hK22 => ?_
 refine region ?_
 refine s0 moveA rfl ?_
 refine s0 (binI rfl rfl rfl) rfl ?_
 refine s0 moveA rfl ?_
 refine gC rfl rfl (fun hC => moveA) rfl ?_
 refine gC rfl rfl (fun hC => ungdA (k := 48) rfl (binI rfl rfl rfl)) rfl ?_
 refine gC rfl rfl (fun hC => ungdA (k := 49) rfl moveA) rfl ?_
 refine gC rfl rfl (fun hC => moveA) rfl ?_
 refine gC rfl rfl (fun hC => ungdA (k := 51) rfl (binI rfl rfl rfl)) rfl ?_
 refine gC rfl rfl (fun hC => ungdA (k := 50) rfl (pickAndA rfl rfl rfl)) rfl ?_
 refine s0 (pickOrA rfl rfl rfl) rfl ?_
 refine s0 assignA rfl ?_
 refine nil ?_
 refine hK22 _ ?_
 clear hK22 K22
 refine condE hE rfl (fun hc23 hE => ?_) (fun hc23 hE => ?_)
 ·refine seqK fun K24 hK24 => ?_
  refine region ?_
  refine s0 moveA rfl ?_
  refine s0 moveA rfl ?_
  obtain ⟨x25, gx25, hE⟩ := bindO_some hE
  refine s0 (addM rfl rfl gx25) rfl ?_
  obtain ⟨x26, gx26, hE⟩ := bindO_some hE
  refine s0 (callP rfl rfl (fun H => Z68_walk gx26 H (fun _ _ hx => Z64_walk hx))) rfl ?_
  refine s0 assignA rfl ?_
  refine nil ?_
  refine hK24 _ ?_
  clear hK24 K24
  refine seqK fun K27 hK27 => ?_
  refine region ?_
  refine s0 moveA rfl ?_
  refine s0 moveA rfl ?_
  refine s0 moveA rfl ?_
  obtain ⟨x28, gx28, hE⟩ := bindO_some hE
  refine s0 (cutM (l := (some a1)) (r := (some x26)) (TK rfl) rfl rfl rfl rfl (by simp) gx28) rfl ?_
  obtain ⟨x29, gx29, hE⟩ := bindO_some hE
  refine s0 (callR rfl rfl (Z58_walk (gE := gE) (oE := oE) gx29 _ hpG (by assumption))) rfl ?_
  refine s0 moveA rfl ?_
  refine s0 (extract rfl rfl) rfl ?_
  refine s0 (extract rfl rfl) rfl ?_
  refine s0 assignA rfl ?_
  refine s0 assignA rfl ?_
  refine nil ?_
  refine hK27 _ ?_
  clear hK27 K27
  refine seqK fun K30 hK30 => ?_
  refine region ?_
  refine s0 moveA rfl ?_
  refine s0 moveA rfl ?_
  refine s0 moveA rfl ?_
  obtain ⟨x31, gx31, hE⟩ := bindO_some hE
  refine s0 (cutM (l := (some a1)) (r := (some x26)) (TK rfl) rfl rfl rfl rfl (by simp) gx31) rfl ?_
  refine s0 moveA rfl ?_
  refine s0 (build Tryd.tab_ok rfl rfl rfl rfl rfl rfl) rfl ?_
  refine s0 moveA rfl ?_
  refine s0 moveA rfl ?_
  refine sLn (storeLFA (TK rfl) rfl rfl rfl rfl rfl) ?_
  refine s0 assignA rfl ?_
  refine s0 assignA rfl ?_
  refine nil ?_
  refine hK30 _ ?_
  clear hK30 K30
  refine AWp.ret ?_
  repeat (first | refine xBlock_ret ?_ | refine xThen_ret ?_)
  obtain rfl := Option.some.inj hE
  refine retQ.retF H rfl ⟨rfl, rfl⟩ ?_
  exact (fun _ _ h => h)
 refine seqK fun K32 hK32 => ?_
 refine region ?_
 refine s0 moveA rfl ?_
 obtain ⟨x33, gx33, hE⟩ := bindO_some hE
 refine s0 (callP rfl rfl (fun H => Z64_walk gx33 H)) rfl ?_
 refine s0 assignA rfl ?_
 refine nil ?_
 refine hK32 _ ?_
 clear hK32 K32
 refine condE hE rfl (fun hc34 hE => ?_) (fun hc34 hE => ?_)
 ·refine seqK fun K35 hK35 => ?_
  refine region ?_
  refine s0 moveA rfl ?_
  refine s0 moveA rfl ?_
  obtain ⟨x36, gx36, hE⟩ := bindO_some hE
  refine s0 (callP rfl rfl (fun H => Z68_walk gx36 H (fun _ _ hx => Z64_walk hx))) rfl ?_
  refine s0 assignA rfl ?_
  refine nil ?_
  refine hK35 _ ?_
  clear hK35 K35
  refine seqK fun K37 hK37 => ?_
  refine seqK fun K38 hK38 => ?_
  refine region ?_
  refine s0 moveA rfl ?_
  refine s0 moveA rfl ?_
  obtain ⟨x39, gx39, hE⟩ := bindO_some hE
  refine s0 (subM rfl rfl gx39) rfl ?_
  refine s0 (binI rfl rfl rfl) rfl ?_
  refine nil ?_
  refine hK38 _ ?_
  clear hK38 K38
  refine condE hE rfl (fun hc40 hE => ?_) (fun hc40 hE => ?_)
  ·refine seqK fun K41 hK41 => ?_
   refine region ?_
   refine s0 (build Tryd.tab_ok rfl rfl rfl rfl rfl rfl) rfl ?_
   refine sLn (storeLFA (TK rfl) rfl rfl rfl rfl rfl) ?_
   refine s0 assignA rfl ?_
   refine s0 assignA rfl ?_
   refine nil ?_
   refine hK41 _ ?_
   clear hK41 K41
   refine AWp.ret ?_
   repeat (first | refine xBlock_ret ?_ | refine xThen_ret ?_)
   obtain rfl := Option.some.inj hE
   refine retQ.retF H rfl ⟨rfl, rfl⟩ ?_
   exact (fun _ _ h => h)
  refine AWp.skip ?_
  refine hK37 _ ?_
  clear hK37 K37
  refine seqK fun K42 hK42 => ?_
  refine region ?_
  refine s0 moveA rfl ?_
  refine s0 moveA rfl ?_
  refine s0 moveA rfl ?_
  obtain ⟨x43, gx43, hE⟩ := bindO_some hE
  refine s0 (cutM (l := (some a1)) (r := (some x36)) (TK rfl) rfl rfl rfl rfl (by simp) gx43) rfl ?_
  refine s0 moveA rfl ?_
  refine s0 (build Tryd.tab_ok rfl rfl rfl rfl rfl rfl) rfl ?_
  refine s0 moveA rfl ?_
  refine sLn (storeLFA (TK rfl) rfl rfl rfl rfl rfl) ?_
  refine s0 assignA rfl ?_
  refine s0 assignA rfl ?_
  refine nil ?_
  refine hK42 _ ?_
  clear hK42 K42
  refine AWp.ret ?_
  repeat (first | refine xBlock_ret ?_ | refine xThen_ret ?_)
  obtain rfl := Option.some.inj hE
  refine retQ.retF H rfl ⟨rfl, rfl⟩ ?_
  exact (fun _ _ h => h)
 refine seqK fun K44 hK44 => ?_
 refine region ?_
 refine s0 moveA rfl ?_
 refine s0 (binI rfl rfl rfl) rfl ?_
 refine s0 assignA rfl ?_
 refine nil ?_
 refine hK44 _ ?_
 clear hK44 K44
 refine condE hE rfl (fun hc45 hE => ?_) (fun hc45 hE => ?_)
 ·refine seqK fun K46 hK46 => ?_
  refine region ?_
  refine s0 moveA rfl ?_
  refine s0 moveA rfl ?_
  obtain ⟨x47, gx47, hE⟩ := bindO_some hE
  refine s0 (callP rfl rfl (fun H => Z65_walk gx47 H)) rfl ?_
  refine s0 assignA rfl ?_
  refine nil ?_
  refine hK46 _ ?_
  clear hK46 K46
  refine seqK fun K48 hK48 => ?_
  refine seqK fun K49 hK49 => ?_
  refine region ?_
  refine s0 moveA rfl ?_
  refine s0 (binI rfl rfl rfl) rfl ?_
  refine nil ?_
  refine hK49 _ ?_
  clear hK49 K49
  refine condE hE rfl (fun hc50 hE => ?_) (fun hc50 hE => ?_)
  ·refine seqK fun K51 hK51 => ?_
   refine region ?_
   refine s0 (build Tryd.tab_ok rfl rfl rfl rfl rfl rfl) rfl ?_
   refine sLn (storeLFA (TK rfl) rfl rfl rfl rfl rfl) ?_
   refine s0 assignA rfl ?_
   refine s0 assignA rfl ?_
   refine nil ?_
   refine hK51 _ ?_
   clear hK51 K51
   refine AWp.ret ?_
   repeat (first | refine xBlock_ret ?_ | refine xThen_ret ?_)
   obtain rfl := Option.some.inj hE
   refine retQ.retF H rfl ⟨rfl, rfl⟩ ?_
   exact (fun _ _ h => h)
  refine AWp.skip ?_
  refine hK48 _ ?_
  clear hK48 K48
  refine seqK fun K52 hK52 => ?_
  refine region ?_
  refine s0 moveA rfl ?_
  refine s0 moveA rfl ?_
  refine s0 moveA rfl ?_
  obtain ⟨x53, gx53, hE⟩ := bindO_some hE
  refine s0 (cutM (l := (some a1)) (r := (some x47)) (TK rfl) rfl rfl rfl rfl (by simp) gx53) rfl ?_
  obtain ⟨x54, gx54, hE⟩ := bindO_some hE
  refine s0 (callP rfl rfl (fun H => Z60_walk gx54 H)) rfl ?_
  refine s0 moveA rfl ?_
  refine s0 (extract rfl rfl) rfl ?_
  refine s0 (extract rfl rfl) rfl ?_
  refine s0 assignA rfl ?_
  refine s0 assignA rfl ?_
  refine nil ?_
  refine hK52 _ ?_
  clear hK52 K52
  refine seqK fun K55 hK55 => ?_
  refine region ?_
  refine s0 moveA rfl ?_
  refine s0 moveA rfl ?_
  refine s0 (build Tryd.tab_ok rfl rfl rfl rfl rfl rfl) rfl ?_
  refine s0 moveA rfl ?_
  refine s0 moveA rfl ?_
  refine sLn (storeLFA (TK rfl) rfl rfl rfl rfl rfl) ?_
  refine s0 assignA rfl ?_
  refine s0 assignA rfl ?_
  refine nil ?_
  refine hK55 _ ?_
  clear hK55 K55
  refine AWp.ret ?_
  repeat (first | refine xBlock_ret ?_ | refine xThen_ret ?_)
  obtain rfl := Option.some.inj hE
  refine retQ.retF H rfl ⟨rfl, rfl⟩ ?_
  exact (fun _ _ h => h)
 refine AWp.skip ?_
 refine hK4 _ ?_
 clear hK4 K4
 refine seqK fun K56 hK56 => ?_
 refine region ?_
 refine s0 (build Tryd.tab_ok rfl rfl rfl rfl rfl rfl) rfl ?_
 refine sLn (storeLFA (TK rfl) rfl rfl rfl rfl rfl) ?_
 refine s0 assignA rfl ?_
 refine s0 assignA rfl ?_
 refine nil ?_
 refine hK56 _ ?_
 clear hK56 K56
 refine AWp.ret ?_
 repeat (first | refine xBlock_ret ?_ | refine xThen_ret ?_)
 obtain rfl := Option.some.inj hE
 refine retQ.retF H rfl ⟨rfl, rfl⟩ ?_
 exact (fun _ _ h => h)
end
end Go.Proofs

namespace Go.Proofs
open Go Go.Ab
open AOps Cert AWp
variable {lou : Lou}
section
variable [IsLoud lou]
def Z63_j8 (a0 : Bs)  (s5_9 : (Sl Token_Token)) : Option ((Sl Token_Token) × Int × Int) := (appC 32 s5_9 (⟨false, [(Token_Token.mk (5 : Int) ([] : Bs) ((a0.length : Nat) : Int))]⟩ : Sl Token_Token)).bind fun x12 => some (x12, (0 : Int), (0 : Int))
def Z63_l15 (a0 : Bs)  : Nat → (Sl Token_Token) → Int → Option ((Sl Token_Token) × Int × Int)
 | 0, _, _ => none
 | n15 + 1, s5_16, s6_17 => bif (decide (s6_17 < ((a0.length : Nat) : Int))) then ((Z66 a0 s6_17).bind fun x24 => bif (!decide (x24.2.2 = (0 : Int))) then (some ((Sl.nil : Sl Token_Token), s6_17, x24.2.2)) else ((appC 32 s5_16 (⟨false, [x24.1]⟩ : Sl Token_Token)).bind fun x30 => (Z67 a0 x24.2.1).bind fun x31 => (Z63_l15 a0 n15) x30 x31)) else (Z63_j8 a0  s5_16)
def Z63 (a0 : Bs) : Option ((Sl Token_Token) × Int × Int) := bif (decide ((65536 : Int) < ((a0.length : Nat) : Int))) then (some ((Sl.nil : Sl Token_Token), (65536 : Int), (4 : Int))) else ((Z67 a0 (0 : Int)).bind fun x14 => Z63_l15 a0 F0 (Sl.nil : Sl Token_Token) x14)
theorem Z63_walk {a0 : Bs} {oE : Ab.Obj} {gE : Nat} {r : ((Sl Token_Token) × Int × Int)} (hE : Z63 a0 = some r) (H : Heap) (hgE : H gE = some oE) (hoE : IsErr Tryd.prog oE) : ACalls Tryd.prog 13 [.d (.str a0)] H fun v h' => v = .tup [.d (Sl.d 3 Token_Token.c none r.1), .d (.int .i64 r.2.1), .d (.int .i64 r.2.2)] ∧ h' = H := by
 unfold Z63 at hE
 refine ACalls.of_wp (fn := Tryd.f13) (c := _) Tryd.tab_ok (fun _ _ => Tryd.call13 _ _) Tryd.func13 rfl (n := 44) rfl (rs := [.tmp 2, .tmp 3, .tmp 4]) rfl rfl ?_
 refine AWp.tok 3 fun tk1 htk1 => ?_
 have ne_tk1_gE : tk1 ≠ gE := fun e_ => by subst e_; simp_all
 refine seqK fun K1 hK1 => ?_
 refine region ?_
 refine s0 (assignNil (k' := 3) rfl) rfl ?_
 refine s0 assignA rfl ?_
 refine s0 assignA rfl ?_
 refine nil ?_
 refine hK1 _ ?_
 clear hK1 K1
 refine seqK fun K2 hK2 => ?_
 refine seqK fun K3 hK3 => ?_
 refine region ?_
 refine s0 moveA rfl ?_
 refine sLenS (TK rfl) rfl rfl rfl rfl fun hL4 => ?_
 refine s0 (binI rfl rfl rfl) rfl ?_
 refine nil ?_
 refine hK3 _ ?_
 clear hK3 K3
 refine condE hE rfl (fun hc5 hE => ?_) (fun hc5 hE => ?_)
 ·refine seqK fun K6 hK6 => ?_
  refine region ?_
  refine s0 (assignNil (k' := 3) rfl) rfl ?_
  refine s0 assignA rfl ?_
  refine s0 assignA rfl ?_
  refine nil ?_
  refine hK6 _ ?_
  clear hK6 K6
  refine AWp.ret ?_
  repeat (first | refine xBlock_ret ?_ | refine xThen_ret ?_)
  obtain rfl := Option.some.inj hE
  refine retQ.retF H rfl ⟨rfl, rfl⟩ ?_
  first | exact Heap.sub_set htk1 | (simp only [Heap.set_set]; exact Heap.sub_set htk1)
 refine AWp.skip ?_
 refine hK2 _ ?_
 clear hK2 K2
 refine seqK fun K7 hK7 => ?_
 refine region ?_
 refine s0 assignA rfl ?_
 refine nil ?_
 refine hK7 _ ?_
 clear hK7 K7
 refine AWp.nilTok 5 3 tk1 rfl hpG ?_
 refine seqJH (KeepsT.A (k := 0) KeepsT.nil) (fun (z : (Sl Token_Token)) => [(5, .a (.d (Sl.d 3 Token_Token.c (some tk1) z)))]) (fun z => (H.set tk1 (some (.tok 3 z.l.length)))) (fun z => Z63_j8 a0 z = some r) ?_ ?_
 ·intro K8 hK8
  refine seqK fun K13 hK13 => ?_
  refine region ?_
  refine s0 moveA rfl ?_
  obtain ⟨x14, gx14, hE⟩ := bindO_some hE
  refine s0 (callP rfl rfl (fun H => Z67_walk gx14 H)) rfl ?_
  refine s0 assignA rfl ?_
  refine nil ?_
  refine hK13 _ ?_
  clear hK13 K13
  refine block ?_
  refine loopH (KeepsT.A (k := 0) KeepsT.nil) (fun (z : Nat × (Sl Token_Token) × Int) => [(5, .a (.d (Sl.d 3 Token_Token.c (some tk1) z.2.1))), (6, .a (.d (.int .i64 z.2.2)))]) (fun z => (H.set tk1 (some (.tok 3 z.2.1.l.length)))) (fun z => z.1) (fun z => Z63_l15 a0 z.1 z.2.1 z.2.2 = some r) (F0, (Sl.nil : Sl Token_Token), x14) hE Weak.toA ?_
  rintro ⟨n15, s5_16, s6_17⟩ hE K15 hK15
  try dsimp only at hE
  cases n15 with
  | zero => cases hE
  | succ n15 =>
    rw [Z63_l15] at hE
    refine seqK fun K18 hK18 => ?_
    refine seqK fun K19 hK19 => ?_
    refine region ?_
    refine s0 moveA rfl ?_
    refine s0 moveA rfl ?_
    refine sLenS (TK rfl) rfl rfl rfl rfl fun hL20 => ?_
    refine s0 (binI rfl rfl rfl) rfl ?_
    refine nil ?_
    refine hK19 _ ?_
    clear hK19 K19
    refine condE hE rfl (fun hc21 hE => ?_) (fun hc21 hE => ?_)
    ·refine AWp.skip ?_
     refine hK18 _ ?_
     clear hK18 K18
     refine seqK fun K22 hK22 => ?_
     refine block ?_
     refine seqK fun K23 hK23 => ?_
     refine region ?_
     refine s0 moveA rfl ?_
     refine s0 moveA rfl ?_
     obtain ⟨x24, gx24, hE⟩ := bindO_some hE
     refine s0 (callR rfl rfl (Z66_walk (gE := gE) (oE := oE) gx24 _ hpG (by assumption))) rfl ?_
     refine s0 moveA rfl ?_
     refine s0 (extract rfl rfl) rfl ?_
     refine s0 (extract rfl rfl) rfl ?_
     refine s0 (extract rfl rfl) rfl ?_
     refine sL (allocLA (TK rfl) rfl) rfl ?_
     refine sLn (storeLFA (TK rfl) rfl rfl rfl rfl rfl) ?_
     refine s0 assignA rfl ?_
     refine s0 assignA rfl ?_
     refine nil ?_
     refine hK23 _ ?_
     clear hK23 K23
     refine freezeA 7 _ rfl (Keeps.c (k := 0) (by conv => lhs; whnf) (by rfl) (Keeps.c (k := 5) (by conv => lhs; whnf) (by rfl) (Keeps.c (k := 6) (by conv => lhs; whnf) (by rfl) (Keeps.c (k := 8) (by conv => lhs; whnf) (by rfl) (Keeps.c (k := 9) (by conv => lhs; whnf) (by rfl) Keeps.nil))))) ?_
     refine seqK fun K25 hK25 => ?_
     refine seqK fun K26 hK26 => ?_
     refine region ?_
     refine s0 moveA rfl ?_
     refine s0 (binI rfl rfl rfl) rfl ?_
     refine nil ?_
     refine hK26 _ ?_
     clear hK26 K26
     refine condE hE rfl (fun hc27 hE => ?_) (fun hc27 hE => ?_)
     ·refine seqK fun K28 hK28 => ?_
      refine region ?_
      refine s0 moveA rfl ?_
      refine s0 moveA rfl ?_
      refine s0 (assignNil (k' := 3) rfl) rfl ?_
      refine s0 assignA rfl ?_
      refine s0 assignA rfl ?_
      refine nil ?_
      refine hK28 _ ?_
      clear hK28 K28
      refine AWp.ret ?_
      repeat (first | refine xBlock_ret ?_ | refine xThen_ret ?_)
      obtain rfl := Option.some.inj hE
      refine retQ.retF H rfl ⟨rfl, rfl⟩ ?_
      first | exact Heap.sub_set htk1 | (simp only [Heap.set_set]; exact Heap.sub_set htk1)
     refine AWp.skip ?_
     refine hK25 _ ?_
     clear hK25 K25
     refine seqK fun K29 hK29 => ?_
     refine region ?_
     refine s0 moveA rfl ?_
     refine s0 (loadV (TK rfl) rfl rfl rfl) rfl ?_
     refine s0 (buildSlice (TK rfl) rfl (TK rfl) rfl rfl rfl rfl rfl rfl) rfl ?_
     obtain ⟨x30, gx30, hE⟩ := bindO_some hE
     refine sH (appM (f := Token_Token.c) (TK rfl) rfl (TK rfl) (TK rfl) ⟨_, rfl⟩ rfl rfl (by decide) rfl rfl rfl rfl hpG rfl gx30) rfl ?_
     refine AOps.heq (h' := (H.set tk1 (some (.tok 3 x30.l.length)))) (by first | rfl | (rw [Heap.set_set]; rfl) | (funext n_; simp only [Heap.set]; (repeat' split) <;> first | rfl | (exfalso; simp_all; done) | (simp_all; done))) ?_
     refine s0 assignA rfl ?_
     refine nil ?_
     refine hK29 _ ?_
     clear hK29 K29
     refine region ?_
     refine s0 moveA rfl ?_
     refine s0 assignA rfl ?_
     refine nil ?_
     refine hK22 _ ?_
     clear hK22 K22
     refine region ?_
     refine s0 moveA rfl ?_
     refine s0 moveA rfl ?_
     obtain ⟨x31, gx31, hE⟩ := bindO_some hE
     refine s0 (callP rfl rfl (fun H => Z67_walk gx31 H)) rfl ?_
     refine s0 assignA rfl ?_
     refine nil ?_
     exact hK15 _ (n15, x30, x31) Weak.toA hE (Nat.lt_succ_self _)
    refine AWp.exit ?_
    exact hK8 _ s5_16 Weak.toA hE
 rintro s5_9 hE
 try dsimp only at hE
 unfold Z63_j8 at hE
 refine seqK fun K10 hK10 => ?_
 refine region ?_
 refine s0 moveA rfl ?_
 refine s0 moveA rfl ?_
 refine sLenS (TK rfl) rfl rfl rfl rfl fun hL11 => ?_
 refine s0 (build Tryd.tab_ok rfl rfl rfl rfl rfl rfl) rfl ?_
 refine s0 (buildSlice (TK rfl) rfl (TK rfl) rfl rfl rfl rfl rfl rfl) rfl ?_
 obtain ⟨x12, gx12, hE⟩ := bindO_some hE
 refine sH (appM (f := Token_Token.c) (TK rfl) rfl (TK rfl) (TK rfl) ⟨_, rfl⟩ rfl rfl (by decide) rfl rfl rfl rfl hpG rfl gx12) rfl ?_
 refine AOps.heq (h' := (H.set tk1 (some (.tok 3 x12.l.length)))) (by first | rfl | (rw [Heap.set_set]; rfl) | (funext n_; simp only [Heap.set]; (repeat' split) <;> first | rfl | (exfalso; simp_all; done) | (simp_all; done))) ?_
 refine s0 assignA rfl ?_
 refine s0 assignA rfl ?_
 refine s0 assignA rfl ?_
 refine nil ?_
 refine hK10 _ ?_
 clear hK10 K10
 refine AWp.dropTok 2 rfl ?_
 refine AWp.ret ?_
 repeat (first | refine xBlock_ret ?_ | refine xThen_ret ?_)
 obtain rfl := Option.some.inj hE
 refine retQ.retF H rfl ⟨rfl, rfl⟩ ?_
 first | exact Heap.sub_set htk1 | (simp only [Heap.set_set]; exact Heap.sub_set htk1)
end
section
variable [IsLoud lou]
end
section
variable [IsLoud lou]
end
section
variable [IsLoud lou]
end
end Go.Proofs
