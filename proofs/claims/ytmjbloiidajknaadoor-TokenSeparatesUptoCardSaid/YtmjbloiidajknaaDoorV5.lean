import Derived.Test.YtmjbloiidajknaaDoorV4
set_option maxRecDepth 100000
set_option maxHeartbeats 2000000
set_option linter.unusedVariables false
set_option linter.unusedSimpArgs false
namespace Go.Proofs
open Go Go.Ab
open AOps Cert AWp
variable {lou : Lou}
section
variable [IsLoud lou]
def Z3_j9 (a0 : (Sl R04_Token))  (s3_10 : (Sl Token_Token)) : Option Bool := (Z47 s3_10).bind fun x12 => (Z21 a0).bind fun x13 => guardO (((x12 == x13))) (Z7 ) false fun x14 => some (((x12 == x13)) && x14)
def Z3_l16 (a0 : (Sl R04_Token))  : Nat → (Sl Token_Token) → Nat → Option Bool
 | 0, _, _ => none
 | n16 + 1, s3_17, s4_18 => bif (decide (((s4_18 : Nat) : Int) < ((a0.l.length : Nat) : Int))) then ((a0.l[s4_18]?).bind fun x26 => bif (decide ((200 : Int) < ((x26.FText.length : Nat) : Int))) then ((Z7 ).bind fun x30 => some x30) else ((a0.l[s4_18]?).bind fun x31 => (a0.l[s4_18]?).bind fun x32 => (a0.l[s4_18]?).bind fun x33 => (appC 32 s3_17 (⟨false, [(Token_Token.mk x31.FKind x32.FText x33.FAt)]⟩ : Sl Token_Token)).bind fun x34 => (Z3_l16 a0 n16) x34 (s4_18 + 1))) else (Z3_j9 a0  s3_17)
def Z3 (a0 : (Sl R04_Token)) : Option Bool := bif (decide ((200 : Int) < ((a0.l.length : Nat) : Int))) then ((Z7 ).bind fun x7 => some x7) else (Z3_l16 a0 (a0.l.length + 1) (Sl.nil : Sl Token_Token) 0)
theorem Z3_walk {a0 : (Sl R04_Token)} {w0 : Option Nat} {oE : Ab.Obj} {gE : Nat} {r : Bool} (hE : Z3 a0 = some r) (H : Heap) (hgE : H gE = some oE) (hoE : IsErr Tryd.prog oE) : ACalls Tryd.prog 5 [.d (Sl.d 3 R04_Token.c w0 a0)] H fun v h' => v = .a (.d (.bool r)) ∧ h' = H := by
 unfold Z3 at hE
 refine ACalls.of_wp (fn := Tryd.f5) (c := _) Tryd.tab_ok (fun _ _ => Tryd.call5 _ _) Tryd.func5 rfl (n := 50) rfl (rs := [.tmp 2]) rfl rfl ?_
 refine AWp.tok 3 fun tk1 htk1 => ?_
 have ne_tk1_gE : tk1 ≠ gE := fun e_ => by subst e_; simp_all
 refine seqK fun K1 hK1 => ?_
 refine region ?_
 refine s0 assignA rfl ?_
 refine nil ?_
 refine hK1 _ ?_
 clear hK1 K1
 refine seqK fun K2 hK2 => ?_
 refine seqK fun K3 hK3 => ?_
 refine region ?_
 refine s0 moveA rfl ?_
 refine sLen (f := R04_Token.c) (s := a0) (TK rfl) rfl rfl rfl rfl fun hL4 => ?_
 refine s0 (binI rfl rfl rfl) rfl ?_
 refine nil ?_
 refine hK3 _ ?_
 clear hK3 K3
 refine condE hE rfl (fun hc5 hE => ?_) (fun hc5 hE => ?_)
 ·refine seqK fun K6 hK6 => ?_
  refine region ?_
  obtain ⟨x7, gx7, hE⟩ := bindO_some hE
  refine s0 (callR rfl rfl (Z7_walk (gE := gE) (oE := oE) gx7 _ hpG (by assumption))) rfl ?_
  refine s0 assignA rfl ?_
  refine nil ?_
  refine hK6 _ ?_
  clear hK6 K6
  refine AWp.ret ?_
  repeat (first | refine xBlock_ret ?_ | refine xThen_ret ?_)
  obtain rfl := Option.some.inj hE
  refine retQ.retF H rfl ⟨rfl, rfl⟩ ?_
  first | exact Heap.sub_set htk1 | (simp only [Heap.set_set]; exact Heap.sub_set htk1)
 refine AWp.skip ?_
 refine hK2 _ ?_
 clear hK2 K2
 refine seqK fun K8 hK8 => ?_
 refine region ?_
 refine s0 assignA rfl ?_
 refine nil ?_
 refine hK8 _ ?_
 clear hK8 K8
 refine AWp.nilTok 3 3 tk1 rfl hpG ?_
 refine seqJH (KeepsT.A (k := 0) KeepsT.nil) (fun (z : (Sl Token_Token)) => [(3, .a (.d (Sl.d 3 Token_Token.c (some tk1) z)))]) (fun z => (H.set tk1 (some (.tok 3 z.l.length)))) (fun z => Z3_j9 a0 z = some r) ?_ ?_
 ·intro K9 hK9
  refine seqK fun K15 hK15 => ?_
  refine region ?_
  refine s0 assignA rfl ?_
  refine nil ?_
  refine hK15 _ ?_
  clear hK15 K15
  refine block ?_
  refine loopH (KeepsT.A (k := 0) KeepsT.nil) (fun (z : Nat × (Sl Token_Token) × Nat) => [(3, .a (.d (Sl.d 3 Token_Token.c (some tk1) z.2.1))), (4, .a (.d (.int .i64 ((z.2.2 : Nat) : Int))))]) (fun z => (H.set tk1 (some (.tok 3 z.2.1.l.length)))) (fun z => z.1) (fun z => Z3_l16 a0 z.1 z.2.1 z.2.2 = some r) ((a0.l.length + 1), (Sl.nil : Sl Token_Token), 0) hE Weak.toA ?_
  rintro ⟨n16, s3_17, s4_18⟩ hE K16 hK16
  try dsimp only at hE
  cases n16 with
  | zero => cases hE
  | succ n16 =>
    rw [Z3_l16] at hE
    refine seqK fun K19 hK19 => ?_
    refine seqK fun K20 hK20 => ?_
    refine region ?_
    refine s0 moveA rfl ?_
    refine s0 moveA rfl ?_
    refine sLen (f := R04_Token.c) (s := a0) (TK rfl) rfl rfl rfl rfl fun hL21 => ?_
    refine s0 (binI rfl rfl rfl) rfl ?_
    refine nil ?_
    refine hK20 _ ?_
    clear hK20 K20
    refine condE hE rfl (fun hc22 hE => ?_) (fun hc22 hE => ?_)
    ·try dsimp only at hc22
     have hf22 := of_decide_eq_true hc22
     refine AWp.skip ?_
     refine hK19 _ ?_
     clear hK19 K19
     refine seqK fun K23 hK23 => ?_
     refine block ?_
     refine seqK fun K24 hK24 => ?_
     refine seqK fun K25 hK25 => ?_
     refine region ?_
     refine s0 moveA rfl ?_
     refine s0 moveA rfl ?_
     obtain ⟨x26, gx26, hE⟩ := bindO_some hE
     refine s0 (idxMn (f := R04_Token.c) (n := s4_18) (TK rfl) rfl (TK rfl) rfl rfl rfl gx26) rfl ?_
     refine s0 (fieldVA (TK rfl) rfl rfl (TK rfl) rfl rfl) rfl ?_
     refine s0 (loadV (TK rfl) rfl rfl rfl) rfl ?_
     refine sLenS (TK rfl) rfl rfl rfl rfl fun hL27 => ?_
     refine s0 (binI rfl rfl rfl) rfl ?_
     refine nil ?_
     refine hK25 _ ?_
     clear hK25 K25
     refine condE hE rfl (fun hc28 hE => ?_) (fun hc28 hE => ?_)
     ·refine seqK fun K29 hK29 => ?_
      refine region ?_
      obtain ⟨x30, gx30, hE⟩ := bindO_some hE
      refine s0 (callR rfl rfl (Z7_walk (gE := gE) (oE := oE) gx30 _ hpG (by assumption))) rfl ?_
      refine s0 assignA rfl ?_
      refine nil ?_
      refine hK29 _ ?_
      clear hK29 K29
      refine AWp.ret ?_
      repeat (first | refine xBlock_ret ?_ | refine xThen_ret ?_)
      obtain rfl := Option.some.inj hE
      refine retQ.retF H rfl ⟨rfl, rfl⟩ ?_
      first | exact Heap.sub_set htk1 | (simp only [Heap.set_set]; exact Heap.sub_set htk1)
     refine AWp.skip ?_
     refine hK24 _ ?_
     clear hK24 K24
     refine AWp.draw rfl ?_
     refine DOps.s0 moveA rfl ?_
     refine DOps.s0 moveA rfl ?_
     refine DOps.s0 moveA rfl ?_
     obtain ⟨x31, gx31, hE⟩ := bindO_some hE
     refine DOps.s0 (idxMn (f := R04_Token.c) (n := s4_18) (TK rfl) rfl (TK rfl) rfl rfl rfl gx31) rfl ?_
     refine DOps.s0 (fieldVA (TK rfl) rfl rfl (TK rfl) rfl rfl) rfl ?_
     refine DOps.s0 (loadV (TK rfl) rfl rfl rfl) rfl ?_
     refine DOps.s0 moveA rfl ?_
     refine DOps.s0 moveA rfl ?_
     obtain ⟨x32, gx32, hE⟩ := bindO_some hE
     refine DOps.s0 (idxMn (f := R04_Token.c) (n := s4_18) (TK rfl) rfl (TK rfl) rfl rfl rfl gx32) rfl ?_
     refine DOps.s0 (fieldVA (TK rfl) rfl rfl (TK rfl) rfl rfl) rfl ?_
     refine DOps.s0 (loadV (TK rfl) rfl rfl rfl) rfl ?_
     refine DOps.s0 moveA rfl ?_
     refine DOps.s0 moveA rfl ?_
     obtain ⟨x33, gx33, hE⟩ := bindO_some hE
     refine DOps.s0 (idxMn (f := R04_Token.c) (n := s4_18) (TK rfl) rfl (TK rfl) rfl rfl rfl gx33) rfl ?_
     refine DOps.s0 (fieldVA (TK rfl) rfl rfl (TK rfl) rfl rfl) rfl ?_
     refine DOps.s0 (loadV (TK rfl) rfl rfl rfl) rfl ?_
     refine DOps.s0 (build Tryd.tab_ok rfl rfl rfl rfl rfl rfl) rfl ?_
     refine DOps.s0 (buildSlice (TK rfl) rfl (TK rfl) rfl rfl rfl rfl rfl rfl) rfl ?_
     obtain ⟨x34, gx34, hE⟩ := bindO_some hE
     refine DOps.sH (appM (f := Token_Token.c) (TK rfl) rfl (TK rfl) (TK rfl) ⟨_, rfl⟩ rfl rfl (by decide) rfl rfl rfl rfl hpG rfl gx34) rfl ?_
     refine DOps.heq (h' := (H.set tk1 (some (.tok 3 x34.l.length)))) (by first | rfl | (rw [Heap.set_set]; rfl) | (funext n_; simp only [Heap.set]; (repeat' split) <;> first | rfl | (exfalso; simp_all; done) | (simp_all; done))) ?_
     refine DOps.s0 assignA rfl ?_
     refine DOps.nil (by decide +kernel) ?_
     refine hK23 _ ?_
     clear hK23 K23
     refine region ?_
     refine s0 moveA rfl ?_
     refine s0 (addI rfl rfl (by first | omega | (dsimp only; omega) | (simp at *; omega)) (by first | omega | (dsimp only; omega) | (simp at *; omega))) rfl ?_
     refine s0 assignA rfl ?_
     refine nil ?_
     exact hK16 _ (n16, x34, (s4_18 + 1)) Weak.toA hE (Nat.lt_succ_self _)
    refine AWp.exit ?_
    exact hK9 _ s3_17 Weak.toA hE
 rintro s3_10 hE
 try dsimp only at hE
 unfold Z3_j9 at hE
 refine seqK fun K11 hK11 => ?_
 refine region ?_
 refine s0 moveA rfl ?_
 obtain ⟨x12, gx12, hE⟩ := bindO_some hE
 refine s0 (callP rfl rfl (fun H => Z47_walk gx12 H)) rfl ?_
 refine s0 moveA rfl ?_
 obtain ⟨x13, gx13, hE⟩ := bindO_some hE
 refine s0 (callP rfl rfl (fun H => Z21_walk gx13 H)) rfl ?_
 refine s0 (binS rfl rfl rfl) rfl ?_
 refine s0 moveA rfl ?_
 obtain ⟨x14, gx14, hE⟩ := guardO_some hE
 refine gC rfl rfl (fun hC => callR rfl rfl (Z7_walk (gE := gE) (oE := oE) (gx14 hC) _ hpG (by assumption))) rfl ?_
 refine s0 (pickAndA rfl rfl rfl) rfl ?_
 refine s0 assignA rfl ?_
 refine nil ?_
 refine hK11 _ ?_
 clear hK11 K11
 refine AWp.ret ?_
 repeat (first | refine xBlock_ret ?_ | refine xThen_ret ?_)
 obtain rfl := Option.some.inj hE
 refine retQ.retF H rfl ⟨rfl, rfl⟩ ?_
 first | exact Heap.sub_set htk1 | (simp only [Heap.set_set]; exact Heap.sub_set htk1)
end
def Z20_j8   : Option Bool := some true
def Z20_l11 (a0 : (Sl R04_Token)) (a1 : (Sl R04_Token))  : Nat → Nat → Option Bool
 | 0, _ => none
 | n11 + 1, s5_12 => bif (decide (((s5_12 : Nat) : Int) < ((a0.l.length : Nat) : Int))) then ((a0.l[s5_12]?).bind fun x19 => (a1.l[s5_12]?).bind fun x20 => guardO (!(!decide (x19.FKind = x20.FKind))) (a0.l[s5_12]?) R04_Token.zero fun x21 => guardO (!(!decide (x19.FKind = x20.FKind))) (a1.l[s5_12]?) R04_Token.zero fun x22 => bif ((!decide (x19.FKind = x20.FKind)) || (!(x21.FText == x22.FText))) then (some false) else ((Z20_l11 a0 a1 n11) (s5_12 + 1))) else (Z20_j8   )
def Z20 (a0 : (Sl R04_Token)) (a1 : (Sl R04_Token)) : Option Bool := bif (!decide (((a0.l.length : Nat) : Int) = ((a1.l.length : Nat) : Int))) then (some false) else (Z20_l11 a0 a1 (a0.l.length + 1) 0)
theorem Z20_walk {a0 : (Sl R04_Token)} {a1 : (Sl R04_Token)} {w0 : Option Nat} {w1 : Option Nat}  {r : Bool} (hE : Z20 a0 a1 = some r) (H : Heap)  : ACalls Tryd.prog 19 [.d (Sl.d 3 R04_Token.c w0 a0), .d (Sl.d 3 R04_Token.c w1 a1)] H fun v h' => v = .a (.d (.bool r)) ∧ h' = H := by
 unfold Z20 at hE
 refine ACalls.of_wp (fn := Tryd.f19) (c := _) Tryd.tab_ok (fun _ _ => Tryd.call19 _ _) Tryd.func19 rfl (n := 41) rfl (rs := [.tmp 4]) rfl rfl ?_
 refine seqK fun K1 hK1 => ?_
 refine region ?_
 refine s0 assignA rfl ?_
 refine nil ?_
 refine hK1 _ ?_
 clear hK1 K1
 refine seqK fun K2 hK2 => ?_
 refine seqK fun K3 hK3 => ?_
 refine region ?_
 refine s0 moveA rfl ?_
 refine sLen (f := R04_Token.c) (s := a0) (TK rfl) rfl rfl rfl rfl fun hL4 => ?_
 refine s0 moveA rfl ?_
 refine sLen (f := R04_Token.c) (s := a1) (TK rfl) rfl rfl rfl rfl fun hL5 => ?_
 refine s0 (binI rfl rfl rfl) rfl ?_
 refine nil ?_
 refine hK3 _ ?_
 clear hK3 K3
 refine condE hE rfl (fun hc6 hE => ?_) (fun hc6 hE => ?_)
 ·refine seqK fun K7 hK7 => ?_
  refine region ?_
  refine s0 assignA rfl ?_
  refine nil ?_
  refine hK7 _ ?_
  clear hK7 K7
  refine AWp.ret ?_
  repeat (first | refine xBlock_ret ?_ | refine xThen_ret ?_)
  obtain rfl := Option.some.inj hE
  refine retQ.retF H rfl ⟨rfl, rfl⟩ ?_
  exact (fun _ _ h => h)
 refine AWp.skip ?_
 refine hK2 _ ?_
 clear hK2 K2
 refine seqJH KeepsT.nil (fun (z : Unit) => []) (fun z => H) (fun z => Z20_j8  = some r) ?_ ?_
 ·intro K8 hK8
  refine seqK fun K10 hK10 => ?_
  refine region ?_
  refine s0 assignA rfl ?_
  refine nil ?_
  refine hK10 _ ?_
  clear hK10 K10
  refine block ?_
  refine loopH (KeepsT.A (k := 0) (KeepsT.A (k := 1) KeepsT.nil)) (fun (z : Nat × Nat) => [(5, .a (.d (.int .i64 ((z.2 : Nat) : Int))))]) (fun z => H) (fun z => z.1) (fun z => Z20_l11 a0 a1 z.1 z.2 = some r) ((a0.l.length + 1), 0) hE Weak.toA ?_
  rintro ⟨n11, s5_12⟩ hE K11 hK11
  try dsimp only at hE
  cases n11 with
  | zero => cases hE
  | succ n11 =>
    rw [Z20_l11] at hE
    refine seqK fun K13 hK13 => ?_
    refine seqK fun K14 hK14 => ?_
    refine region ?_
    refine s0 moveA rfl ?_
    refine s0 moveA rfl ?_
    refine sLen (f := R04_Token.c) (s := a0) (TK rfl) rfl rfl rfl rfl fun hL15 => ?_
    refine s0 (binI rfl rfl rfl) rfl ?_
    refine nil ?_
    refine hK14 _ ?_
    clear hK14 K14
    refine condE hE rfl (fun hc16 hE => ?_) (fun hc16 hE => ?_)
    ·try dsimp only at hc16
     have hf16 := of_decide_eq_true hc16
     refine AWp.skip ?_
     refine hK13 _ ?_
     clear hK13 K13
     refine seqK fun K17 hK17 => ?_
     refine block ?_
     refine seqK fun K18 hK18 => ?_
     refine AWp.draw rfl ?_
     refine DOps.s0 moveA rfl ?_
     refine DOps.s0 moveA rfl ?_
     obtain ⟨x19, gx19, hE⟩ := bindO_some hE
     refine DOps.s0 (idxMn (f := R04_Token.c) (n := s5_12) (TK rfl) rfl (TK rfl) rfl rfl rfl gx19) rfl ?_
     refine DOps.s0 (fieldVA (TK rfl) rfl rfl (TK rfl) rfl rfl) rfl ?_
     refine DOps.s0 (loadV (TK rfl) rfl rfl rfl) rfl ?_
     refine DOps.s0 moveA rfl ?_
     refine DOps.s0 moveA rfl ?_
     obtain ⟨x20, gx20, hE⟩ := bindO_some hE
     refine DOps.s0 (idxMn (f := R04_Token.c) (n := s5_12) (TK rfl) rfl (TK rfl) rfl rfl rfl gx20) rfl ?_
     refine DOps.s0 (fieldVA (TK rfl) rfl rfl (TK rfl) rfl rfl) rfl ?_
     refine DOps.s0 (loadV (TK rfl) rfl rfl rfl) rfl ?_
     refine DOps.s0 (binI rfl rfl rfl) rfl ?_
     refine DOps.s0 moveA rfl ?_
     refine DOps.gC rfl rfl (fun hC => moveA) rfl ?_
     refine DOps.gC rfl rfl (fun hC => moveA) rfl ?_
     obtain ⟨x21, gx21, hE⟩ := guardO_some hE
     refine DOps.gC rfl rfl (fun hC => ungdA (k := 29) rfl (ungdA (k := 30) rfl (idxMn (f := R04_Token.c) (n := s5_12) (TK rfl) rfl (TK rfl) rfl rfl rfl (gx21 hC)))) rfl ?_
     refine DOps.gC rfl rfl (fun hC => ungdA (k := 31) rfl (fieldVA (TK rfl) rfl rfl (TK rfl) rfl rfl)) rfl ?_
     refine DOps.gC rfl rfl (fun hC => ungdA (k := 32) rfl (loadV (TK rfl) rfl rfl rfl)) rfl ?_
     refine DOps.gC rfl rfl (fun hC => moveA) rfl ?_
     refine DOps.gC rfl rfl (fun hC => moveA) rfl ?_
     obtain ⟨x22, gx22, hE⟩ := guardO_some hE
     refine DOps.gC rfl rfl (fun hC => ungdA (k := 34) rfl (ungdA (k := 35) rfl (idxMn (f := R04_Token.c) (n := s5_12) (TK rfl) rfl (TK rfl) rfl rfl rfl (gx22 hC)))) rfl ?_
     refine DOps.gC rfl rfl (fun hC => ungdA (k := 36) rfl (fieldVA (TK rfl) rfl rfl (TK rfl) rfl rfl)) rfl ?_
     refine DOps.gC rfl rfl (fun hC => ungdA (k := 37) rfl (loadV (TK rfl) rfl rfl rfl)) rfl ?_
     refine DOps.gC rfl rfl (fun hC => ungdA (k := 33) rfl (ungdA (k := 38) rfl (binS rfl rfl rfl))) rfl ?_
     refine DOps.s0 (pickOrA rfl rfl rfl) rfl ?_
     refine DOps.nil (by decide +kernel) ?_
     refine hK18 _ ?_
     clear hK18 K18
     refine condE hE rfl (fun hc23 hE => ?_) (fun hc23 hE => ?_)
     ·refine seqK fun K24 hK24 => ?_
      refine region ?_
      refine s0 assignA rfl ?_
      refine nil ?_
      refine hK24 _ ?_
      clear hK24 K24
      refine AWp.ret ?_
      repeat (first | refine xBlock_ret ?_ | refine xThen_ret ?_)
      obtain rfl := Option.some.inj hE
      refine retQ.retF H rfl ⟨rfl, rfl⟩ ?_
      exact (fun _ _ h => h)
     refine AWp.skip ?_
     refine hK17 _ ?_
     clear hK17 K17
     refine region ?_
     refine s0 moveA rfl ?_
     refine s0 (addI rfl rfl (by first | omega | (dsimp only; omega) | (simp at *; omega)) (by first | omega | (dsimp only; omega) | (simp at *; omega))) rfl ?_
     refine s0 assignA rfl ?_
     refine nil ?_
     exact hK11 _ (n11, (s5_12 + 1)) Weak.toA hE (Nat.lt_succ_self _)
    refine AWp.exit ?_
    exact hK8 _ () Weak.toA hE
 rintro _ hE
 try dsimp only at hE
 unfold Z20_j8 at hE
 refine seqK fun K9 hK9 => ?_
 refine region ?_
 refine s0 assignA rfl ?_
 refine nil ?_
 refine hK9 _ ?_
 clear hK9 K9
 refine AWp.ret ?_
 repeat (first | refine xBlock_ret ?_ | refine xThen_ret ?_)
 obtain rfl := Option.some.inj hE
 refine retQ.retF H rfl ⟨rfl, rfl⟩ ?_
 exact (fun _ _ h => h)
section
variable [IsLoud lou]
def Z4 (a0 : Bs) : Option Bool := (Z8 a0).bind fun x4 => bif (x4 || (decide ((65536 : Int) < ((a0.length : Nat) : Int)))) then ((Z7 ).bind fun x7 => some x7) else ((Z48 a0).bind fun x9 => bif (!decide (x9.2.2 = (0 : Int))) then (guardO ((decide (((x9.1.l.length : Nat) : Int) = (0 : Int)))) (Z7 ) false fun x15 => some ((decide (((x9.1.l.length : Nat) : Int) = (0 : Int))) && x15)) else ((Z47 x9.1).bind fun x17 => (Z48 x17).bind fun x18 => guardO ((decide (x18.2.2 = (0 : Int)))) (Z9 x9.1) (Sl.nil : Sl R04_Token) fun x20 => guardO ((decide (x18.2.2 = (0 : Int)))) (Z9 x18.1) (Sl.nil : Sl R04_Token) fun x21 => guardO ((decide (x18.2.2 = (0 : Int)))) (Z20 x20 x21) false fun x22 => guardO (((decide (x18.2.2 = (0 : Int))) && x22)) (Z7 ) false fun x23 => some (((decide (x18.2.2 = (0 : Int))) && x22) && x23)))
theorem Z4_walk {a0 : Bs} {oE : Ab.Obj} {gE : Nat} {r : Bool} (hE : Z4 a0 = some r) (H : Heap) (hgE : H gE = some oE) (hoE : IsErr Tryd.prog oE) : ACalls Tryd.prog 6 [.d (.str a0)] H fun v h' => v = .a (.d (.bool r)) ∧ h' = H := by
 unfold Z4 at hE
 refine ACalls.of_wp (fn := Tryd.f6) (c := _) Tryd.tab_ok (fun _ _ => Tryd.call6 _ _) Tryd.func6 rfl (n := 50) rfl (rs := [.tmp 2]) rfl rfl ?_
 refine seqK fun K1 hK1 => ?_
 refine region ?_
 refine s0 assignA rfl ?_
 refine nil ?_
 refine hK1 _ ?_
 clear hK1 K1
 refine seqK fun K2 hK2 => ?_
 refine seqK fun K3 hK3 => ?_
 refine region ?_
 refine s0 moveA rfl ?_
 obtain ⟨x4, gx4, hE⟩ := bindO_some hE
 refine s0 (callP rfl rfl (fun H => Z8_walk gx4 H)) rfl ?_
 refine s0 moveA rfl ?_
 refine gC rfl rfl (fun hC => moveA) rfl ?_
 refine gC rfl rfl (fun hC => ungdA (k := 12) rfl (lenS (TK rfl) rfl rfl rfl)) rfl ?_
 refine gC rfl rfl (fun hC => ungdA (k := 13) rfl (binI rfl rfl rfl)) rfl ?_
 refine s0 (pickOrA rfl rfl rfl) rfl ?_
 refine nil ?_
 refine hK3 _ ?_
 clear hK3 K3
 refine condE hE rfl (fun hc5 hE => ?_) (fun hc5 hE => ?_)
 ·refine seqK fun K6 hK6 => ?_
  refine region ?_
  obtain ⟨x7, gx7, hE⟩ := bindO_some hE
  refine s0 (callR rfl rfl (Z7_walk (gE := gE) (oE := oE) gx7 _ hpG (by assumption))) rfl ?_
  refine s0 assignA rfl ?_
  refine nil ?_
  refine hK6 _ ?_
  clear hK6 K6
  refine AWp.ret ?_
  repeat (first | refine xBlock_ret ?_ | refine xThen_ret ?_)
  obtain rfl := Option.some.inj hE
  refine retQ.retF H rfl ⟨rfl, rfl⟩ ?_
  exact (fun _ _ h => h)
 refine AWp.skip ?_
 refine hK2 _ ?_
 clear hK2 K2
 refine seqK fun K8 hK8 => ?_
 refine region ?_
 refine s0 moveA rfl ?_
 obtain ⟨x9, gx9, hE⟩ := bindO_some hE
 refine s0 (callR rfl rfl (Z48_walk (gE := gE) (oE := oE) gx9 _ hpG (by assumption))) rfl ?_
 refine s0 moveA rfl ?_
 refine s0 (extract rfl rfl) rfl ?_
 refine s0 (extract rfl rfl) rfl ?_
 refine s0 (extract rfl rfl) rfl ?_
 refine s0 assignA rfl ?_
 refine s0 assignA rfl ?_
 refine s0 assignA rfl ?_
 refine nil ?_
 refine hK8 _ ?_
 clear hK8 K8
 refine seqK fun K10 hK10 => ?_
 refine seqK fun K11 hK11 => ?_
 refine region ?_
 refine s0 moveA rfl ?_
 refine s0 (binI rfl rfl rfl) rfl ?_
 refine nil ?_
 refine hK11 _ ?_
 clear hK11 K11
 refine condE hE rfl (fun hc12 hE => ?_) (fun hc12 hE => ?_)
 ·refine seqK fun K13 hK13 => ?_
  refine region ?_
  refine s0 moveA rfl ?_
  refine sLen (f := Token_Token.c) (s := x9.1) (TK rfl) rfl rfl rfl rfl fun hL14 => ?_
  refine s0 (binI rfl rfl rfl) rfl ?_
  refine s0 moveA rfl ?_
  obtain ⟨x15, gx15, hE⟩ := guardO_some hE
  refine gC rfl rfl (fun hC => callR rfl rfl (Z7_walk (gE := gE) (oE := oE) (gx15 hC) _ hpG (by assumption))) rfl ?_
  refine s0 (pickAndA rfl rfl rfl) rfl ?_
  refine s0 assignA rfl ?_
  refine nil ?_
  refine hK13 _ ?_
  clear hK13 K13
  refine AWp.ret ?_
  repeat (first | refine xBlock_ret ?_ | refine xThen_ret ?_)
  obtain rfl := Option.some.inj hE
  refine retQ.retF H rfl ⟨rfl, rfl⟩ ?_
  exact (fun _ _ h => h)
 refine AWp.skip ?_
 refine hK10 _ ?_
 clear hK10 K10
 refine seqK fun K16 hK16 => ?_
 refine region ?_
 refine s0 moveA rfl ?_
 obtain ⟨x17, gx17, hE⟩ := bindO_some hE
 refine s0 (callP rfl rfl (fun H => Z47_walk gx17 H)) rfl ?_
 obtain ⟨x18, gx18, hE⟩ := bindO_some hE
 refine s0 (callR rfl rfl (Z48_walk (gE := gE) (oE := oE) gx18 _ hpG (by assumption))) rfl ?_
 refine s0 moveA rfl ?_
 refine s0 (extract rfl rfl) rfl ?_
 refine s0 (extract rfl rfl) rfl ?_
 refine s0 (extract rfl rfl) rfl ?_
 refine s0 assignA rfl ?_
 refine s0 assignA rfl ?_
 refine s0 assignA rfl ?_
 refine nil ?_
 refine hK16 _ ?_
 clear hK16 K16
 refine seqK fun K19 hK19 => ?_
 refine region ?_
 refine s0 moveA rfl ?_
 refine s0 (binI rfl rfl rfl) rfl ?_
 refine s0 moveA rfl ?_
 refine gC rfl rfl (fun hC => moveA) rfl ?_
 obtain ⟨x20, gx20, hE⟩ := guardO_some hE
 refine gC rfl rfl (fun hC => ungdA (k := 41) rfl (callP rfl rfl (fun H => Z9_walk (gx20 hC) H))) rfl ?_
 refine gC rfl rfl (fun hC => moveA) rfl ?_
 obtain ⟨x21, gx21, hE⟩ := guardO_some hE
 refine gC rfl rfl (fun hC => ungdA (k := 43) rfl (callP rfl rfl (fun H => Z9_walk (gx21 hC) H))) rfl ?_
 obtain ⟨x22, gx22, hE⟩ := guardO_some hE
 refine gC rfl rfl (fun hC => ungdA (k := 42) rfl (ungdA (k := 44) rfl (callP rfl rfl (fun H => Z20_walk (gx22 hC) H)))) rfl ?_
 refine s0 (pickAndA rfl rfl rfl) rfl ?_
 refine s0 moveA rfl ?_
 obtain ⟨x23, gx23, hE⟩ := guardO_some hE
 refine gC rfl rfl (fun hC => callR rfl rfl (Z7_walk (gE := gE) (oE := oE) (gx23 hC) _ hpG (by assumption))) rfl ?_
 refine s0 (pickAndA rfl rfl rfl) rfl ?_
 refine s0 assignA rfl ?_
 refine nil ?_
 refine hK19 _ ?_
 clear hK19 K19
 refine AWp.ret ?_
 repeat (first | refine xBlock_ret ?_ | refine xThen_ret ?_)
 obtain rfl := Option.some.inj hE
 refine retQ.retF H rfl ⟨rfl, rfl⟩ ?_
 exact (fun _ _ h => h)
end
section
variable [IsLoud lou]
def Z6 (a0 : Bs) (a1 : Int) (a2 : Int) : Option Bool := (Z8 a0).bind fun x4 => bif (((x4 || (decide ((2000 : Int) < ((a0.length : Nat) : Int)))) || (decide (a2 < (0 : Int)))) || (decide ((5 : Int) < a2))) then ((Z7 ).bind fun x7 => some x7) else ((Z48 a0).bind fun x9 => bif (((!decide (x9.2.2 = (0 : Int))) || (decide (a1 < (0 : Int)))) || (decide (((x9.1.l.length : Nat) : Int) ≤ a1))) then ((Z7 ).bind fun x14 => some x14) else ((idxC x9.1.l a1).bind fun x17 => bif ((decide (x17.FAt < (0 : Int))) || (decide (((a0.length : Nat) : Int) < x17.FAt))) then (some false) else ((cutC a0 none (some x17.FAt)).bind fun x23 => (catC x23 ([10] : Bs)).bind fun x24 => (idxC (⟨false, [([32] : Bs), ([44] : Bs), ([10] : Bs), ([35, 120, 32, 34, 123, 10] : Bs), ([9, 44, 13] : Bs), ([35, 13] : Bs)]⟩ : Sl Bs).l a2).bind fun x25 => (catC x24 x25).bind fun x26 => (cutC a0 (some x17.FAt) none).bind fun x27 => (catC x26 x27).bind fun x28 => (Z48 x28).bind fun x29 => guardO ((decide (x29.2.2 = (0 : Int)))) (Z9 x9.1) (Sl.nil : Sl R04_Token) fun x31 => guardO ((decide (x29.2.2 = (0 : Int)))) (Z9 x29.1) (Sl.nil : Sl R04_Token) fun x32 => guardO ((decide (x29.2.2 = (0 : Int)))) (Z20 x31 x32) false fun x33 => guardO (((decide (x29.2.2 = (0 : Int))) && x33)) (Z7 ) false fun x34 => some (((decide (x29.2.2 = (0 : Int))) && x33) && x34))))
theorem Z6_walk {a0 : Bs} {a1 : Int} {a2 : Int} {oE : Ab.Obj} {gE : Nat} {r : Bool} (hE : Z6 a0 a1 a2 = some r) (H : Heap) (hgE : H gE = some oE) (hoE : IsErr Tryd.prog oE) : ACalls Tryd.prog 8 [.d (.str a0), .d (.int .i64 a1), .d (.int .i64 a2)] H fun v h' => v = .a (.d (.bool r)) ∧ h' = H := by
 unfold Z6 at hE
 refine ACalls.of_wp (fn := Tryd.f8) (c := _) Tryd.tab_ok (fun _ _ => Tryd.call8 _ _) Tryd.func8 rfl (n := 94) rfl (rs := [.tmp 6]) rfl rfl ?_
 refine seqK fun K1 hK1 => ?_
 refine region ?_
 refine s0 assignA rfl ?_
 refine nil ?_
 refine hK1 _ ?_
 clear hK1 K1
 refine seqK fun K2 hK2 => ?_
 refine seqK fun K3 hK3 => ?_
 refine region ?_
 refine s0 moveA rfl ?_
 obtain ⟨x4, gx4, hE⟩ := bindO_some hE
 refine s0 (callP rfl rfl (fun H => Z8_walk gx4 H)) rfl ?_
 refine s0 moveA rfl ?_
 refine gC rfl rfl (fun hC => moveA) rfl ?_
 refine gC rfl rfl (fun hC => ungdA (k := 18) rfl (lenS (TK rfl) rfl rfl rfl)) rfl ?_
 refine gC rfl rfl (fun hC => ungdA (k := 19) rfl (binI rfl rfl rfl)) rfl ?_
 refine s0 (pickOrA rfl rfl rfl) rfl ?_
 refine s0 moveA rfl ?_
 refine gC rfl rfl (fun hC => moveA) rfl ?_
 refine gC rfl rfl (fun hC => ungdA (k := 23) rfl (binI rfl rfl rfl)) rfl ?_
 refine s0 (pickOrA rfl rfl rfl) rfl ?_
 refine s0 moveA rfl ?_
 refine gC rfl rfl (fun hC => moveA) rfl ?_
 refine gC rfl rfl (fun hC => ungdA (k := 27) rfl (binI rfl rfl rfl)) rfl ?_
 refine s0 (pickOrA rfl rfl rfl) rfl ?_
 refine nil ?_
 refine hK3 _ ?_
 clear hK3 K3
 refine condE hE rfl (fun hc5 hE => ?_) (fun hc5 hE => ?_)
 ·refine seqK fun K6 hK6 => ?_
  refine region ?_
  obtain ⟨x7, gx7, hE⟩ := bindO_some hE
  refine s0 (callR rfl rfl (Z7_walk (gE := gE) (oE := oE) gx7 _ hpG (by assumption))) rfl ?_
  refine s0 assignA rfl ?_
  refine nil ?_
  refine hK6 _ ?_
  clear hK6 K6
  refine AWp.ret ?_
  repeat (first | refine xBlock_ret ?_ | refine xThen_ret ?_)
  obtain rfl := Option.some.inj hE
  refine retQ.retF H rfl ⟨rfl, rfl⟩ ?_
  exact (fun _ _ h => h)
 refine AWp.skip ?_
 refine hK2 _ ?_
 clear hK2 K2
 refine seqK fun K8 hK8 => ?_
 refine region ?_
 refine s0 moveA rfl ?_
 obtain ⟨x9, gx9, hE⟩ := bindO_some hE
 refine s0 (callR rfl rfl (Z48_walk (gE := gE) (oE := oE) gx9 _ hpG (by assumption))) rfl ?_
 refine s0 moveA rfl ?_
 refine s0 (extract rfl rfl) rfl ?_
 refine s0 (extract rfl rfl) rfl ?_
 refine s0 (extract rfl rfl) rfl ?_
 refine s0 assignA rfl ?_
 refine s0 assignA rfl ?_
 refine s0 assignA rfl ?_
 refine nil ?_
 refine hK8 _ ?_
 clear hK8 K8
 refine seqK fun K10 hK10 => ?_
 refine seqK fun K11 hK11 => ?_
 refine region ?_
 refine s0 moveA rfl ?_
 refine s0 (binI rfl rfl rfl) rfl ?_
 refine s0 moveA rfl ?_
 refine gC rfl rfl (fun hC => moveA) rfl ?_
 refine gC rfl rfl (fun hC => ungdA (k := 40) rfl (binI rfl rfl rfl)) rfl ?_
 refine s0 (pickOrA rfl rfl rfl) rfl ?_
 refine s0 moveA rfl ?_
 refine gC rfl rfl (fun hC => moveA) rfl ?_
 refine gC rfl rfl (fun hC => moveA) rfl ?_
 refine gC rfl rfl (fun hC => ungdA (k := 45) rfl (lenM' (f := Token_Token.c) (s := x9.1) (TK rfl) rfl rfl rfl)) rfl ?_
 refine gC rfl rfl (fun hC => ungdA (k := 44) rfl (ungdA (k := 46) rfl (binI rfl rfl rfl))) rfl ?_
 refine s0 (pickOrA rfl rfl rfl) rfl ?_
 refine nil ?_
 refine hK11 _ ?_
 clear hK11 K11
 refine condE hE rfl (fun hc12 hE => ?_) (fun hc12 hE => ?_)
 ·refine seqK fun K13 hK13 => ?_
  refine region ?_
  obtain ⟨x14, gx14, hE⟩ := bindO_some hE
  refine s0 (callR rfl rfl (Z7_walk (gE := gE) (oE := oE) gx14 _ hpG (by assumption))) rfl ?_
  refine s0 assignA rfl ?_
  refine nil ?_
  refine hK13 _ ?_
  clear hK13 K13
  refine AWp.ret ?_
  repeat (first | refine xBlock_ret ?_ | refine xThen_ret ?_)
  obtain rfl := Option.some.inj hE
  refine retQ.retF H rfl ⟨rfl, rfl⟩ ?_
  exact (fun _ _ h => h)
 refine AWp.skip ?_
 refine hK10 _ ?_
 clear hK10 K10
 refine seqK fun K15 hK15 => ?_
 refine region ?_
 refine s0 (buildSlice (TK rfl) rfl (TK rfl) rfl rfl rfl rfl rfl rfl) rfl ?_
 refine s0 assignA rfl ?_
 refine nil ?_
 refine hK15 _ ?_
 clear hK15 K15
 refine seqK fun K16 hK16 => ?_
 refine region ?_
 refine s0 moveA rfl ?_
 refine s0 moveA rfl ?_
 obtain ⟨x17, gx17, hE⟩ := bindO_some hE
 refine s0 (idxM (f := Token_Token.c) (TK rfl) rfl (TK rfl) rfl rfl rfl gx17) rfl ?_
 refine s0 (fieldVA (TK rfl) rfl rfl (TK rfl) rfl rfl) rfl ?_
 refine s0 (loadV (TK rfl) rfl rfl rfl) rfl ?_
 refine s0 assignA rfl ?_
 refine nil ?_
 refine hK16 _ ?_
 clear hK16 K16
 refine seqK fun K18 hK18 => ?_
 refine seqK fun K19 hK19 => ?_
 refine region ?_
 refine s0 moveA rfl ?_
 refine s0 (binI rfl rfl rfl) rfl ?_
 refine s0 moveA rfl ?_
 refine gC rfl rfl (fun hC => moveA) rfl ?_
 refine gC rfl rfl (fun hC => moveA) rfl ?_
 refine gC rfl rfl (fun hC => ungdA (k := 60) rfl (lenS (TK rfl) rfl rfl rfl)) rfl ?_
 refine gC rfl rfl (fun hC => ungdA (k := 59) rfl (ungdA (k := 61) rfl (binI rfl rfl rfl))) rfl ?_
 refine s0 (pickOrA rfl rfl rfl) rfl ?_
 refine nil ?_
 refine hK19 _ ?_
 clear hK19 K19
 refine condE hE rfl (fun hc20 hE => ?_) (fun hc20 hE => ?_)
 ·refine seqK fun K21 hK21 => ?_
  refine region ?_
  refine s0 assignA rfl ?_
  refine nil ?_
  refine hK21 _ ?_
  clear hK21 K21
  refine AWp.ret ?_
  repeat (first | refine xBlock_ret ?_ | refine xThen_ret ?_)
  obtain rfl := Option.some.inj hE
  refine retQ.retF H rfl ⟨rfl, rfl⟩ ?_
  exact (fun _ _ h => h)
 refine AWp.skip ?_
 refine hK18 _ ?_
 clear hK18 K18
 refine seqK fun K22 hK22 => ?_
 refine AWp.draw rfl ?_
 refine DOps.s0 moveA rfl ?_
 refine DOps.s0 moveA rfl ?_
 obtain ⟨x23, gx23, hE⟩ := bindO_some hE
 refine DOps.s0 (cutM (l := none) (r := (some x17.FAt)) (TK rfl) rfl rfl trivial rfl (by simp) gx23) rfl ?_
 obtain ⟨x24, gx24, hE⟩ := bindO_some hE
 refine DOps.s0 (catM rfl rfl gx24) rfl ?_
 refine DOps.s0 moveA rfl ?_
 refine DOps.s0 moveA rfl ?_
 obtain ⟨x25, gx25, hE⟩ := bindO_some hE
 refine DOps.s0 (idxM (f := strE) (TK rfl) rfl (TK rfl) rfl rfl rfl gx25) rfl ?_
 refine DOps.s0 (loadV (TK rfl) rfl rfl rfl) rfl ?_
 obtain ⟨x26, gx26, hE⟩ := bindO_some hE
 refine DOps.s0 (catM rfl rfl gx26) rfl ?_
 refine DOps.s0 moveA rfl ?_
 refine DOps.s0 moveA rfl ?_
 obtain ⟨x27, gx27, hE⟩ := bindO_some hE
 refine DOps.s0 (cutM (l := (some x17.FAt)) (r := none) (TK rfl) rfl rfl rfl trivial (by simp) gx27) rfl ?_
 obtain ⟨x28, gx28, hE⟩ := bindO_some hE
 refine DOps.s0 (catM rfl rfl gx28) rfl ?_
 obtain ⟨x29, gx29, hE⟩ := bindO_some hE
 refine DOps.s0 (callR rfl rfl (Z48_walk (gE := gE) (oE := oE) gx29 _ hpG (by assumption))) rfl ?_
 refine DOps.s0 moveA rfl ?_
 refine DOps.s0 (extract rfl rfl) rfl ?_
 refine DOps.s0 (extract rfl rfl) rfl ?_
 refine DOps.s0 (extract rfl rfl) rfl ?_
 refine DOps.s0 assignA rfl ?_
 refine DOps.s0 assignA rfl ?_
 refine DOps.s0 assignA rfl ?_
 refine DOps.nil (by decide +kernel) ?_
 refine hK22 _ ?_
 clear hK22 K22
 refine seqK fun K30 hK30 => ?_
 refine region ?_
 refine s0 moveA rfl ?_
 refine s0 (binI rfl rfl rfl) rfl ?_
 refine s0 moveA rfl ?_
 refine gC rfl rfl (fun hC => moveA) rfl ?_
 obtain ⟨x31, gx31, hE⟩ := guardO_some hE
 refine gC rfl rfl (fun hC => ungdA (k := 85) rfl (callP rfl rfl (fun H => Z9_walk (gx31 hC) H))) rfl ?_
 refine gC rfl rfl (fun hC => moveA) rfl ?_
 obtain ⟨x32, gx32, hE⟩ := guardO_some hE
 refine gC rfl rfl (fun hC => ungdA (k := 87) rfl (callP rfl rfl (fun H => Z9_walk (gx32 hC) H))) rfl ?_
 obtain ⟨x33, gx33, hE⟩ := guardO_some hE
 refine gC rfl rfl (fun hC => ungdA (k := 86) rfl (ungdA (k := 88) rfl (callP rfl rfl (fun H => Z20_walk (gx33 hC) H)))) rfl ?_
 refine s0 (pickAndA rfl rfl rfl) rfl ?_
 refine s0 moveA rfl ?_
 obtain ⟨x34, gx34, hE⟩ := guardO_some hE
 refine gC rfl rfl (fun hC => callR rfl rfl (Z7_walk (gE := gE) (oE := oE) (gx34 hC) _ hpG (by assumption))) rfl ?_
 refine s0 (pickAndA rfl rfl rfl) rfl ?_
 refine s0 assignA rfl ?_
 refine nil ?_
 refine hK30 _ ?_
 clear hK30 K30
 refine AWp.ret ?_
 repeat (first | refine xBlock_ret ?_ | refine xThen_ret ?_)
 obtain rfl := Option.some.inj hE
 refine retQ.retF H rfl ⟨rfl, rfl⟩ ?_
 exact (fun _ _ h => h)
end
end Go.Proofs

namespace Go.Proofs
open Go Go.Ab
def Z8_q (a0 : Bs) : Bool := ((decide ((2000 : Int) < ((a0.length : Nat) : Int))) && (decide (((a0.length : Nat) : Int) ≤ (65536 : Int))))
def Z0_q (a0 : Bs) (a1 : Bs) : Bool := on (bif (decide (((a1.length : Nat) : Int) ≤ ((a0.length : Nat) : Int))) then (List.take (a1.length) a0) else ([] : Bs)) fun x5 => ((decide (((a1.length : Nat) : Int) ≤ ((a0.length : Nat) : Int))) && ((x5 == a1)))
theorem Z0_eq (a0 : Bs) (a1 : Bs) : Z0 a0 a1 = some (Z0_q a0 a1) := by
 unfold Z0 Z0_q
 refine Q.guardT (fun hc => Q.cutC_take (by simp at hc; omega)) fun x5 hx_x5 => ?_
 all_goals rfl
def Z37_q (a0 : Bs) (a1 : Bs) : Bool := on (Z0_q a0 a1) fun x3 => x3
theorem Z37_eq (a0 : Bs) (a1 : Bs) : Z37 a0 a1 = some (Z37_q a0 a1) := by
 unfold Z37 Z37_q
 refine Q.bindP (Z0_eq _ _) fun x3 hx_x3 => ?_
 all_goals rfl
def Z1_q (a0 : Bs) (a1 : Bs) : Option Bs := on (Z0_q a0 a1) fun x4 => bif x4 then ((cutC a0 (some ((a1.length : Nat) : Int)) none).bind fun x8 => some x8) else (some a0)
theorem Z1_eq (a0 : Bs) (a1 : Bs) : Z1 a0 a1 = Z1_q a0 a1 := by
 unfold Z1 Z1_q
 refine Eq.trans ?_ (Q.some_bind _)
 refine Q.bindPO (Z0_eq _ _) fun x4 hx_x4 => ?_
 refine Q.condO ?_ ?_
 ·refine Q.bindO rfl fun x8 => ?_
  all_goals rfl
 all_goals rfl
def Z42_q (a0 : Bs) (a1 : Bs) : Option Bs := (Z1_q a0 a1).bind fun x3 => some x3
theorem Z42_eq (a0 : Bs) (a1 : Bs) : Z42 a0 a1 = Z42_q a0 a1 := by
 unfold Z42 Z42_q
 refine Eq.trans ?_ (Q.some_bind _)
 refine Q.bindO (Z1_eq _ _) fun x3 => ?_
 all_goals rfl
def Z43_q19  : List UInt8 → Unit ⊕ ((Int × Int))
 | [] => Sum.inl ()
 | h19 :: r19 => on (h19) fun x27 => on (bif !(decide (((x27.toNat : Nat) : Int) < (48 : Int))) then h19 else (0 : UInt8)) fun x28 => bif ((decide (((x27.toNat : Nat) : Int) < (48 : Int))) || (decide ((57 : Int) < ((x28.toNat : Nat) : Int)))) then (Sum.inr ((0 : Int), (3 : Int))) else (Z43_q19  (r19) )
theorem Z43_l19_qe {a0 : Bs} {x3 : Bs}  (Kb19 : (Unit ⊕ ((Int × Int))) → Option (Int × Int)) (hend : ∀ (n19 : Nat) (s29_20 : Nat), Z43_j9 a0   = Kb19 (Sum.inl ())) (hret : ∀ e : (Int × Int), some e = Kb19 (Sum.inr e)) : ∀ (n19 : Nat) (s29_20 : Nat), (0 < n19 ∧ x3.length < s29_20 + n19) → Z43_l19 a0 x3 n19 s29_20 = Kb19 (Z43_q19  (x3.drop s29_20) ) := by
 intro n19
 induction n19 with
 | zero => intro s29_20 hn; exact absurd hn.1 (by omega)
 | succ n19 ih19 =>
  intro s29_20 hn
  rw [Z43_l19]
  by_cases hlt : s29_20 < x3.length
  ·obtain ⟨h19, hh19⟩ : ∃ x, x3[s29_20]? = some x := ⟨_, List.getElem?_eq_getElem hlt⟩
   rw [Q.drop_of hh19, Z43_q19]
   refine Q.condT (Q.ltT hlt) ?_
   refine Q.bindP hh19 fun x27 hx_x27 => ?_
   refine Q.guardP hh19 fun x28 hx_x28 => ?_
   refine Q.condP ?_ ?_
   ·all_goals exact hret _
   all_goals exact ih19 _ ⟨by omega, by omega⟩
  rw [List.drop_of_length_le (by omega), Z43_q19]
  refine Q.condF (Q.ltF hlt) ?_
  exact hend n19 s29_20
def Z43_q (a0 : Bs) : Option (Int × Int) := (Z42_q a0 ([45] : Bs)).bind fun x3 => guardO (!((x3 == ([] : Bs)))) (x3[0]?) (0 : UInt8) fun x6 => bif (((x3 == ([] : Bs))) || ((decide (((x6.toNat : Nat) : Int) = (48 : Int))) && ((decide ((1 : Int) < ((x3.length : Nat) : Int))) || (decide ((1 : Int) < ((a0.length : Nat) : Int)))))) then (some ((0 : Int), (3 : Int))) else (on (Z43_q19  x3 ) fun o19 => match o19 with | Sum.inl _ => (on (()) fun _ => (Z31_q a0).bind fun x11 => bif x11.2 then (some ((0 : Int), (4 : Int))) else (some (x11.1, (0 : Int)))) | Sum.inr e19 => (some e19))
theorem Z43_eq (a0 : Bs) : Z43 a0 = Z43_q a0 := by
 unfold Z43 Z43_q
 refine Eq.trans ?_ (Q.some_bind _)
 refine Q.bindO (Z42_eq _ _) fun x3 => ?_
 refine Q.guardOO rfl fun x6 => ?_
 refine Q.condO ?_ ?_
 ·all_goals rfl
 refine Q.wrapPO fun Kb19 hKb19 => ?_
 refine Z43_l19_qe  Kb19 ?_ ?_ _ _ ⟨Nat.succ_pos _, by omega⟩
 ·intro n19 s29_20
  refine Eq.trans ?_ (hKb19 _).symm
  try dsimp only
  refine Q.wrapPO fun Kj9 hKj9 => ?_
  have hj9 : Z43_j9 a0  = Kj9 () := by
   refine Eq.trans ?_ (hKj9 _).symm
   unfold Z43_j9
   refine Q.bindO (Z31_eq _) fun x11 => ?_
   refine Q.condO ?_ ?_
   ·all_goals rfl
   all_goals rfl
  all_goals exact hj9
 intro e19
 refine Eq.trans ?_ (hKb19 _).symm
 try dsimp only
 all_goals rfl
def Z33_q (a0 : Strings_Builder) (a1 : Int) : Option (Bool × Strings_Builder) := (Z35_q a0).bind fun x3 => (appC 1 x3.Fbuf (⟨false, [a1]⟩ : Sl Int)).bind fun x5 => some (false, (Strings_Builder.mk x3.Faddr x5))
theorem Z33_eq (a0 : Strings_Builder) (a1 : Int) : Z33 a0 a1 = Z33_q a0 a1 := by
 unfold Z33 Z33_q
 refine Eq.trans ?_ (Q.some_bind _)
 refine Q.bindO (Z35_eq _) fun x3 => ?_
 refine Q.bindO rfl fun x5 => ?_
 all_goals rfl
def Z34_q (a0 : Strings_Builder) (a1 : Bs) : Option (Int × Bool × Strings_Builder) := (Z35_q a0).bind fun x3 => (appC 1 x3.Fbuf (strSl a1)).bind fun x5 => some (((a1.length : Nat) : Int), false, (Strings_Builder.mk x3.Faddr x5))
theorem Z34_eq (a0 : Strings_Builder) (a1 : Bs) : Z34 a0 a1 = Z34_q a0 a1 := by
 unfold Z34 Z34_q
 refine Eq.trans ?_ (Q.some_bind _)
 refine Q.bindO (Z35_eq _) fun x3 => ?_
 refine Q.bindO rfl fun x5 => ?_
 all_goals rfl
def Z44_q15  : List UInt8 → Strings_Builder → Option (Strings_Builder)
 | [], y17_id3_3 => some y17_id3_3
 | h15 :: r15, y17_id3_3 => on (h15) fun x25 => on (bif (decide (((x25.toNat : Nat) : Int) = (34 : Int))) then ((decide (((x25.toNat : Nat) : Int) = (34 : Int)))) else ((decide (((x25.toNat : Nat) : Int) = (92 : Int))))) fun s33_28 => Option.bind (bif s33_28 then ((Z33_q y17_id3_3 (92 : Int)).bind fun x31 => (Z33_q x31.2 ((x25.toNat : Nat) : Int)).bind fun x32 => some x32.2) else (bif (decide (((x25.toNat : Nat) : Int) = (10 : Int))) then ((Z34_q y17_id3_3 ([92, 110] : Bs)).bind fun x35 => some x35.2.2) else (bif (decide (((x25.toNat : Nat) : Int) = (13 : Int))) then ((Z34_q y17_id3_3 ([92, 114] : Bs)).bind fun x38 => some x38.2.2) else (bif (decide (((x25.toNat : Nat) : Int) = (9 : Int))) then ((Z34_q y17_id3_3 ([92, 116] : Bs)).bind fun x41 => some x41.2.2) else (bif ((decide ((32 : Int) ≤ ((x25.toNat : Nat) : Int))) && (decide (((x25.toNat : Nat) : Int) ≤ (126 : Int)))) then ((Z33_q y17_id3_3 ((x25.toNat : Nat) : Int)).bind fun x46 => some x46.2) else ((Z34_q y17_id3_3 ([92, 117, 48, 48] : Bs)).bind fun x48 => (idxC ([48, 49, 50, 51, 52, 53, 54, 55, 56, 57, 97, 98, 99, 100, 101, 102] : Bs) (Int.fdiv ((x25.toNat : Nat) : Int) (2 ^ (min (Int.toNat 4) (IntKind.bits .u8))))).bind fun x50 => (Z33_q x48.2.2 ((x50.toNat : Nat) : Int)).bind fun x51 => (idxC ([48, 49, 50, 51, 52, 53, 54, 55, 56, 57, 97, 98, 99, 100, 101, 102] : Bs) (IntKind.wrap .u8 ((BitVec.ofInt (IntKind.bits .u8) ((x25.toNat : Nat) : Int) &&& BitVec.ofInt (IntKind.bits .u8) (15 : Int)).toNat : Int))).bind fun x52 => (Z33_q x51.2 ((x52.toNat : Nat) : Int)).bind fun x53 => some x53.2)))))) fun y22_id3_3 => Z44_q15  (r15) y22_id3_3
theorem Z44_l15_qe {a0 : Bs}  (Kb15 : (Strings_Builder) → Option Bs) (hend : ∀ (n15 : Nat) (s9_16 : Nat) (y17_id3_3 : Strings_Builder), Z44_j7   y17_id3_3 = Kb15 y17_id3_3) : ∀ (n15 : Nat) (s9_16 : Nat) (y17_id3_3 : Strings_Builder), (0 < n15 ∧ a0.length < s9_16 + n15) → Z44_l15 a0 n15 s9_16 y17_id3_3 = Option.bind (Z44_q15  (a0.drop s9_16) y17_id3_3) Kb15 := by
 intro n15
 induction n15 with
 | zero => intro s9_16 y17_id3_3 hn; exact absurd hn.1 (by omega)
 | succ n15 ih15 =>
  intro s9_16 y17_id3_3 hn
  rw [Z44_l15]
  by_cases hlt : s9_16 < a0.length
  ·obtain ⟨h15, hh15⟩ : ∃ x, a0[s9_16]? = some x := ⟨_, List.getElem?_eq_getElem hlt⟩
   rw [Q.drop_of hh15, Z44_q15]
   refine Q.condT (Q.ltT hlt) ?_
   refine Q.bindPO hh15 fun x25 hx_x25 => ?_
   refine Q.wrapPO fun Kj27 hKj27 => ?_
   have hj27 : ∀ (s33_28 : Bool), Z44_j27 s9_16 y17_id3_3 x25 (Z44_l15 a0 n15) s33_28 = Kj27 s33_28 := by
    intro s33_28
    refine Eq.trans ?_ (hKj27 _).symm
    unfold Z44_j27
    refine Q.wrapOO fun Kj21 hKj21 => ?_
    have hj21 : ∀ (y22_id3_3 : Strings_Builder), Z44_j21 s9_16 (Z44_l15 a0 n15) y22_id3_3 = Kj21 y22_id3_3 := by
     intro y22_id3_3
     refine Eq.trans ?_ (hKj21 _).symm
     unfold Z44_j21
     all_goals exact ih15 _ _ ⟨by omega, by omega⟩
    refine Q.condO ?_ ?_
    ·refine Q.bindO (Z33_eq _ _) fun x31 => ?_
     refine Q.bindO (Z33_eq _ _) fun x32 => ?_
     all_goals exact hj21 _
    refine Q.condO ?_ ?_
    ·refine Q.bindO (Z34_eq _ _) fun x35 => ?_
     all_goals exact hj21 _
    refine Q.condO ?_ ?_
    ·refine Q.bindO (Z34_eq _ _) fun x38 => ?_
     all_goals exact hj21 _
    refine Q.condO ?_ ?_
    ·refine Q.bindO (Z34_eq _ _) fun x41 => ?_
     all_goals exact hj21 _
    refine Q.condO ?_ ?_
    ·refine Q.bindO (Z33_eq _ _) fun x46 => ?_
     all_goals exact hj21 _
    refine Q.bindO (Z34_eq _ _) fun x48 => ?_
    refine Q.bindO rfl fun x50 => ?_
    refine Q.bindO (Z33_eq _ _) fun x51 => ?_
    refine Q.bindO rfl fun x52 => ?_
    refine Q.bindO (Z33_eq _ _) fun x53 => ?_
    all_goals exact hj21 _
   refine Q.condP ?_ ?_
   ·all_goals exact hj27 _
   all_goals exact hj27 _
  rw [List.drop_of_length_le (by omega), Z44_q15]
  refine Q.condF (Q.ltF hlt) ?_
  exact hend n15 s9_16 y17_id3_3
def Z44_q (a0 : Bs) : Option Bs := (Z33_q Strings_Builder.zero (34 : Int)).bind fun x6 => Option.bind (Z44_q15  a0 x6.2) fun y17_id3_3 => on (y17_id3_3) fun y8_id3_3 => (Z33_q y8_id3_3 (34 : Int)).bind fun x10 => (Z32_q x10.2).bind fun x12 => some x12
theorem Z44_eq (a0 : Bs) : Z44 a0 = Z44_q a0 := by
 unfold Z44 Z44_q
 refine Eq.trans ?_ (Q.some_bind _)
 refine Q.bindO (Z33_eq _ _) fun x6 => ?_
 refine Q.wrapOO fun Kb15 hKb15 => ?_
 refine Z44_l15_qe  Kb15 ?_ _ _ _ ⟨Nat.succ_pos _, by omega⟩
 intro n15 s9_16 y17_id3_3
 refine Eq.trans ?_ (hKb15 _).symm
 refine Q.wrapPO fun Kj7 hKj7 => ?_
 have hj7 : ∀ (y8_id3_3 : Strings_Builder), Z44_j7  y8_id3_3 = Kj7 y8_id3_3 := by
  intro y8_id3_3
  refine Eq.trans ?_ (hKj7 _).symm
  unfold Z44_j7
  refine Q.bindO (Z33_eq _ _) fun x10 => ?_
  refine Q.bindO (Z32_eq _) fun x12 => ?_
  all_goals rfl
 all_goals exact hj7 _
def Z47_q9  : List Token_Token → (Sl Bs) → Option ((Sl Bs))
 | [], s3_10 => some s3_10
 | h9 :: r9, s3_10 => on (h9) fun x18 => Option.bind (bif (decide (x18.FKind = (5 : Int))) then (some s3_10) else (bif (decide (x18.FKind = (4 : Int))) then ((Z44_q x18.FText).bind fun x24 => (appC 16 s3_10 (⟨false, [x24]⟩ : Sl Bs)).bind fun x25 => some x25) else ((appC 16 s3_10 (⟨false, [x18.FText]⟩ : Sl Bs)).bind fun x26 => some x26))) fun s3_16 => Z47_q9  (r9) s3_16
theorem Z47_l9_qe {a0 : (Sl Token_Token)}  (Kb9 : ((Sl Bs)) → Option Bs) (hend : ∀ (n9 : Nat) (s3_10 : (Sl Bs)) (s8_11 : Nat), Z47_j3   s3_10 = Kb9 s3_10) : ∀ (n9 : Nat) (s3_10 : (Sl Bs)) (s8_11 : Nat), (0 < n9 ∧ a0.l.length < s8_11 + n9) → Z47_l9 a0 n9 s3_10 s8_11 = Option.bind (Z47_q9  (a0.l.drop s8_11) s3_10) Kb9 := by
 intro n9
 induction n9 with
 | zero => intro s3_10 s8_11 hn; exact absurd hn.1 (by omega)
 | succ n9 ih9 =>
  intro s3_10 s8_11 hn
  rw [Z47_l9]
  by_cases hlt : s8_11 < a0.l.length
  ·obtain ⟨h9, hh9⟩ : ∃ x, a0.l[s8_11]? = some x := ⟨_, List.getElem?_eq_getElem hlt⟩
   rw [Q.drop_of hh9, Z47_q9]
   refine Q.condT (Q.ltT hlt) ?_
   refine Q.bindPO hh9 fun x18 hx_x18 => ?_
   refine Q.wrapOO fun Kj15 hKj15 => ?_
   have hj15 : ∀ (s3_16 : (Sl Bs)), Z47_j15 s8_11 (Z47_l9 a0 n9) s3_16 = Kj15 s3_16 := by
    intro s3_16
    refine Eq.trans ?_ (hKj15 _).symm
    unfold Z47_j15
    all_goals exact ih9 _ _ ⟨by omega, by omega⟩
   refine Q.condO ?_ ?_
   ·all_goals exact hj15 _
   refine Q.condO ?_ ?_
   ·refine Q.bindO (Z44_eq _) fun x24 => ?_
    refine Q.bindO rfl fun x25 => ?_
    all_goals exact hj15 _
   refine Q.bindO rfl fun x26 => ?_
   all_goals exact hj15 _
  rw [List.drop_of_length_le (by omega), Z47_q9]
  refine Q.condF (Q.ltF hlt) ?_
  exact hend n9 s3_10 s8_11
def Z47_q (a0 : (Sl Token_Token)) : Option Bs := Option.bind (Z47_q9  a0.l (Sl.nil : Sl Bs)) fun s3_10 => on (s3_10) fun s3_4 => (Z41_q s3_4 ([32] : Bs)).bind fun x6 => some x6
theorem Z47_eq (a0 : (Sl Token_Token)) : Z47 a0 = Z47_q a0 := by
 unfold Z47 Z47_q
 refine Eq.trans ?_ (Q.some_bind _)
 refine Q.wrapOO fun Kb9 hKb9 => ?_
 refine Z47_l9_qe  Kb9 ?_ _ _ _ ⟨Nat.succ_pos _, by omega⟩
 intro n9 s3_10 s8_11
 refine Eq.trans ?_ (hKb9 _).symm
 refine Q.wrapPO fun Kj3 hKj3 => ?_
 have hj3 : ∀ (s3_4 : (Sl Bs)), Z47_j3  s3_4 = Kj3 s3_4 := by
  intro s3_4
  refine Eq.trans ?_ (hKj3 _).symm
  unfold Z47_j3
  refine Q.bindO (Z41_eq _ _) fun x6 => ?_
  all_goals rfl
 all_goals exact hj3 _
def Z9_q7  : List Token_Token → (Sl R04_Token) → Option ((Sl R04_Token))
 | [], s3_8 => some s3_8
 | h7 :: r7, s3_8 => on (h7) fun x15 => on (h7) fun x16 => on (h7) fun x17 => (appC 32 s3_8 (⟨false, [(R04_Token.mk x15.FKind x16.FText x17.FAt)]⟩ : Sl R04_Token)).bind fun x18 => Z9_q7  (r7) x18
theorem Z9_l7_qe {a0 : (Sl Token_Token)}  (Kb7 : ((Sl R04_Token)) → Option (Sl R04_Token)) (hend : ∀ (n7 : Nat) (s3_8 : (Sl R04_Token)) (s4_9 : Nat), Z9_j3   s3_8 = Kb7 s3_8) : ∀ (n7 : Nat) (s3_8 : (Sl R04_Token)) (s4_9 : Nat), (0 < n7 ∧ a0.l.length < s4_9 + n7) → Z9_l7 a0 n7 s3_8 s4_9 = Option.bind (Z9_q7  (a0.l.drop s4_9) s3_8) Kb7 := by
 intro n7
 induction n7 with
 | zero => intro s3_8 s4_9 hn; exact absurd hn.1 (by omega)
 | succ n7 ih7 =>
  intro s3_8 s4_9 hn
  rw [Z9_l7]
  by_cases hlt : s4_9 < a0.l.length
  ·obtain ⟨h7, hh7⟩ : ∃ x, a0.l[s4_9]? = some x := ⟨_, List.getElem?_eq_getElem hlt⟩
   rw [Q.drop_of hh7, Z9_q7]
   refine Q.condT (Q.ltT hlt) ?_
   refine Q.bindPO hh7 fun x15 hx_x15 => ?_
   refine Q.bindPO hh7 fun x16 hx_x16 => ?_
   refine Q.bindPO hh7 fun x17 hx_x17 => ?_
   refine Q.bindO rfl fun x18 => ?_
   all_goals exact ih7 _ _ ⟨by omega, by omega⟩
  rw [List.drop_of_length_le (by omega), Z9_q7]
  refine Q.condF (Q.ltF hlt) ?_
  exact hend n7 s3_8 s4_9
def Z9_q (a0 : (Sl Token_Token)) : Option (Sl R04_Token) := Option.bind (Z9_q7  a0.l (Sl.nil : Sl R04_Token)) fun s3_8 => on (s3_8) fun s3_4 => some s3_4
theorem Z9_eq (a0 : (Sl Token_Token)) : Z9 a0 = Z9_q a0 := by
 unfold Z9 Z9_q
 refine Eq.trans ?_ (Q.some_bind _)
 refine Q.wrapOO fun Kb7 hKb7 => ?_
 refine Z9_l7_qe  Kb7 ?_ _ _ _ ⟨Nat.succ_pos _, by omega⟩
 intro n7 s3_8 s4_9
 refine Eq.trans ?_ (hKb7 _).symm
 refine Q.wrapPO fun Kj3 hKj3 => ?_
 have hj3 : ∀ (s3_4 : (Sl R04_Token)), Z9_j3  s3_4 = Kj3 s3_4 := by
  intro s3_4
  refine Eq.trans ?_ (hKj3 _).symm
  unfold Z9_j3
  all_goals rfl
 all_goals exact hj3 _
def Z17_q (a0 : Int) : Int := bif (decide (a0 < (10 : Int))) then ((IntKind.wrap .u8 ((48 : Int) + a0))) else ((IntKind.wrap .u8 ((87 : Int) + a0)))
theorem Z17_eq (a0 : Int) : Z17 a0 = some (Z17_q a0) := by
 unfold Z17 Z17_q
 refine Q.condP ?_ ?_
 ·all_goals rfl
 all_goals rfl
def Z16_q (a0 : Int) : Option Bs := bif (decide (a0 = (34 : Int))) then (some ([92, 34] : Bs)) else (bif (decide (a0 = (92 : Int))) then (some ([92, 92] : Bs)) else (bif (decide (a0 = (10 : Int))) then (some ([92, 110] : Bs)) else (bif (decide (a0 = (13 : Int))) then (some ([92, 114] : Bs)) else (bif (decide (a0 = (9 : Int))) then (some ([92, 116] : Bs)) else (bif ((decide (a0 < (32 : Int))) || (decide ((126 : Int) < a0))) then (on (Z17_q (IntKind.wrap .u8 (Int.tdiv a0 (16 : Int)))) fun x23 => on (Z17_q (Int.tmod a0 (16 : Int))) fun x24 => (catC ([92, 117, 48, 48] : Bs) (bytesC (⟨false, [x23, x24]⟩ : Sl Int))).bind fun x25 => some x25) else (some (bytesC (⟨false, [a0]⟩ : Sl Int))))))))
theorem Z16_eq (a0 : Int) : Z16 a0 = Z16_q a0 := by
 unfold Z16 Z16_q
 refine Eq.trans ?_ (Q.some_bind _)
 refine Q.condO ?_ ?_
 ·all_goals rfl
 refine Q.condO ?_ ?_
 ·all_goals rfl
 refine Q.condO ?_ ?_
 ·all_goals rfl
 refine Q.condO ?_ ?_
 ·all_goals rfl
 refine Q.condO ?_ ?_
 ·all_goals rfl
 refine Q.condO ?_ ?_
 ·refine Q.bindPO (Z17_eq _) fun x23 hx_x23 => ?_
  refine Q.bindPO (Z17_eq _) fun x24 hx_x24 => ?_
  refine Q.bindO rfl fun x25 => ?_
  all_goals rfl
 all_goals rfl
def Z12_q8  : List UInt8 → Bs → Option (Bs)
 | [], s3_9 => some s3_9
 | h8 :: r8, s3_9 => on (h8) fun x16 => (Z16_q ((x16.toNat : Nat) : Int)).bind fun x17 => (catC s3_9 x17).bind fun x18 => Z12_q8  (r8) x18
theorem Z12_l8_qe {a0 : Bs}  (Kb8 : (Bs) → Option Bs) (hend : ∀ (n8 : Nat) (s3_9 : Bs) (s4_10 : Nat), Z12_j3   s3_9 = Kb8 s3_9) : ∀ (n8 : Nat) (s3_9 : Bs) (s4_10 : Nat), (0 < n8 ∧ a0.length < s4_10 + n8) → Z12_l8 a0 n8 s3_9 s4_10 = Option.bind (Z12_q8  (a0.drop s4_10) s3_9) Kb8 := by
 intro n8
 induction n8 with
 | zero => intro s3_9 s4_10 hn; exact absurd hn.1 (by omega)
 | succ n8 ih8 =>
  intro s3_9 s4_10 hn
  rw [Z12_l8]
  by_cases hlt : s4_10 < a0.length
  ·obtain ⟨h8, hh8⟩ : ∃ x, a0[s4_10]? = some x := ⟨_, List.getElem?_eq_getElem hlt⟩
   rw [Q.drop_of hh8, Z12_q8]
   refine Q.condT (Q.ltT hlt) ?_
   refine Q.bindPO hh8 fun x16 hx_x16 => ?_
   refine Q.bindO (Z16_eq _) fun x17 => ?_
   refine Q.bindO rfl fun x18 => ?_
   all_goals exact ih8 _ _ ⟨by omega, by omega⟩
  rw [List.drop_of_length_le (by omega), Z12_q8]
  refine Q.condF (Q.ltF hlt) ?_
  exact hend n8 s3_9 s4_10
def Z12_q (a0 : Bs) : Option Bs := Option.bind (Z12_q8  a0 ([34] : Bs)) fun s3_9 => on (s3_9) fun s3_4 => (catC s3_4 ([34] : Bs)).bind fun x6 => some x6
theorem Z12_eq (a0 : Bs) : Z12 a0 = Z12_q a0 := by
 unfold Z12 Z12_q
 refine Eq.trans ?_ (Q.some_bind _)
 refine Q.wrapOO fun Kb8 hKb8 => ?_
 refine Z12_l8_qe  Kb8 ?_ _ _ _ ⟨Nat.succ_pos _, by omega⟩
 intro n8 s3_9 s4_10
 refine Eq.trans ?_ (hKb8 _).symm
 refine Q.wrapPO fun Kj3 hKj3 => ?_
 have hj3 : ∀ (s3_4 : Bs), Z12_j3  s3_4 = Kj3 s3_4 := by
  intro s3_4
  refine Eq.trans ?_ (hKj3 _).symm
  unfold Z12_j3
  refine Q.bindO rfl fun x6 => ?_
  all_goals rfl
 all_goals exact hj3 _
def Z21_q8  : List R04_Token → Bs → Bool → Option (Bs)
 | [], s3_9, s4_10 => some s3_9
 | h8 :: r8, s3_9, s4_10 => on (h8) fun x21 => Option.bind (bif (decide (x21.FKind = (5 : Int))) then (some (s3_9, s4_10)) else (Option.bind (bif (!s4_10) then ((catC s3_9 ([32] : Bs)).bind fun x36 => some x36) else (some s3_9)) fun s3_24 => on (h8) fun x27 => bif (decide (x27.FKind = (4 : Int))) then (on (h8) fun x29 => (Z12_q x29.FText).bind fun x30 => (catC s3_24 x30).bind fun x31 => some (x31, false)) else (on (h8) fun x32 => (catC s3_24 x32.FText).bind fun x33 => some (x33, false)))) fun z16 => Z21_q8  (r8) z16.1 z16.2
theorem Z21_l8_qe {a0 : (Sl R04_Token)}  (Kb8 : (Bs) → Option Bs) (hend : ∀ (n8 : Nat) (s3_9 : Bs) (s4_10 : Bool) (s5_11 : Nat), Z21_j4   s3_9 = Kb8 s3_9) : ∀ (n8 : Nat) (s3_9 : Bs) (s4_10 : Bool) (s5_11 : Nat), (0 < n8 ∧ a0.l.length < s5_11 + n8) → Z21_l8 a0 n8 s3_9 s4_10 s5_11 = Option.bind (Z21_q8  (a0.l.drop s5_11) s3_9 s4_10) Kb8 := by
 intro n8
 induction n8 with
 | zero => intro s3_9 s4_10 s5_11 hn; exact absurd hn.1 (by omega)
 | succ n8 ih8 =>
  intro s3_9 s4_10 s5_11 hn
  rw [Z21_l8]
  by_cases hlt : s5_11 < a0.l.length
  ·obtain ⟨h8, hh8⟩ : ∃ x, a0.l[s5_11]? = some x := ⟨_, List.getElem?_eq_getElem hlt⟩
   rw [Q.drop_of hh8, Z21_q8]
   refine Q.condT (Q.ltT hlt) ?_
   refine Q.bindPO hh8 fun x21 hx_x21 => ?_
   refine Q.wrapOO fun Kj16 hKj16 => ?_
   have hj16 : ∀ (s3_17 : Bs) (s4_18 : Bool), Z21_j16 s5_11 (Z21_l8 a0 n8) s3_17 s4_18 = Kj16 (s3_17, s4_18) := by
    intro s3_17 s4_18
    refine Eq.trans ?_ (hKj16 _).symm
    try dsimp only
    unfold Z21_j16
    all_goals exact ih8 _ _ _ ⟨by omega, by omega⟩
   refine Q.condO ?_ ?_
   ·all_goals exact hj16 _ _
   refine Q.wrapOO fun Kj23 hKj23 => ?_
   have hj23 : ∀ (s3_24 : Bs), Z21_j23 a0 s5_11 (Z21_l8 a0 n8) s3_24 = Kj23 s3_24 := by
    intro s3_24
    refine Eq.trans ?_ (hKj23 _).symm
    unfold Z21_j23
    refine Q.bindPO hh8 fun x27 hx_x27 => ?_
    refine Q.condO ?_ ?_
    ·refine Q.bindPO hh8 fun x29 hx_x29 => ?_
     refine Q.bindO (Z12_eq _) fun x30 => ?_
     refine Q.bindO rfl fun x31 => ?_
     all_goals exact hj16 _ _
    refine Q.bindPO hh8 fun x32 hx_x32 => ?_
    refine Q.bindO rfl fun x33 => ?_
    all_goals exact hj16 _ _
   refine Q.condO ?_ ?_
   ·refine Q.bindO rfl fun x36 => ?_
    all_goals exact hj23 _
   all_goals exact hj23 _
  rw [List.drop_of_length_le (by omega), Z21_q8]
  refine Q.condF (Q.ltF hlt) ?_
  exact hend n8 s3_9 s4_10 s5_11
def Z21_q (a0 : (Sl R04_Token)) : Option Bs := Option.bind (Z21_q8  a0.l ([] : Bs) true) fun s3_9 => on (s3_9) fun s3_5 => some s3_5
theorem Z21_eq (a0 : (Sl R04_Token)) : Z21 a0 = Z21_q a0 := by
 unfold Z21 Z21_q
 refine Eq.trans ?_ (Q.some_bind _)
 refine Q.wrapOO fun Kb8 hKb8 => ?_
 refine Z21_l8_qe  Kb8 ?_ _ _ _ _ ⟨Nat.succ_pos _, by omega⟩
 intro n8 s3_9 s4_10 s5_11
 refine Eq.trans ?_ (hKb8 _).symm
 refine Q.wrapPO fun Kj4 hKj4 => ?_
 have hj4 : ∀ (s3_5 : Bs), Z21_j4  s3_5 = Kj4 s3_5 := by
  intro s3_5
  refine Eq.trans ?_ (hKj4 _).symm
  unfold Z21_j4
  all_goals rfl
 all_goals exact hj4 _
def Z20_q11 (a1 : (Sl R04_Token)) : List R04_Token → Nat → Option (Unit ⊕ Bool)
 | [], s5_12 => some (Sum.inl ())
 | h11 :: r11, s5_12 => on (h11) fun x19 => (a1.l[s5_12]?).bind fun x20 => on (bif !(!decide (x19.FKind = x20.FKind)) then h11 else R04_Token.zero) fun x21 => guardO (!(!decide (x19.FKind = x20.FKind))) (a1.l[s5_12]?) R04_Token.zero fun x22 => bif ((!decide (x19.FKind = x20.FKind)) || (!(x21.FText == x22.FText))) then (some (Sum.inr false)) else (Z20_q11 a1 (r11) (s5_12 + 1) )
theorem Z20_l11_qe {a0 : (Sl R04_Token)} {a1 : (Sl R04_Token)}  (Kb11 : (Unit ⊕ Bool) → Option Bool) (hend : ∀ (n11 : Nat) (s5_12 : Nat), Z20_j8    = Kb11 (Sum.inl ())) (hret : ∀ e : Bool, some e = Kb11 (Sum.inr e)) : ∀ (n11 : Nat) (s5_12 : Nat), (0 < n11 ∧ a0.l.length < s5_12 + n11) → Z20_l11 a0 a1 n11 s5_12 = Option.bind (Z20_q11 a1 (a0.l.drop s5_12) s5_12 ) Kb11 := by
 intro n11
 induction n11 with
 | zero => intro s5_12 hn; exact absurd hn.1 (by omega)
 | succ n11 ih11 =>
  intro s5_12 hn
  rw [Z20_l11]
  by_cases hlt : s5_12 < a0.l.length
  ·obtain ⟨h11, hh11⟩ : ∃ x, a0.l[s5_12]? = some x := ⟨_, List.getElem?_eq_getElem hlt⟩
   rw [Q.drop_of hh11, Z20_q11]
   refine Q.condT (Q.ltT hlt) ?_
   refine Q.bindPO hh11 fun x19 hx_x19 => ?_
   refine Q.bindO rfl fun x20 => ?_
   refine Q.guardPO hh11 fun x21 hx_x21 => ?_
   refine Q.guardOO rfl fun x22 => ?_
   refine Q.condO ?_ ?_
   ·all_goals exact hret _
   all_goals exact ih11 _ ⟨by omega, by omega⟩
  rw [List.drop_of_length_le (by omega), Z20_q11]
  refine Q.condF (Q.ltF hlt) ?_
  exact hend n11 s5_12
def Z20_q (a0 : (Sl R04_Token)) (a1 : (Sl R04_Token)) : Option Bool := bif (!decide (((a0.l.length : Nat) : Int) = ((a1.l.length : Nat) : Int))) then (some false) else (Option.bind (Z20_q11 a1 a0.l 0 ) fun o11 => match o11 with | Sum.inl _ => (on (()) fun _ => some true) | Sum.inr e11 => (some e11))
theorem Z20_eq (a0 : (Sl R04_Token)) (a1 : (Sl R04_Token)) : Z20 a0 a1 = Z20_q a0 a1 := by
 unfold Z20 Z20_q
 refine Eq.trans ?_ (Q.some_bind _)
 refine Q.condO ?_ ?_
 ·all_goals rfl
 refine Q.wrapOO fun Kb11 hKb11 => ?_
 refine Z20_l11_qe  Kb11 ?_ ?_ _ _ ⟨Nat.succ_pos _, by omega⟩
 ·intro n11 s5_12
  refine Eq.trans ?_ (hKb11 _).symm
  try dsimp only
  refine Q.wrapPO fun Kj8 hKj8 => ?_
  have hj8 : Z20_j8   = Kj8 () := by
   refine Eq.trans ?_ (hKj8 _).symm
   unfold Z20_j8
   all_goals rfl
  all_goals exact hj8
 intro e11
 refine Eq.trans ?_ (hKb11 _).symm
 try dsimp only
 all_goals rfl
end Go.Proofs

namespace Go.Proofs
open Go Go.Ab
theorem some_nat {a b : Nat} (h : a = b) : some ((a : Nat) : Int) = some ((b : Nat) : Int) := by rw [h]
theorem idxC_nat {α : Type} (l : List α) (i : Nat) : idxC l (i : Int) = l[i]? := by unfold idxC; rw [if_pos (by omega)]; simp
theorem cut_from {s : Bs} {i : Nat} (h : i ≤ s.length) : cutC s (some (i : Int)) none = some (s.drop i) := by
 unfold cutC; rw [if_pos (by simp; omega)]; simp
theorem cut_part {s : Bs} {i j : Nat} (h : i ≤ j) (hj : j ≤ s.length) : cutC s (some (i : Int)) (some (j : Int)) = some ((s.drop i).take (j - i)) := by
 unfold cutC; rw [if_pos (by simp; omega)]
 simp only [Option.getD_some, Int.toNat_natCast]
 rw [List.drop_take]
theorem drop_cons {s : Bs} {i : Nat} {c : UInt8} (h : s[i]? = some c) : s.drop i = c :: s.drop (i + 1) := by
 obtain ⟨hi, rfl⟩ := List.getElem?_eq_some_iff.1 h
 exact List.drop_eq_getElem_cons hi
def isSp (c : UInt8) : Bool := decide (((c.toNat : Nat) : Int) = 32) || decide (((c.toNat : Nat) : Int) = 9) || decide (((c.toNat : Nat) : Int) = 10) || decide (((c.toNat : Nat) : Int) = 13) || decide (((c.toNat : Nat) : Int) = 44)
def isNl (c : UInt8) : Bool := decide (((c.toNat : Nat) : Int) = 10) || decide (((c.toNat : Nat) : Int) = 13)
def skN : Bool → Bs → Nat
 | _, [] => 0
 | false, c :: r => bif isSp c then 1 + skN false r else bif decide (((c.toNat : Nat) : Int) = 35) then 1 + skN true r else 0
 | true, c :: r => bif isNl c then 1 + skN false r else 1 + skN true r
theorem skN_le : ∀ (b : Bool) (l : Bs), skN b l ≤ l.length
 | b, [] => by cases b <;> simp [skN]
 | false, c :: r => by
  have h1 := skN_le false r; have h2 := skN_le true r
  rw [skN]; cases isSp c <;> cases decide (((c.toNat : Nat) : Int) = 35) <;> simp <;> omega
 | true, c :: r => by
  have h1 := skN_le false r; have h2 := skN_le true r
  rw [skN]; cases isNl c <;> simp <;> omega
theorem isNl_sp {c : UInt8} (h : isNl c = true) : isSp c = true := by
 unfold isNl at h; unfold isSp
 simp only [Bool.or_eq_true] at h ⊢
 rcases h with h | h
 ·exact .inl (.inl (.inr h))
 ·exact .inl (.inr h)
theorem contains_nl (c : UInt8) : ([10, 13] : Bs).contains c = isNl c := by
 unfold isNl
 rw [Bool.eq_iff_iff]
 simp only [List.contains_eq_mem, List.mem_cons, List.not_mem_nil, or_false, decide_eq_true_eq, Bool.or_eq_true]
 rw [← UInt8.toNat_inj, ← UInt8.toNat_inj]
 show (c.toNat = 10 ∨ c.toNat = 13) ↔ _
 omega
theorem indexAny_sk : ∀ l : Bs, (∃ k : Nat, Lib.indexAny l [10, 13] = (k : Int) ∧ k < l.length ∧ skN true l = k + skN false (l.drop k)) ∨ (Lib.indexAny l [10, 13] = -1 ∧ skN true l = l.length)
 | [] => .inr ⟨rfl, rfl⟩
 | c :: r => by
  rw [Lib.indexAny, contains_nl]
  cases h : isNl c
  ·rcases indexAny_sk r with ⟨k, h1, h2, h3⟩ | ⟨h1, h2⟩
   ·left
    refine ⟨k + 1, ?_, by simp; omega, ?_⟩
    ·rw [h1]; simp only [Bool.false_eq_true, if_false]; rw [if_neg (by simp)]; push_cast; rfl
    ·rw [skN, h, List.drop_succ_cons, h3]; simp; omega
   ·right
    rw [h1]
    refine ⟨by simp, ?_⟩
    rw [skN, h, h2]; simp; omega
  ·left
   refine ⟨0, by simp, by simp, ?_⟩
   rw [skN, h, List.drop_zero, skN, isNl_sp h]; simp
theorem skip_aux (s : Bs) (hs : s.length ≤ 1048576) : ∀ (n i : Nat), i ≤ s.length → s.length - i < n → Z52_l5 s n (i : Int) = some (((i + skN false (s.drop i) : Nat)) : Int)
 | 0, _, _, h => by omega
 | n + 1, i, hi, hn => by
  rw [Z52_l5]
  by_cases hlt : i < s.length
  ·have hd : decide ((i : Int) < ((s.length : Nat) : Int)) = true := decide_eq_true (by omega)
   obtain ⟨c, hc⟩ : ∃ c, s[i]? = some c := ⟨s[i], List.getElem?_eq_getElem hlt⟩
   have hdr := drop_cons hc
   have next : ∀ j : Nat, i < j → j ≤ s.length → Z52_l5 s n (j : Int) = some (((j + skN false (s.drop j) : Nat)) : Int) := fun j h1 h2 => skip_aux s hs n j h2 (by omega)
   have one : addC (i : Int) 1 = some (((i + 1 : Nat)) : Int) := by rw [addC_ok (by omega)]; rfl
   rw [hd, idxC_nat, hc, hdr, skN]
   simp only [Z52_j13, one]
   rw [cond_true, Option.bind_some]
   have sp : isSp c = true → Z52_l5 s n (((i + 1 : Nat)) : Int) = some (((i + (bif isSp c then 1 + skN false (s.drop (i + 1)) else bif decide (((c.toNat : Nat) : Int) = 35) then 1 + skN true (s.drop (i + 1)) else 0) : Nat)) : Int) := fun h => by
    rw [next (i + 1) (by omega) (by omega), h]
    simp only [cond_true]; exact some_nat (by omega)
   cases h1 : decide (((c.toNat : Nat) : Int) = 32)
   ·rw [cond_false]
    cases h2 : decide (((c.toNat : Nat) : Int) = 9)
    ·rw [cond_false]
     cases h3 : decide (((c.toNat : Nat) : Int) = 10)
     ·rw [cond_false]
      cases h4 : decide (((c.toNat : Nat) : Int) = 13)
      ·rw [cond_false]
       cases h5 : decide (((c.toNat : Nat) : Int) = 44)
       ·have hns : isSp c = false := by unfold isSp; rw [h1, h2, h3, h4, h5]; rfl
        have hnn : isNl c = false := by unfold isNl; rw [h3, h4]; rfl
        rw [hns, cond_false, cond_false]
        cases h6 : decide (((c.toNat : Nat) : Int) = 35)
        ·simp
        ·simp only [cond_true]
         rw [cut_from hi, Option.bind_some, hdr]
         have he : Z38 (c :: s.drop (i + 1)) [10, 13] = some (Lib.indexAny (c :: s.drop (i + 1)) [10, 13]) := by
          unfold Z38 idxAnyC
          rw [if_pos ⟨by decide, by decide, Nat.lt_of_le_of_lt (show (c :: s.drop (i + 1)).length ≤ 1048577 by simp; omega) (by decide), by decide⟩]
         rw [he, Option.bind_some]
         have hsk : skN true (c :: s.drop (i + 1)) = 1 + skN true (s.drop (i + 1)) := by rw [skN, hnn]; rfl
         rw [← hsk]
         rcases indexAny_sk (c :: s.drop (i + 1)) with ⟨k, g1, g2, g3⟩ | ⟨g1, g2⟩
         ·have hk0 : 0 < k := by
           rcases Nat.eq_zero_or_pos k with h | h
           ·subst h
            rw [Lib.indexAny, contains_nl, hnn] at g1
            simp at g1
            split at g1 <;> omega
           ·exact h
          rw [g1, show decide ((0 : Int) ≤ (k : Int)) = true from decide_eq_true (by omega)]
          simp only [cond_true]
          simp only [List.length_cons, List.length_drop] at g2
          rw [addC_ok (by omega), Option.bind_some, show ((i : Int) + (k : Int)) = ((i + k : Nat) : Int) by push_cast; rfl, next (i + k) (by omega) (by omega), g3, ← hdr, List.drop_drop]
          exact some_nat (by omega)
         ·rw [g1, show decide ((0 : Int) ≤ (-1 : Int)) = false from rfl]
          simp only [cond_false]
          rw [next s.length (by omega) (Nat.le_refl _), g2, List.drop_length]
          simp only [skN, List.length_cons, List.length_drop]
          exact some_nat (by omega)
       ·rw [cond_true]; exact sp (by unfold isSp; rw [h5]; simp)
      ·rw [cond_true]; exact sp (by unfold isSp; rw [h4]; simp)
     ·rw [cond_true]; exact sp (by unfold isSp; rw [h3]; simp)
    ·rw [cond_true]; exact sp (by unfold isSp; rw [h2]; simp)
   ·rw [cond_true]; exact sp (by unfold isSp; rw [h1]; simp)
  ·rw [show decide ((i : Int) < ((s.length : Nat) : Int)) = false from decide_eq_false (by omega), List.drop_eq_nil_of_le (by omega)]
   simp [Z52_j2, skN]
theorem skip_eq {s : Bs} (hs : s.length ≤ 1048576) {i : Nat} (hi : i ≤ s.length) : Z52 s (i : Int) = some (((i + skN false (s.drop i) : Nat)) : Int) := by
 unfold Z52; exact skip_aux s hs F0 i hi (by rw [F0_eq]; omega)
end Go.Proofs

namespace Go.Proofs
open Go Go.Ab
theorem wrap32 (c : UInt8) : IntKind.wrap .i32 ((c.toNat : Nat) : Int) = ((c.toNat : Nat) : Int) := by
 have h := c.toNat_lt
 simp [IntKind.wrap, IntKind.bits, IntKind.signed]
 omega
def isW (c : UInt8) : Bool := (((decide ((97 : Int) ≤ ((c.toNat : Nat) : Int)) && decide (((c.toNat : Nat) : Int) ≤ (122 : Int))) || (decide ((65 : Int) ≤ ((c.toNat : Nat) : Int)) && decide (((c.toNat : Nat) : Int) ≤ (90 : Int)))) || (decide ((48 : Int) ≤ ((c.toNat : Nat) : Int)) && decide (((c.toNat : Nat) : Int) ≤ (57 : Int)))) || decide (((c.toNat : Nat) : Int) = (95 : Int))
def isD (c : UInt8) : Bool := decide ((48 : Int) ≤ ((c.toNat : Nat) : Int)) && decide (((c.toNat : Nat) : Int) ≤ (57 : Int))
def isL (c : UInt8) : Bool := ((decide ((65 : Int) ≤ ((c.toNat : Nat) : Int)) && decide (((c.toNat : Nat) : Int) ≤ (90 : Int))) || (decide ((97 : Int) ≤ ((c.toNat : Nat) : Int)) && decide (((c.toNat : Nat) : Int) ≤ (122 : Int)))) || decide (((c.toNat : Nat) : Int) = (95 : Int))
theorem isW_eq (c : UInt8) : isW c = (isL c || isD c) := by
 unfold isW isL isD
 rw [Bool.eq_iff_iff]
 simp only [Bool.or_eq_true, Bool.and_eq_true, decide_eq_true_eq]
 constructor
 ·rintro (((h | h) | h) | h)
  ·exact .inl (.inl (.inr h))
  ·exact .inl (.inl (.inl h))
  ·exact .inr h
  ·exact .inl (.inr h)
 ·rintro (((h | h) | h) | h)
  ·exact .inl (.inl (.inr h))
  ·exact .inl (.inl (.inl h))
  ·exact .inr h
  ·exact .inl (.inr h)
theorem letter_eq (c : UInt8) : Z49 (IntKind.wrap .i32 ((c.toNat : Nat) : Int)) = some (isW c) := by rw [wrap32]; rfl
def wordN (l : Bs) : Nat := (l.takeWhile isW).length
theorem wordN_le (l : Bs) : wordN l ≤ l.length := by
 unfold wordN
 induction l with
 | nil => simp
 | cons a r ih => rw [List.takeWhile_cons]; split <;> simp <;> omega
theorem wordN_cons (c : UInt8) (r : Bs) : wordN (c :: r) = bif isW c then 1 + wordN r else 0 := by
 unfold wordN; rw [List.takeWhile_cons]; cases isW c <;> simp <;> omega
theorem span_aux (s : Bs) (hs : s.length ≤ 1048576) : ∀ (n i : Nat), i ≤ s.length → s.length - i < n → Z53_l5 s Z49 n (i : Int) = some (((i + wordN (s.drop i) : Nat)) : Int)
 | 0, _, _, h => by omega
 | n + 1, i, hi, hn => by
  rw [Z53_l5]
  by_cases hlt : i < s.length
  ·have hd : decide ((i : Int) < ((s.length : Nat) : Int)) = true := decide_eq_true (by omega)
   obtain ⟨c, hc⟩ : ∃ c, s[i]? = some c := ⟨s[i], List.getElem?_eq_getElem hlt⟩
   have one : addC (i : Int) 1 = some (((i + 1 : Nat)) : Int) := by rw [addC_ok (by omega)]; rfl
   have ih := span_aux s hs n (i + 1) (by omega) (by omega)
   rw [hd, idxC_nat, hc, one, drop_cons hc, wordN_cons]
   simp only [guardO, if_true, Option.bind_some, letter_eq, Bool.true_and]
   cases isW c
   ·simp [Z53_j2]
   ·simp only [cond_true]
    rw [ih]; exact some_nat (by omega)
  ·rw [show decide ((i : Int) < ((s.length : Nat) : Int)) = false from decide_eq_false (by omega), List.drop_eq_nil_of_le (by omega)]
   simp [guardO, Z53_j2, wordN]
theorem span_eq {s : Bs} (hs : s.length ≤ 1048576) {i : Nat} (hi : i ≤ s.length) : Z53 s (i : Int) Z49 = some (((i + wordN (s.drop i) : Nat)) : Int) := by
 unfold Z53; exact span_aux s hs F0 i hi (by rw [F0_eq]; omega)
def litN : Bool → Bs → Option Nat
 | _, [] => none
 | true, _ :: r => (litN false r).map (· + 1)
 | false, c :: r => bif decide (((c.toNat : Nat) : Int) = 34) then some 1 else (litN (decide (((c.toNat : Nat) : Int) = 92)) r).map (· + 1)
theorem litN_le : ∀ (b : Bool) (l : Bs) (k : Nat), litN b l = some k → 1 ≤ k ∧ k ≤ l.length
 | _, [], _, h => by cases h
 | true, _ :: r, k, h => by
  rw [litN] at h
  obtain ⟨m, h1, rfl⟩ := Option.map_eq_some_iff.1 h
  have := litN_le false r m h1
  simp; omega
 | false, c :: r, k, h => by
  rw [litN] at h
  cases hc : decide (((c.toNat : Nat) : Int) = 34)
  ·rw [hc] at h
   obtain ⟨m, h1, rfl⟩ := Option.map_eq_some_iff.1 h
   have := litN_le _ r m h1
   simp; omega
  ·rw [hc] at h
   simp only [cond_true, Option.some.injEq] at h
   subst h; simp
def litR (s : Bs) (i : Nat) (b : Bool) : Int := match litN b (s.drop i) with | some k => ((i + k : Nat) : Int) | none => -1
theorem lit_aux (s : Bs) (hs : s.length ≤ 1048576) : ∀ (n i : Nat) (sk : Bool), i ≤ s.length → s.length - i < n → ∃ r, token_litSpan s n (i : Int) sk = some r ∧ ((∃ j : Nat, r.1 = (j : Int) ∧ j < s.length ∧ litR s i sk = ((j + 1 : Nat) : Int)) ∨ (r.1 = ((s.length : Nat) : Int) ∧ litR s i sk = -1))
 | 0, _, _, _, h => by omega
 | n + 1, i, sk, hi, hn => by
  rw [token_litSpan]
  by_cases hlt : i < s.length
  ·have hd : decide ((i : Int) < ((s.length : Nat) : Int)) = true := decide_eq_true (by omega)
   obtain ⟨c, hc⟩ : ∃ c, s[i]? = some c := ⟨s[i], List.getElem?_eq_getElem hlt⟩
   have one : addC (i : Int) 1 = some (((i + 1 : Nat)) : Int) := by rw [addC_ok (by omega)]; rfl
   have ih := fun sk => lit_aux s hs n (i + 1) sk (by omega) (by omega)
   rw [hd, idxC_nat, hc, one]
   simp only [cond_true, Option.bind_some, wrap32]
   have go : ∀ sk' : Bool, litN sk (s.drop i) = (litN sk' (s.drop (i + 1))).map (· + 1) → litR s i sk = litR s (i + 1) sk' := fun sk' h => by
    unfold litR
    rw [h]
    cases litN sk' (s.drop (i + 1)) with
    | none => rfl
    | some k => simp only [Option.map_some]; exact congrArg _ (by omega)
   cases sk with
   | true =>
    simp only [token_litStep, cond_true]
    obtain ⟨r, h1, h2⟩ := ih false
    rw [go false (by rw [drop_cons hc, litN])]
    exact ⟨r, h1, h2⟩
   | false =>
    simp only [token_litStep, cond_false]
    cases h34 : decide (((c.toNat : Nat) : Int) = 34)
    ·simp only [Bool.not_false, cond_true]
     obtain ⟨r, h1, h2⟩ := ih (decide (((c.toNat : Nat) : Int) = 92))
     rw [go _ (by rw [drop_cons hc, litN, h34]; rfl)]
     exact ⟨r, h1, h2⟩
    ·simp only [Bool.not_true, cond_false]
     refine ⟨_, rfl, .inl ⟨i, rfl, hlt, ?_⟩⟩
     unfold litR
     rw [drop_cons hc, litN, h34]; rfl
  ·rw [show decide ((i : Int) < ((s.length : Nat) : Int)) = false from decide_eq_false (by omega)]
   refine ⟨_, rfl, .inr ⟨?_, ?_⟩⟩
   ·simp only; omega
   ·unfold litR; rw [List.drop_eq_nil_of_le (by omega)]; cases sk <;> rfl
theorem literal_eq {s : Bs} (hs : s.length ≤ 1048576) {i : Nat} (hi : i < s.length) : Z50 s (i : Int) = some (litR s (i + 1) false) := by
 unfold Z50
 have one : addC (i : Int) 1 = some (((i + 1 : Nat)) : Int) := by rw [addC_ok (by omega)]; rfl
 obtain ⟨r, h1, h2⟩ := lit_aux s hs F0 (i + 1) false (by omega) (by rw [F0_eq]; omega)
 rw [one, Option.bind_some, h1, Option.bind_some]
 rcases h2 with ⟨j, h2, h3, h4⟩ | ⟨h2, h4⟩
 ·rw [h2, h4, show decide (((s.length : Nat) : Int) ≤ (j : Int)) = false from decide_eq_false (by omega), cond_false, addC_ok (by omega)]; rfl
 ·rw [h2, h4, show decide (((s.length : Nat) : Int) ≤ ((s.length : Nat) : Int)) = true from decide_eq_true (by omega), cond_true]
end Go.Proofs

namespace Go.Proofs
open Go Go.Ab
def lim63 : Nat := 9223372036854775808
def stepF (a : Nat) (c : UInt8) : Nat := a * 10 + (c.toNat - 48)
def valF (a : Nat) (l : Bs) : Nat := l.foldl stepF a
theorem valF_cons (a : Nat) (c : UInt8) (r : Bs) : valF a (c :: r) = valF (a * 10 + (c.toNat - 48)) r := by
 unfold valF
 rw [List.foldl_cons]
 unfold stepF
 exact Eq.refl _
theorem valF_ge : ∀ (l : Bs) (a : Nat), a ≤ valF a l
 | [], a => Nat.le_refl _
 | c :: r, a => by rw [valF_cons]; have := valF_ge r (a * 10 + (c.toNat - 48)); omega
theorem isD_nat {c : UInt8} (h : isD c = true) : 48 ≤ c.toNat ∧ c.toNat ≤ 57 := by
 unfold isD at h; simp only [Bool.and_eq_true, decide_eq_true_eq] at h; omega
theorem parse_val : ∀ (t : Bs) (a : Nat), t.all isD = true → a < 18446744073709551616 → (Lib.parseUint10 a t = .ok (valF a t) ∧ valF a t < 18446744073709551616) ∨ (Lib.parseUint10 a t = .range ∧ 18446744073709551616 ≤ valF a t)
 | [], a, _, h => .inl ⟨rfl, h⟩
 | c :: r, a, hd, h => by
  simp only [List.all_cons, Bool.and_eq_true] at hd
  have hc := isD_nat hd.1
  have hg := valF_ge r (a * 10 + (c.toNat - 48))
  rw [Lib.parseUint10, if_pos hc, valF_cons]
  by_cases h1 : 1844674407370955162 ≤ a
  ·right; rw [if_pos h1]; exact ⟨rfl, by omega⟩
  ·rw [if_neg h1]
   by_cases h2 : 18446744073709551616 ≤ a * 10 + (c.toNat - 48)
   ·right; rw [if_pos h2]; exact ⟨rfl, by omega⟩
   ·rw [if_neg h2]; exact parse_val r _ hd.2 (by omega)
def negB (s : Bs) : Bool := s.head? == some 45
def magB (s : Bs) : Bs := bif negB s then s.tail else s
def numE (s : Bs) : Int := bif (magB s).isEmpty || ((magB s).head? == some 48 && (decide (1 < (magB s).length) || negB s)) then 3 else bif !(magB s).all isD then 3 else bif decide ((bif negB s then lim63 else lim63 - 1) < valF 0 (magB s)) then 4 else 0
theorem trim_eq (s : Bs) : Z42_q s [45] = some (magB s) := by
 unfold Z42_q Z1_q Z0_q magB negB
 cases s with
 | nil => rfl
 | cons c r =>
  have h1 : decide ((([45] : Bs).length : Int) ≤ (((c :: r : Bs).length : Nat) : Int)) = true := decide_eq_true (by simp only [List.length_cons, List.length_nil]; omega)
  simp only [Ab.on, h1, cond_true, Bool.true_and, List.head?_cons, List.tail_cons]
  have h2 : List.take ([45] : Bs).length (c :: r) = [c] := rfl
  rw [h2]
  by_cases h : c = 45
  ·subst h
   rw [show (([45] : Bs) == [45]) = true from rfl, show (some (45 : UInt8) == some 45) = true from rfl]
   simp only [cond_true]
   rw [show (some ((([45] : Bs).length : Nat) : Int)) = some (((1 : Nat) : Int)) from rfl, cut_from (by simp)]; rfl
  ·have h3 : (([c] : Bs) == [45]) = false := by simpa using h
   have h4 : (some c == some 45) = false := by simpa using h
   rw [h3, h4]; rfl
theorem tdig_eq : ∀ l : Bs, Z43_q19 l = bif l.all isD then Sum.inl () else Sum.inr (0, 3)
 | [] => rfl
 | c :: r => by
  rw [Z43_q19, tdig_eq r]
  simp only [Ab.on, List.all_cons]
  unfold isD
  by_cases h1 : ((c.toNat : Nat) : Int) < 48
  ·rw [show decide (((c.toNat : Nat) : Int) < 48) = true from decide_eq_true h1, show decide ((48 : Int) ≤ ((c.toNat : Nat) : Int)) = false from decide_eq_false (by omega)]; rfl
  ·rw [show decide (((c.toNat : Nat) : Int) < 48) = false from decide_eq_false h1, show decide ((48 : Int) ≤ ((c.toNat : Nat) : Int)) = true from decide_eq_true (by omega)]
   by_cases h2 : (57 : Int) < ((c.toNat : Nat) : Int)
   ·rw [show decide (((c.toNat : Nat) : Int) ≤ 57) = false from decide_eq_false (by omega)]; simp [h2]
   ·rw [show decide (((c.toNat : Nat) : Int) ≤ 57) = true from decide_eq_true (by omega)]; simp [h2]
theorem mag_cases (s : Bs) : (negB s = true ∧ ∃ r, s = 45 :: r ∧ magB s = r) ∨ (negB s = false ∧ magB s = s) := by
 unfold magB negB
 cases s with
 | nil => exact .inr ⟨rfl, rfl⟩
 | cons c r =>
  by_cases h : c = 45
  ·subst h; exact .inl ⟨rfl, r, rfl, rfl⟩
  ·have h4 : (some c == some 45) = false := by simpa using h
   right; simp only [List.head?_cons, h4]; exact ⟨trivial, rfl⟩
theorem atoi_num {s : Bs} (hl : s.length ≤ 1048577) (hne : magB s ≠ []) (hd : (magB s).all isD = true) : ∃ v, Z31_q s = some (v, decide ((bif negB s then lim63 else lim63 - 1) < valF 0 (magB s))) := by
 unfold Z31_q Z31 atoiC
 rw [if_pos (Nat.le_trans hl (by decide))]
 rcases mag_cases s with ⟨hn, r, rfl, hm⟩ | ⟨hn, hm⟩
 ·rw [hm] at hne hd ⊢
  rw [hn]
  have e : Lib.atoiAll (45 :: r) = (match Lib.parseUint10 0 r with | .syntax => .syntax | .range => .range | .ok u => if ¬ True ∧ 9223372036854775808 ≤ u then .range else if True ∧ 9223372036854775808 < u then .range else .ok (if True then -(u : Int) else u)) := by
   unfold Lib.atoiAll Lib.parseMag
   dsimp only
   rw [if_pos (show (45 : UInt8).toNat = 43 ∨ (45 : UInt8).toNat = 45 from .inr rfl), if_neg hne]
   simp only [show ((45 : UInt8).toNat = 45) = True from eq_true rfl]
   cases Lib.parseUint10 0 r <;> simp
  rw [e]
  rcases parse_val r 0 hd (by decide) with ⟨h1, h2⟩ | ⟨h1, h2⟩
  ·rw [h1]
   by_cases h3 : 9223372036854775808 < valF 0 r
   ·exact ⟨Lib.atoiSat (45 :: r), by simp only [not_true_eq_false, false_and, if_false, true_and, h3, if_true, cond_true]; rw [decide_eq_true (show lim63 < valF 0 r from h3)]⟩
   ·exact ⟨_, by simp only [not_true_eq_false, false_and, if_false, true_and, h3, if_true, cond_true]; rw [decide_eq_false (show ¬ lim63 < valF 0 r from h3)]⟩
  ·rw [h1]
   exact ⟨_, by simp only [cond_true]; rw [decide_eq_true (show lim63 < valF 0 r by unfold lim63; omega)]⟩
 ·rw [hm] at hne hd ⊢
  rw [hn]
  cases s with
  | nil => exact absurd rfl hne
  | cons c r =>
   simp only [List.all_cons, Bool.and_eq_true] at hd
   have hc := isD_nat hd.1
   have hd' : (c :: r).all isD = true := by simp [hd.1, hd.2]
   have e : Lib.atoiAll (c :: r) = (match Lib.parseUint10 0 (c :: r) with | .syntax => .syntax | .range => .range | .ok u => if ¬ False ∧ 9223372036854775808 ≤ u then .range else if False ∧ 9223372036854775808 < u then .range else .ok (if False then -(u : Int) else u)) := by
    unfold Lib.atoiAll Lib.parseMag
    have h45 : (c.toNat = 45) = False := eq_false (by omega)
    dsimp only
    rw [if_neg (show ¬ (c.toNat = 43 ∨ c.toNat = 45) by omega), if_neg hne]
    simp only [h45]
    cases Lib.parseUint10 0 (c :: r) <;> simp
   rw [e]
   rcases parse_val (c :: r) 0 hd' (by decide) with ⟨h1, h2⟩ | ⟨h1, h2⟩
   ·rw [h1]
    by_cases h3 : 9223372036854775808 ≤ valF 0 (c :: r)
    ·exact ⟨_, by simp only [not_false_eq_true, true_and, h3, if_true, cond_false]; rw [decide_eq_true (show lim63 - 1 < valF 0 (c :: r) by unfold lim63; omega)]⟩
    ·exact ⟨_, by simp only [not_false_eq_true, true_and, h3, if_false, false_and, cond_false]; rw [decide_eq_false (show ¬ lim63 - 1 < valF 0 (c :: r) by unfold lim63; omega)]⟩
   ·rw [h1]
    exact ⟨_, by simp only [cond_false]; rw [decide_eq_true (show lim63 - 1 < valF 0 (c :: r) by unfold lim63; omega)]⟩
theorem tnum_eq {s : Bs} (hl : s.length ≤ 1048577) : ∃ v, Z43 s = some (v, numE s) := by
 rw [Z43_eq]
 unfold Z43_q
 rw [trim_eq, Option.bind_some, tdig_eq]
 unfold numE
 cases hm : magB s with
 | nil => exact ⟨0, rfl⟩
 | cons c r =>
  rw [show ((c :: r : Bs) == []) = false from rfl, show ((c :: r : Bs)[0]?) = some c from rfl]
  simp only [guardO, Bool.not_false, if_true, Option.bind_some, Bool.false_or, List.isEmpty_cons, List.head?_cons]
  have h48 : decide (((c.toNat : Nat) : Int) = 48) = (some c == some 48) := by
   rw [Bool.eq_iff_iff, decide_eq_true_eq]
   simp only [Option.some_beq_some, beq_iff_eq]
   rw [← UInt8.toNat_inj]
   show _ ↔ c.toNat = 48
   omega
  have hlen : (decide ((1 : Int) < (((c :: r : Bs).length : Nat) : Int)) || decide ((1 : Int) < ((s.length : Nat) : Int))) = (decide (1 < (c :: r : Bs).length) || negB s) := by
   rcases mag_cases s with ⟨hn, r', rfl, hm'⟩ | ⟨hn, hm'⟩
   ·rw [hn, Bool.or_true]
    rw [hm'] at hm; subst hm
    rw [show decide ((1 : Int) < (((45 :: c :: r : Bs).length : Nat) : Int)) = true from decide_eq_true (by simp only [List.length_cons]; omega), Bool.or_true]
   ·rw [hn, Bool.or_false, ← hm', hm, Bool.or_self, Bool.eq_iff_iff, decide_eq_true_eq, decide_eq_true_eq]; omega
  rw [h48, hlen]
  cases hx : (some c == some 48 && (decide (1 < (c :: r : Bs).length) || negB s))
  ·simp only [cond_false]
   cases hd : (c :: r : Bs).all isD
   ·exact ⟨0, rfl⟩
   ·simp only [Ab.on, cond_true, Bool.not_true, cond_false]
    obtain ⟨v, e⟩ := atoi_num hl (by rw [hm]; simp) (by rw [hm]; exact hd)
    rw [hm] at e
    rw [e, Option.bind_some]
    cases decide ((bif negB s then lim63 else lim63 - 1) < valF 0 (c :: r))
    ·exact ⟨v, rfl⟩
    ·exact ⟨0, rfl⟩
  ·exact ⟨0, rfl⟩
end Go.Proofs

namespace Go.Proofs
open Go Go.Ab
def hexS : Bs := [48, 49, 50, 51, 52, 53, 54, 55, 56, 57, 97, 98, 99, 100, 101, 102]
def hvV (n : Int) : Int := (Z19 n).getD (-2)
def ixV (n : Int) : Int := Lib.indexByte hexS (IntKind.wrap .u8 ((BitVec.ofInt (IntKind.bits .u8) n ||| BitVec.ofInt (IntKind.bits .u8) (32 : Int)).toNat : Int)).toNat.toUInt8
def badV (n : Int) : Bool := ((decide (ixV n < (0 : Int))) || (decide (n < (48 : Int)))) || ((decide ((57 : Int) < n)) && (decide (n < (65 : Int))))
theorem hex_tab : (List.range 256).all (fun n => (Z19 (n : Int) == some (hvV (n : Int))) && ((badV (n : Int) == decide (hvV (n : Int) < 0)) && ((decide (hvV (n : Int) < 0) || decide (ixV (n : Int) = hvV (n : Int))) && (decide (-1 ≤ hvV (n : Int)) && decide (hvV (n : Int) ≤ 15))))) = true := by
 set_option maxRecDepth 100000 in kernel_rfl
theorem hex_at (c : UInt8) : Z19 ((c.toNat : Nat) : Int) = some (hvV ((c.toNat : Nat) : Int)) ∧ badV ((c.toNat : Nat) : Int) = decide (hvV ((c.toNat : Nat) : Int) < 0) ∧ (hvV ((c.toNat : Nat) : Int) < 0 ∨ ixV ((c.toNat : Nat) : Int) = hvV ((c.toNat : Nat) : Int)) ∧ -1 ≤ hvV ((c.toNat : Nat) : Int) ∧ hvV ((c.toNat : Nat) : Int) ≤ 15 := by
 have h := List.all_eq_true.1 hex_tab c.toNat (List.mem_range.2 c.toNat_lt)
 simp only [Bool.and_eq_true, Bool.or_eq_true, decide_eq_true_eq, beq_iff_eq] at h
 exact ⟨h.1, h.2.1, h.2.2.1, h.2.2.2.1, h.2.2.2.2⟩
def plV (n : Int) : Int × Bool := (Z46 n).getD (0, false)
theorem pl_tab : (List.range 256).all (fun n => (Z46 (n : Int) == some (plV (n : Int))) && (decide (0 ≤ (plV (n : Int)).1) && decide ((plV (n : Int)).1 < 256))) = true := by
 set_option maxRecDepth 100000 in kernel_rfl
theorem pl_at (c : UInt8) : Z46 ((c.toNat : Nat) : Int) = some (plV ((c.toNat : Nat) : Int)) ∧ 0 ≤ (plV ((c.toNat : Nat) : Int)).1 ∧ (plV ((c.toNat : Nat) : Int)).1 < 256 := by
 have h := List.all_eq_true.1 pl_tab c.toNat (List.mem_range.2 c.toNat_lt)
 simp only [Bool.and_eq_true, decide_eq_true_eq, beq_iff_eq] at h
 exact ⟨h.1, h.2.1, h.2.2⟩
theorem simple_plain (n : Int) : Z18 n = Z46 n := rfl
def Rp (B : Strings_Builder) (l : Bs) : Prop := (l = [] ∧ B.Fbuf = ⟨true, []⟩) ∨ (l ≠ [] ∧ B.Fbuf = ⟨false, l.map fun b => (b.toNat : Int)⟩)
theorem Rp.buf {B : Strings_Builder} {l : Bs} (h : Rp B l) : B.Fbuf.l = l.map fun b => (b.toNat : Int) := by
 rcases h with ⟨rfl, h⟩ | ⟨_, h⟩ <;> rw [h]; rfl
theorem byte_cast {n : Int} (h0 : 0 ≤ n) (h1 : n < 256) : ((UInt8.ofNat n.toNat).toNat : Int) = n := by
 rw [UInt8.toNat_ofNat', Nat.mod_eq_of_lt (by omega)]; omega
theorem Rp.wb {B : Strings_Builder} {l : Bs} (h : Rp B l) {n : Int} (h0 : 0 ≤ n) (h1 : n < 256) (hl : l.length ≤ 1048576) : ∃ B', Z33 B n = some (false, B') ∧ Rp B' (l ++ [UInt8.ofNat n.toNat]) := by
 refine ⟨⟨true, ⟨false, (l ++ [UInt8.ofNat n.toNat]).map fun b => (b.toNat : Int)⟩⟩, ?_, .inr ⟨by simp, rfl⟩⟩
 have hb := h.buf
 have hlen : B.Fbuf.l.length = l.length := by rw [hb, List.length_map]
 unfold Z33 Z35 appC
 simp only [Option.bind_some]
 rw [if_pos (by rw [hlen]; simp only [List.length_cons, List.length_nil]; unfold maxN; omega)]
 simp only [Option.bind_some, hb, List.map_append, List.map_cons, List.map_nil, byte_cast h0 h1, List.isEmpty_cons, Bool.and_false]
theorem Rp.str {B : Strings_Builder} {l : Bs} (h : Rp B l) : Z32 B = some l := by
 unfold Z32 bldStr
 rw [if_pos]
 ·refine congrArg some ?_
  unfold bytesC
  rw [h.buf, List.map_map]
  conv => rhs; rw [← List.map_id l]
  refine List.map_congr_left fun b _ => ?_
  simp
 ·refine ⟨?_, ?_⟩
  ·rw [h.buf, List.all_map, List.all_eq_true]
   intro b _
   have := b.toNat_lt
   simp; omega
  ·rcases h with ⟨_, h⟩ | ⟨h2, h⟩
   ·rw [h]; exact .inl ⟨rfl, rfl⟩
   ·rw [h]; exact .inr ⟨rfl, by simpa using h2⟩
theorem cat_one {l : Bs} {n : Int} (hl : l.length ≤ 1048576) : catC l (bytesC (⟨false, [n]⟩ : Sl Int)) = some (l ++ [UInt8.ofNat n.toNat]) := by
 unfold catC bytesC
 rw [if_pos (by simp only [List.map_cons, List.map_nil, List.length_cons, List.length_nil]; unfold maxS; omega)]
 rfl
def hex4 (a b c d : Int) : Int := bif decide (hvV a < 0) || (decide (hvV b < 0) || (decide (hvV c < 0) || decide (hvV d < 0))) then -1 else ((hvV a * 16 + hvV b) * 16 + hvV c) * 16 + hvV d
theorem code_step (s : Bs) (n : Nat) (v : Int) (i : Nat) (c : UInt8) (hc : s[i]? = some c) (h4 : i < 4) (h0 : 0 ≤ v) (h1 : v ≤ 65536) : Z14_l12 s (n + 1) v (i : Int) = bif decide (hvV ((c.toNat : Nat) : Int) < 0) then some (-1) else Z14_l12 s n (v * 16 + hvV ((c.toNat : Nat) : Int)) ((i + 1 : Nat) : Int) := by
 obtain ⟨e1, -, -, e4, e5⟩ := hex_at c
 have m1 : mulC 16 v = some (v * 16) := by unfold mulC; rw [if_pos (by omega), Int.mul_comm]
 have one : addC (i : Int) 1 = some (((i + 1 : Nat)) : Int) := by rw [addC_ok (by omega)]; rfl
 have two : addC (v * 16) (hvV ((c.toNat : Nat) : Int)) = some (v * 16 + hvV ((c.toNat : Nat) : Int)) := addC_ok (by omega)
 rw [Z14_l12, show decide ((i : Int) < 4) = true from decide_eq_true (by omega), idxC_nat, hc, cond_true, Option.bind_some, e1, Option.bind_some]
 rw [m1, Option.bind_some, Option.bind_some, e1, Option.bind_some, two, Option.bind_some, one, Option.bind_some]
theorem code_eq (a b c d : UInt8) : Z14 [a, b, c, d] = some (hex4 (a.toNat : Nat) (b.toNat : Nat) (c.toNat : Nat) (d.toNat : Nat)) := by
 obtain ⟨-, -, -, a4, a5⟩ := hex_at a
 obtain ⟨-, -, -, b4, b5⟩ := hex_at b
 obtain ⟨-, -, -, c4, c5⟩ := hex_at c
 obtain ⟨-, -, -, d4, d5⟩ := hex_at d
 unfold Z14
 rw [show (!decide ((((([a, b, c, d] : Bs).length : Nat)) : Int) = 4)) = false from rfl, cond_false]
 obtain ⟨m, hm⟩ : ∃ m, F0 = m + 1 + 1 + 1 + 1 + 1 := ⟨4611686018427387899, by rw [F0_eq]⟩
 rw [hm]
 unfold hex4
 have s1 := code_step [a, b, c, d] (m + 1 + 1 + 1 + 1) 0 0 a rfl (by omega) (by omega) (by omega)
 rw [show (((0 : Nat) : Int)) = 0 from rfl] at s1
 rw [s1]
 cases ha : decide (hvV ((a.toNat : Nat) : Int) < 0)
 ·have ha := of_decide_eq_false ha
  rw [cond_false, code_step [a, b, c, d] (m + 1 + 1 + 1) _ 1 b rfl (by omega) (by omega) (by omega)]
  cases hb : decide (hvV ((b.toNat : Nat) : Int) < 0)
  ·have hb := of_decide_eq_false hb
   rw [cond_false, code_step [a, b, c, d] (m + 1 + 1) _ 2 c rfl (by omega) (by omega) (by omega)]
   cases hc : decide (hvV ((c.toNat : Nat) : Int) < 0)
   ·have hc := of_decide_eq_false hc
    rw [cond_false, code_step [a, b, c, d] (m + 1) _ 3 d rfl (by omega) (by omega) (by omega)]
    cases hd : decide (hvV ((d.toNat : Nat) : Int) < 0)
    ·rw [cond_false, Z14_l12]
     have e : (0 * 16 + hvV ((a.toNat : Nat) : Int)) = hvV ((a.toNat : Nat) : Int) := by omega
     rw [e]
     rfl
    ·rfl
   ·rfl
  ·rfl
 ·rfl
theorem hexT_step (y : Strings_Builder) (j : Int) (s : Sl Int) (k : Int → Strings_Builder → Option (Bs × Int)) (n : Nat) (v : Int) (i : Nat) (c : UInt8) (hc : s.l[i]? = some ((c.toNat : Nat) : Int)) (h0 : 0 ≤ v) (h1 : v ≤ 65536) : Z45_l81 y j s k (n + 1) v i = bif decide (hvV ((c.toNat : Nat) : Int) < 0) then some ([], 3) else Z45_l81 y j s k n (v * 16 + hvV ((c.toNat : Nat) : Int)) (i + 1) := by
 obtain ⟨-, e2, e3, e4, e5⟩ := hex_at c
 have hi := (List.getElem?_eq_some_iff.1 hc).1
 rw [Z45_l81, show decide (((i : Nat) : Int) < ((s.l.length : Nat) : Int)) = true from decide_eq_true (by omega), hc]
 have ei : ∀ f : Int → Option (Bs × Int), (Z39 ([48, 49, 50, 51, 52, 53, 54, 55, 56, 57, 97, 98, 99, 100, 101, 102] : Bs) (IntKind.wrap .u8 ((BitVec.ofInt (IntKind.bits .u8) ((c.toNat : Nat) : Int) ||| BitVec.ofInt (IntKind.bits .u8) (32 : Int)).toNat : Int))).bind f = f (ixV ((c.toNat : Nat) : Int)) := fun _ => rfl
 simp only [cond_true, Option.bind_some]
 rw [ei]
 rw [show ((((decide (ixV ((c.toNat : Nat) : Int) < (0 : Int))) || (decide (((c.toNat : Nat) : Int) < (48 : Int)))) || ((decide ((57 : Int) < ((c.toNat : Nat) : Int))) && (decide (((c.toNat : Nat) : Int) < (65 : Int)))))) = decide (hvV ((c.toNat : Nat) : Int) < 0) from e2]
 cases hv : decide (hvV ((c.toNat : Nat) : Int) < 0)
 ·have hv := of_decide_eq_false hv
  have e3 : ixV ((c.toNat : Nat) : Int) = hvV ((c.toNat : Nat) : Int) := e3.resolve_left hv
  have m1 : mulC v 16 = some (v * 16) := by unfold mulC; rw [if_pos (by omega)]
  rw [cond_false, cond_false, m1, Option.bind_some, e3, addC_ok (by omega), Option.bind_some]
 ·rfl
theorem hexT_eq (y : Strings_Builder) (j : Int) (a b c d : UInt8) (k : Int → Strings_Builder → Option (Bs × Int)) : Z45_l81 y j (strSl [a, b, c, d]) k ((strSl [a, b, c, d]).l.length + 1) 0 0 = bif decide (hex4 (a.toNat : Nat) (b.toNat : Nat) (c.toNat : Nat) (d.toNat : Nat) < 0) || decide (255 < hex4 (a.toNat : Nat) (b.toNat : Nat) (c.toNat : Nat) (d.toNat : Nat)) then some ([], 3) else (Z33 y (IntKind.wrap .u8 (hex4 (a.toNat : Nat) (b.toNat : Nat) (c.toNat : Nat) (d.toNat : Nat)))).bind fun x73 => (addC j (4 : Int)).bind fun x74 => Z45_j29 k x74 x73.2 := by
 obtain ⟨-, -, -, a4, a5⟩ := hex_at a
 obtain ⟨-, -, -, b4, b5⟩ := hex_at b
 obtain ⟨-, -, -, c4, c5⟩ := hex_at c
 obtain ⟨-, -, -, d4, d5⟩ := hex_at d
 show Z45_l81 y j (strSl [a, b, c, d]) k (0 + 1 + 1 + 1 + 1 + 1) 0 0 = _
 rw [hexT_step y j (strSl [a, b, c, d]) k _ 0 0 a rfl (by omega) (by omega)]
 cases ha : decide (hvV ((a.toNat : Nat) : Int) < 0)
 ·have ha' := of_decide_eq_false ha
  rw [cond_false, hexT_step y j (strSl [a, b, c, d]) k _ _ 1 b rfl (by omega) (by omega)]
  cases hb : decide (hvV ((b.toNat : Nat) : Int) < 0)
  ·have hb' := of_decide_eq_false hb
   rw [cond_false, hexT_step y j (strSl [a, b, c, d]) k _ _ 2 c rfl (by omega) (by omega)]
   cases hc : decide (hvV ((c.toNat : Nat) : Int) < 0)
   ·have hc' := of_decide_eq_false hc
    rw [cond_false, hexT_step y j (strSl [a, b, c, d]) k _ _ 3 d rfl (by omega) (by omega)]
    cases hd : decide (hvV ((d.toNat : Nat) : Int) < 0)
    ·have hd' := of_decide_eq_false hd
     have e : (0 * 16 + hvV ((a.toNat : Nat) : Int)) = hvV ((a.toNat : Nat) : Int) := by omega
     have e4 : hex4 (a.toNat : Nat) (b.toNat : Nat) (c.toNat : Nat) (d.toNat : Nat) = ((hvV ((a.toNat : Nat) : Int) * 16 + hvV ((b.toNat : Nat) : Int)) * 16 + hvV ((c.toNat : Nat) : Int)) * 16 + hvV ((d.toNat : Nat) : Int) := by
      unfold hex4; rw [ha, hb, hc, hd]; rfl
     rw [cond_false, Z45_l81, e4, e, show decide (((((hvV ((a.toNat : Nat) : Int) * 16 + hvV ((b.toNat : Nat) : Int)) * 16 + hvV ((c.toNat : Nat) : Int)) * 16 + hvV ((d.toNat : Nat) : Int)) < 0)) = false from decide_eq_false (by omega)]
     rfl
    ·have e4 : hex4 (a.toNat : Nat) (b.toNat : Nat) (c.toNat : Nat) (d.toNat : Nat) = -1 := by unfold hex4; rw [hd]; simp
     rw [e4]; rfl
   ·have e4 : hex4 (a.toNat : Nat) (b.toNat : Nat) (c.toNat : Nat) (d.toNat : Nat) = -1 := by unfold hex4; rw [hc]; simp
    rw [e4]; rfl
  ·have e4 : hex4 (a.toNat : Nat) (b.toNat : Nat) (c.toNat : Nat) (d.toNat : Nat) = -1 := by unfold hex4; rw [hb]; simp
   rw [e4]; rfl
 ·have e4 : hex4 (a.toNat : Nat) (b.toNat : Nat) (c.toNat : Nat) (d.toNat : Nat) = -1 := by unfold hex4; rw [ha]; simp
  rw [e4]; rfl
end Go.Proofs
