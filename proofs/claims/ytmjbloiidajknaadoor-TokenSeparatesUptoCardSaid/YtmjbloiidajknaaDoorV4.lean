import Derived.Test.YtmjbloiidajknaaDoorV3
set_option maxRecDepth 100000
set_option maxHeartbeats 2000000
set_option linter.unusedVariables false
set_option linter.unusedSimpArgs false
namespace Go.Proofs
open Go Go.Ab
open AOps Cert AWp
variable {lou : Lou}
def Z9_j3  (s3_4 : (Sl R04_Token)) : Option (Sl R04_Token) := some s3_4
def Z9_l7 (a0 : (Sl Token_Token))  : Nat → (Sl R04_Token) → Nat → Option (Sl R04_Token)
 | 0, _, _ => none
 | n7 + 1, s3_8, s4_9 => bif (decide (((s4_9 : Nat) : Int) < ((a0.l.length : Nat) : Int))) then ((a0.l[s4_9]?).bind fun x15 => (a0.l[s4_9]?).bind fun x16 => (a0.l[s4_9]?).bind fun x17 => (appC 32 s3_8 (⟨false, [(R04_Token.mk x15.FKind x16.FText x17.FAt)]⟩ : Sl R04_Token)).bind fun x18 => (Z9_l7 a0 n7) x18 (s4_9 + 1)) else (Z9_j3   s3_8)
def Z9 (a0 : (Sl Token_Token)) : Option (Sl R04_Token) := Z9_l7 a0 (a0.l.length + 1) (Sl.nil : Sl R04_Token) 0
theorem Z9_walk {a0 : (Sl Token_Token)} {w0 : Option Nat}  {r : (Sl R04_Token)} (hE : Z9 a0 = some r) (H : Heap)  : ACalls Tryd.prog 16 [.d (Sl.d 3 Token_Token.c w0 a0)] H fun v h' => v = .a (.d (Sl.d 3 R04_Token.c none r)) ∧ h' = H := by
 unfold Z9 at hE
 refine ACalls.of_wp (fn := Tryd.f16) (c := _) Tryd.tab_ok (fun _ _ => Tryd.call16 _ _) Tryd.func16 rfl (n := 31) rfl (rs := [.tmp 2]) rfl rfl ?_
 refine AWp.tok 3 fun tk1 htk1 => ?_
 refine seqK fun K1 hK1 => ?_
 refine region ?_
 refine s0 (assignNil (k' := 3) rfl) rfl ?_
 refine nil ?_
 refine hK1 _ ?_
 clear hK1 K1
 refine seqK fun K2 hK2 => ?_
 refine region ?_
 refine s0 assignA rfl ?_
 refine nil ?_
 refine hK2 _ ?_
 clear hK2 K2
 refine AWp.nilTok 3 3 tk1 rfl hpG ?_
 refine seqJH KeepsT.nil (fun (z : (Sl R04_Token)) => [(3, .a (.d (Sl.d 3 R04_Token.c (some tk1) z)))]) (fun z => (H.set tk1 (some (.tok 3 z.l.length)))) (fun z => Z9_j3 z = some r) ?_ ?_
 ·intro K3 hK3
  refine seqK fun K6 hK6 => ?_
  refine region ?_
  refine s0 assignA rfl ?_
  refine nil ?_
  refine hK6 _ ?_
  clear hK6 K6
  refine block ?_
  refine loopH (KeepsT.A (k := 0) KeepsT.nil) (fun (z : Nat × (Sl R04_Token) × Nat) => [(3, .a (.d (Sl.d 3 R04_Token.c (some tk1) z.2.1))), (4, .a (.d (.int .i64 ((z.2.2 : Nat) : Int))))]) (fun z => (H.set tk1 (some (.tok 3 z.2.1.l.length)))) (fun z => z.1) (fun z => Z9_l7 a0 z.1 z.2.1 z.2.2 = some r) ((a0.l.length + 1), (Sl.nil : Sl R04_Token), 0) hE Weak.toA ?_
  rintro ⟨n7, s3_8, s4_9⟩ hE K7 hK7
  try dsimp only at hE
  cases n7 with
  | zero => cases hE
  | succ n7 =>
    rw [Z9_l7] at hE
    refine seqK fun K10 hK10 => ?_
    refine seqK fun K11 hK11 => ?_
    refine region ?_
    refine s0 moveA rfl ?_
    refine s0 moveA rfl ?_
    refine sLen (f := Token_Token.c) (s := a0) (TK rfl) rfl rfl rfl rfl fun hL12 => ?_
    refine s0 (binI rfl rfl rfl) rfl ?_
    refine nil ?_
    refine hK11 _ ?_
    clear hK11 K11
    refine condE hE rfl (fun hc13 hE => ?_) (fun hc13 hE => ?_)
    ·try dsimp only at hc13
     have hf13 := of_decide_eq_true hc13
     refine AWp.skip ?_
     refine hK10 _ ?_
     clear hK10 K10
     refine seqK fun K14 hK14 => ?_
     refine block ?_
     refine AWp.draw rfl ?_
     refine DOps.s0 moveA rfl ?_
     refine DOps.s0 moveA rfl ?_
     refine DOps.s0 moveA rfl ?_
     obtain ⟨x15, gx15, hE⟩ := bindO_some hE
     refine DOps.s0 (idxMn (f := Token_Token.c) (n := s4_9) (TK rfl) rfl (TK rfl) rfl rfl rfl gx15) rfl ?_
     refine DOps.s0 (fieldVA (TK rfl) rfl rfl (TK rfl) rfl rfl) rfl ?_
     refine DOps.s0 (loadV (TK rfl) rfl rfl rfl) rfl ?_
     refine DOps.s0 moveA rfl ?_
     refine DOps.s0 moveA rfl ?_
     obtain ⟨x16, gx16, hE⟩ := bindO_some hE
     refine DOps.s0 (idxMn (f := Token_Token.c) (n := s4_9) (TK rfl) rfl (TK rfl) rfl rfl rfl gx16) rfl ?_
     refine DOps.s0 (fieldVA (TK rfl) rfl rfl (TK rfl) rfl rfl) rfl ?_
     refine DOps.s0 (loadV (TK rfl) rfl rfl rfl) rfl ?_
     refine DOps.s0 moveA rfl ?_
     refine DOps.s0 moveA rfl ?_
     obtain ⟨x17, gx17, hE⟩ := bindO_some hE
     refine DOps.s0 (idxMn (f := Token_Token.c) (n := s4_9) (TK rfl) rfl (TK rfl) rfl rfl rfl gx17) rfl ?_
     refine DOps.s0 (fieldVA (TK rfl) rfl rfl (TK rfl) rfl rfl) rfl ?_
     refine DOps.s0 (loadV (TK rfl) rfl rfl rfl) rfl ?_
     refine DOps.s0 (build Tryd.tab_ok rfl rfl rfl rfl rfl rfl) rfl ?_
     refine DOps.s0 (buildSlice (TK rfl) rfl (TK rfl) rfl rfl rfl rfl rfl rfl) rfl ?_
     obtain ⟨x18, gx18, hE⟩ := bindO_some hE
     refine DOps.sH (appM (f := R04_Token.c) (TK rfl) rfl (TK rfl) (TK rfl) ⟨_, rfl⟩ rfl rfl (by decide) rfl rfl rfl rfl hpG rfl gx18) rfl ?_
     refine DOps.heq (h' := (H.set tk1 (some (.tok 3 x18.l.length)))) (by first | rfl | (rw [Heap.set_set]; rfl) | (funext n_; simp only [Heap.set]; (repeat' split) <;> first | rfl | (exfalso; simp_all; done) | (simp_all; done))) ?_
     refine DOps.s0 assignA rfl ?_
     refine DOps.nil (by decide +kernel) ?_
     refine hK14 _ ?_
     clear hK14 K14
     refine region ?_
     refine s0 moveA rfl ?_
     refine s0 (addI rfl rfl (by first | omega | (dsimp only; omega) | (simp at *; omega)) (by first | omega | (dsimp only; omega) | (simp at *; omega))) rfl ?_
     refine s0 assignA rfl ?_
     refine nil ?_
     exact hK7 _ (n7, x18, (s4_9 + 1)) Weak.toA hE (Nat.lt_succ_self _)
    refine AWp.exit ?_
    exact hK3 _ s3_8 Weak.toA hE
 rintro s3_4 hE
 try dsimp only at hE
 unfold Z9_j3 at hE
 refine seqK fun K5 hK5 => ?_
 refine region ?_
 refine s0 moveA rfl ?_
 refine s0 assignA rfl ?_
 refine nil ?_
 refine hK5 _ ?_
 clear hK5 K5
 refine AWp.dropTok 2 rfl ?_
 refine AWp.ret ?_
 repeat (first | refine xBlock_ret ?_ | refine xThen_ret ?_)
 obtain rfl := Option.some.inj hE
 refine retQ.retF H rfl ⟨rfl, rfl⟩ ?_
 first | exact Heap.sub_set htk1 | (simp only [Heap.set_set]; exact Heap.sub_set htk1)
section
variable [IsLoud lou]
end
end Go.Proofs

namespace Go.Proofs
open Go Go.Ab
open AOps Cert AWp
variable {lou : Lou}
section
variable [IsLoud lou]
def Z2_j24   : Option Bool := (Z7 ).bind fun x26 => some x26
def Z2_l28 (a0 : Bs) (x9 : ((Sl Token_Token) × Int × Int))  : Nat → Int → Option Bool
 | 0, _ => none
 | n28 + 1, s6_29 => (subC ((x9.1.l.length : Nat) : Int) (1 : Int)).bind fun x33 => bif (decide (s6_29 < x33)) then ((idxC x9.1.l s6_29).bind fun x37 => guardO ((!((decide (x37.FAt < (0 : Int))) || (decide (((a0.length : Nat) : Int) ≤ x37.FAt))) && (decide ((0 : Int) < s6_29)))) (subC s6_29 (1 : Int)) (0 : Int) fun x40 => guardO ((!((decide (x37.FAt < (0 : Int))) || (decide (((a0.length : Nat) : Int) ≤ x37.FAt))) && (decide ((0 : Int) < s6_29)))) (idxC x9.1.l x40) Token_Token.zero fun x41 => bif ((((decide (x37.FAt < (0 : Int))) || (decide (((a0.length : Nat) : Int) ≤ x37.FAt))) || ((decide ((0 : Int) < s6_29)) && (decide (x37.FAt ≤ x41.FAt)))) || (decide (x37.FKind = (5 : Int)))) then (some false) else (guardO ((decide (x37.FKind = (4 : Int)))) (idxC a0 x37.FAt) (0 : UInt8) fun x45 => guardO ((!((decide (x37.FKind = (4 : Int))) && (!decide (((x45.toNat : Nat) : Int) = (34 : Int)))) && (!decide (x37.FKind = (4 : Int))))) (addC x37.FAt ((x37.FText.length : Nat) : Int)) (0 : Int) fun x46 => guardO (((!((decide (x37.FKind = (4 : Int))) && (!decide (((x45.toNat : Nat) : Int) = (34 : Int)))) && (!decide (x37.FKind = (4 : Int)))) && !(decide (((a0.length : Nat) : Int) < x46)))) (addC x37.FAt ((x37.FText.length : Nat) : Int)) (0 : Int) fun x47 => guardO (((!((decide (x37.FKind = (4 : Int))) && (!decide (((x45.toNat : Nat) : Int) = (34 : Int)))) && (!decide (x37.FKind = (4 : Int)))) && !(decide (((a0.length : Nat) : Int) < x46)))) (cutC a0 (some x37.FAt) (some x47)) ([] : Bs) fun x48 => bif (((decide (x37.FKind = (4 : Int))) && (!decide (((x45.toNat : Nat) : Int) = (34 : Int)))) || ((!decide (x37.FKind = (4 : Int))) && ((decide (((a0.length : Nat) : Int) < x46)) || (!(x48 == x37.FText))))) then (some false) else ((addC s6_29 (1 : Int)).bind fun x51 => (Z2_l28 a0 x9 n28) x51))) else (Z2_j24   )
def Z2 (a0 : Bs) : Option Bool := (Z8 a0).bind fun x4 => bif x4 then ((Z7 ).bind fun x7 => some x7) else ((Z48 a0).bind fun x9 => bif (!decide (x9.2.2 = (0 : Int))) then ((Z7 ).bind fun x14 => some x14) else (guardO (!(decide (((x9.1.l.length : Nat) : Int) < (1 : Int)))) (subC ((x9.1.l.length : Nat) : Int) (1 : Int)) (0 : Int) fun x18 => guardO (!(decide (((x9.1.l.length : Nat) : Int) < (1 : Int)))) (idxC x9.1.l x18) Token_Token.zero fun x19 => guardO (!((decide (((x9.1.l.length : Nat) : Int) < (1 : Int))) || (!decide (x19.FKind = (5 : Int))))) (subC ((x9.1.l.length : Nat) : Int) (1 : Int)) (0 : Int) fun x20 => guardO (!((decide (((x9.1.l.length : Nat) : Int) < (1 : Int))) || (!decide (x19.FKind = (5 : Int))))) (idxC x9.1.l x20) Token_Token.zero fun x21 => bif (((decide (((x9.1.l.length : Nat) : Int) < (1 : Int))) || (!decide (x19.FKind = (5 : Int)))) || (!decide (x21.FAt = ((a0.length : Nat) : Int)))) then (some false) else (Z2_l28 a0 x9 F0 (0 : Int))))
theorem Z2_walk {a0 : Bs} {oE : Ab.Obj} {gE : Nat} {r : Bool} (hE : Z2 a0 = some r) (H : Heap) (hgE : H gE = some oE) (hoE : IsErr Tryd.prog oE) : ACalls Tryd.prog 7 [.d (.str a0)] H fun v h' => v = .a (.d (.bool r)) ∧ h' = H := by
 unfold Z2 at hE
 refine ACalls.of_wp (fn := Tryd.f7) (c := _) Tryd.tab_ok (fun _ _ => Tryd.call7 _ _) Tryd.func7 rfl (n := 128) rfl (rs := [.tmp 2]) rfl rfl ?_
 refine seqK fun K1 hK1 => ?_
 refine region ?_
 refine s0 assignA rfl ?_
 refine nil ?_
 refine hK1 _ ?_
 clear hK1 K1
 refine seqK fun K2 hK2 => ?_
 refine seqK fun K3 hK3 => ?_
 refine region ?_
 refine s0 moveA rfl ?_
 obtain ⟨x4, gx4, hE⟩ := bindO_some hE
 refine s0 (callP rfl rfl (fun H => Z8_walk gx4 H)) rfl ?_
 refine nil ?_
 refine hK3 _ ?_
 clear hK3 K3
 refine condE hE rfl (fun hc5 hE => ?_) (fun hc5 hE => ?_)
 ·refine seqK fun K6 hK6 => ?_
  refine region ?_
  obtain ⟨x7, gx7, hE⟩ := bindO_some hE
  refine s0 (callR rfl rfl (Z7_walk (gE := gE) (oE := oE) gx7 _ hpG (by assumption))) rfl ?_
  refine s0 assignA rfl ?_
  refine nil ?_
  refine hK6 _ ?_
  clear hK6 K6
  refine AWp.ret ?_
  repeat (first | refine xBlock_ret ?_ | refine xThen_ret ?_)
  obtain rfl := Option.some.inj hE
  refine retQ.retF H rfl ⟨rfl, rfl⟩ ?_
  exact (fun _ _ h => h)
 refine AWp.skip ?_
 refine hK2 _ ?_
 clear hK2 K2
 refine seqK fun K8 hK8 => ?_
 refine region ?_
 refine s0 moveA rfl ?_
 obtain ⟨x9, gx9, hE⟩ := bindO_some hE
 refine s0 (callR rfl rfl (Z48_walk (gE := gE) (oE := oE) gx9 _ hpG (by assumption))) rfl ?_
 refine s0 moveA rfl ?_
 refine s0 (extract rfl rfl) rfl ?_
 refine s0 (extract rfl rfl) rfl ?_
 refine s0 (extract rfl rfl) rfl ?_
 refine s0 assignA rfl ?_
 refine s0 assignA rfl ?_
 refine s0 assignA rfl ?_
 refine nil ?_
 refine hK8 _ ?_
 clear hK8 K8
 refine seqK fun K10 hK10 => ?_
 refine seqK fun K11 hK11 => ?_
 refine region ?_
 refine s0 moveA rfl ?_
 refine s0 (binI rfl rfl rfl) rfl ?_
 refine nil ?_
 refine hK11 _ ?_
 clear hK11 K11
 refine condE hE rfl (fun hc12 hE => ?_) (fun hc12 hE => ?_)
 ·refine seqK fun K13 hK13 => ?_
  refine region ?_
  obtain ⟨x14, gx14, hE⟩ := bindO_some hE
  refine s0 (callR rfl rfl (Z7_walk (gE := gE) (oE := oE) gx14 _ hpG (by assumption))) rfl ?_
  refine s0 assignA rfl ?_
  refine nil ?_
  refine hK13 _ ?_
  clear hK13 K13
  refine AWp.ret ?_
  repeat (first | refine xBlock_ret ?_ | refine xThen_ret ?_)
  obtain rfl := Option.some.inj hE
  refine retQ.retF H rfl ⟨rfl, rfl⟩ ?_
  exact (fun _ _ h => h)
 refine AWp.skip ?_
 refine hK10 _ ?_
 clear hK10 K10
 refine seqK fun K15 hK15 => ?_
 refine seqK fun K16 hK16 => ?_
 refine region ?_
 refine s0 moveA rfl ?_
 refine sLen (f := Token_Token.c) (s := x9.1) (TK rfl) rfl rfl rfl rfl fun hL17 => ?_
 refine s0 (binI rfl rfl rfl) rfl ?_
 refine s0 moveA rfl ?_
 refine gC rfl rfl (fun hC => moveA) rfl ?_
 refine gC rfl rfl (fun hC => moveA) rfl ?_
 refine gC rfl rfl (fun hC => ungdA (k := 25) rfl (lenM' (f := Token_Token.c) (s := x9.1) (TK rfl) rfl rfl rfl)) rfl ?_
 obtain ⟨x18, gx18, hE⟩ := guardO_some hE
 refine gC rfl rfl (fun hC => ungdA (k := 26) rfl (subM rfl rfl (gx18 hC))) rfl ?_
 obtain ⟨x19, gx19, hE⟩ := guardO_some hE
 refine gC rfl rfl (fun hC => ungdA (k := 24) rfl (ungdA (k := 27) rfl (idxM (f := Token_Token.c) (TK rfl) rfl (TK rfl) rfl rfl rfl (gx19 hC)))) rfl ?_
 refine gC rfl rfl (fun hC => ungdA (k := 28) rfl (fieldVA (TK rfl) rfl rfl (TK rfl) rfl rfl)) rfl ?_
 refine gC rfl rfl (fun hC => ungdA (k := 29) rfl (loadV (TK rfl) rfl rfl rfl)) rfl ?_
 refine gC rfl rfl (fun hC => ungdA (k := 30) rfl (binI rfl rfl rfl)) rfl ?_
 refine s0 (pickOrA rfl rfl rfl) rfl ?_
 refine s0 moveA rfl ?_
 refine gC rfl rfl (fun hC => moveA) rfl ?_
 refine gC rfl rfl (fun hC => moveA) rfl ?_
 refine gC rfl rfl (fun hC => ungdA (k := 35) rfl (lenM' (f := Token_Token.c) (s := x9.1) (TK rfl) rfl rfl rfl)) rfl ?_
 obtain ⟨x20, gx20, hE⟩ := guardO_some hE
 refine gC rfl rfl (fun hC => ungdA (k := 36) rfl (subM rfl rfl (gx20 hC))) rfl ?_
 obtain ⟨x21, gx21, hE⟩ := guardO_some hE
 refine gC rfl rfl (fun hC => ungdA (k := 34) rfl (ungdA (k := 37) rfl (idxM (f := Token_Token.c) (TK rfl) rfl (TK rfl) rfl rfl rfl (gx21 hC)))) rfl ?_
 refine gC rfl rfl (fun hC => ungdA (k := 38) rfl (fieldVA (TK rfl) rfl rfl (TK rfl) rfl rfl)) rfl ?_
 refine gC rfl rfl (fun hC => ungdA (k := 39) rfl (loadV (TK rfl) rfl rfl rfl)) rfl ?_
 refine gC rfl rfl (fun hC => moveA) rfl ?_
 refine gC rfl rfl (fun hC => ungdA (k := 41) rfl (lenS (TK rfl) rfl rfl rfl)) rfl ?_
 refine gC rfl rfl (fun hC => ungdA (k := 40) rfl (ungdA (k := 42) rfl (binI rfl rfl rfl))) rfl ?_
 refine s0 (pickOrA rfl rfl rfl) rfl ?_
 refine nil ?_
 refine hK16 _ ?_
 clear hK16 K16
 refine condE hE rfl (fun hc22 hE => ?_) (fun hc22 hE => ?_)
 ·refine seqK fun K23 hK23 => ?_
  refine region ?_
  refine s0 assignA rfl ?_
  refine nil ?_
  refine hK23 _ ?_
  clear hK23 K23
  refine AWp.ret ?_
  repeat (first | refine xBlock_ret ?_ | refine xThen_ret ?_)
  obtain rfl := Option.some.inj hE
  refine retQ.retF H rfl ⟨rfl, rfl⟩ ?_
  exact (fun _ _ h => h)
 refine AWp.skip ?_
 refine hK15 _ ?_
 clear hK15 K15
 refine seqJH KeepsT.nil (fun (z : Unit) => []) (fun z => H) (fun z => Z2_j24  = some r) ?_ ?_
 ·intro K24 hK24
  refine seqK fun K27 hK27 => ?_
  refine region ?_
  refine s0 assignA rfl ?_
  refine nil ?_
  refine hK27 _ ?_
  clear hK27 K27
  refine block ?_
  refine loopH (KeepsT.A (k := 0) (KeepsT.A (k := 3) KeepsT.nil)) (fun (z : Nat × Int) => [(6, .a (.d (.int .i64 z.2)))]) (fun z => H) (fun z => z.1) (fun z => Z2_l28 a0 x9 z.1 z.2 = some r) (F0, (0 : Int)) hE Weak.toA ?_
  rintro ⟨n28, s6_29⟩ hE K28 hK28
  try dsimp only at hE
  cases n28 with
  | zero => cases hE
  | succ n28 =>
    rw [Z2_l28] at hE
    refine seqK fun K30 hK30 => ?_
    refine seqK fun K31 hK31 => ?_
    refine region ?_
    refine s0 moveA rfl ?_
    refine s0 moveA rfl ?_
    refine sLen (f := Token_Token.c) (s := x9.1) (TK rfl) rfl rfl rfl rfl fun hL32 => ?_
    obtain ⟨x33, gx33, hE⟩ := bindO_some hE
    refine s0 (subM rfl rfl gx33) rfl ?_
    refine s0 (binI rfl rfl rfl) rfl ?_
    refine nil ?_
    refine hK31 _ ?_
    clear hK31 K31
    refine condE hE rfl (fun hc34 hE => ?_) (fun hc34 hE => ?_)
    ·refine AWp.skip ?_
     refine hK30 _ ?_
     clear hK30 K30
     refine seqK fun K35 hK35 => ?_
     refine block ?_
     refine seqK fun K36 hK36 => ?_
     refine region ?_
     refine s0 moveA rfl ?_
     refine s0 moveA rfl ?_
     obtain ⟨x37, gx37, hE⟩ := bindO_some hE
     refine s0 (idxM (f := Token_Token.c) (TK rfl) rfl (TK rfl) rfl rfl rfl gx37) rfl ?_
     refine s0 (loadV (TK rfl) rfl rfl rfl) rfl ?_
     refine sL (allocLA (TK rfl) rfl) rfl ?_
     refine sLn (storeLFA (TK rfl) rfl rfl rfl rfl rfl) ?_
     refine nil ?_
     refine hK36 _ ?_
     clear hK36 K36
     refine freezeA 7 _ rfl (Keeps.c (k := 0) (by conv => lhs; whnf) (by rfl) (Keeps.c (k := 3) (by conv => lhs; whnf) (by rfl) (Keeps.c (k := 6) (by conv => lhs; whnf) (by rfl) Keeps.nil))) ?_
     refine seqK fun K38 hK38 => ?_
     refine seqK fun K39 hK39 => ?_
     refine AWp.draw rfl ?_
     refine DOps.s0 (fieldVA (TK rfl) rfl rfl (TK rfl) rfl rfl) rfl ?_
     refine DOps.s0 (loadV (TK rfl) rfl rfl rfl) rfl ?_
     refine DOps.s0 (binI rfl rfl rfl) rfl ?_
     refine DOps.s0 moveA rfl ?_
     refine DOps.gC rfl rfl (fun hC => fieldVA (TK rfl) rfl rfl (TK rfl) rfl rfl) rfl ?_
     refine DOps.gC rfl rfl (fun hC => ungdA (k := 60) rfl (loadV (TK rfl) rfl rfl rfl)) rfl ?_
     refine DOps.gC rfl rfl (fun hC => moveA) rfl ?_
     refine DOps.gC rfl rfl (fun hC => ungdA (k := 62) rfl (lenS (TK rfl) rfl rfl rfl)) rfl ?_
     refine DOps.gC rfl rfl (fun hC => ungdA (k := 61) rfl (ungdA (k := 63) rfl (binI rfl rfl rfl))) rfl ?_
     refine DOps.s0 (pickOrA rfl rfl rfl) rfl ?_
     refine DOps.s0 moveA rfl ?_
     refine DOps.gC rfl rfl (fun hC => moveA) rfl ?_
     refine DOps.gC rfl rfl (fun hC => ungdA (k := 67) rfl (binI rfl rfl rfl)) rfl ?_
     refine DOps.gC rfl rfl (fun hC => ungdA (k := 68) rfl moveA) rfl ?_
     refine DOps.gC rfl rfl (fun hC => fieldVA (TK rfl) rfl rfl (TK rfl) rfl rfl) rfl ?_
     refine DOps.gC rfl rfl (fun hC => ungdA (k := 70) rfl (loadV (TK rfl) rfl rfl rfl)) rfl ?_
     refine DOps.gC rfl rfl (fun hC => moveA) rfl ?_
     refine DOps.gC rfl rfl (fun hC => moveA) rfl ?_
     obtain ⟨x40, gx40, hE⟩ := guardO_some hE
     refine DOps.gC rfl rfl (fun hC => ungdA (k := 73) rfl (subM rfl rfl (gx40 hC))) rfl ?_
     obtain ⟨x41, gx41, hE⟩ := guardO_some hE
     refine DOps.gC rfl rfl (fun hC => ungdA (k := 72) rfl (ungdA (k := 74) rfl (idxM (f := Token_Token.c) (TK rfl) rfl (TK rfl) rfl rfl rfl (gx41 hC)))) rfl ?_
     refine DOps.gC rfl rfl (fun hC => ungdA (k := 75) rfl (fieldVA (TK rfl) rfl rfl (TK rfl) rfl rfl)) rfl ?_
     refine DOps.gC rfl rfl (fun hC => ungdA (k := 76) rfl (loadV (TK rfl) rfl rfl rfl)) rfl ?_
     refine DOps.gC rfl rfl (fun hC => ungdA (k := 71) rfl (ungdA (k := 77) rfl (binI rfl rfl rfl))) rfl ?_
     refine DOps.gC rfl rfl (fun hC => ungdA (k := 69) rfl (pickAndA rfl rfl rfl)) rfl ?_
     refine DOps.s0 (pickOrA rfl rfl rfl) rfl ?_
     refine DOps.s0 moveA rfl ?_
     refine DOps.gC rfl rfl (fun hC => fieldVA (TK rfl) rfl rfl (TK rfl) rfl rfl) rfl ?_
     refine DOps.gC rfl rfl (fun hC => ungdA (k := 82) rfl (loadV (TK rfl) rfl rfl rfl)) rfl ?_
     refine DOps.gC rfl rfl (fun hC => ungdA (k := 83) rfl (binI rfl rfl rfl)) rfl ?_
     refine DOps.s0 (pickOrA rfl rfl rfl) rfl ?_
     refine DOps.nil (by decide +kernel) ?_
     refine hK39 _ ?_
     clear hK39 K39
     refine condE hE rfl (fun hc42 hE => ?_) (fun hc42 hE => ?_)
     ·refine seqK fun K43 hK43 => ?_
      refine region ?_
      refine s0 assignA rfl ?_
      refine nil ?_
      refine hK43 _ ?_
      clear hK43 K43
      refine AWp.ret ?_
      repeat (first | refine xBlock_ret ?_ | refine xThen_ret ?_)
      obtain rfl := Option.some.inj hE
      refine retQ.retF H rfl ⟨rfl, rfl⟩ ?_
      exact (fun _ _ h => h)
     refine AWp.skip ?_
     refine hK38 _ ?_
     clear hK38 K38
     refine seqK fun K44 hK44 => ?_
     refine AWp.draw rfl ?_
     refine DOps.s0 (fieldVA (TK rfl) rfl rfl (TK rfl) rfl rfl) rfl ?_
     refine DOps.s0 (loadV (TK rfl) rfl rfl rfl) rfl ?_
     refine DOps.s0 (binI rfl rfl rfl) rfl ?_
     refine DOps.s0 moveA rfl ?_
     refine DOps.gC rfl rfl (fun hC => moveA) rfl ?_
     refine DOps.gC rfl rfl (fun hC => fieldVA (TK rfl) rfl rfl (TK rfl) rfl rfl) rfl ?_
     refine DOps.gC rfl rfl (fun hC => ungdA (k := 91) rfl (loadV (TK rfl) rfl rfl rfl)) rfl ?_
     obtain ⟨x45, gx45, hE⟩ := guardO_some hE
     refine DOps.gC rfl rfl (fun hC => ungdA (k := 90) rfl (ungdA (k := 92) rfl (idxS (TK rfl) rfl rfl rfl (gx45 hC)))) rfl ?_
     refine DOps.gC rfl rfl (fun hC => ungdA (k := 93) rfl (binI rfl rfl rfl)) rfl ?_
     refine DOps.s0 (pickAndA rfl rfl rfl) rfl ?_
     refine DOps.s0 moveA rfl ?_
     refine DOps.gC rfl rfl (fun hC => fieldVA (TK rfl) rfl rfl (TK rfl) rfl rfl) rfl ?_
     refine DOps.gC rfl rfl (fun hC => ungdA (k := 97) rfl (loadV (TK rfl) rfl rfl rfl)) rfl ?_
     refine DOps.gC rfl rfl (fun hC => ungdA (k := 98) rfl (binI rfl rfl rfl)) rfl ?_
     refine DOps.gC rfl rfl (fun hC => ungdA (k := 99) rfl moveA) rfl ?_
     refine DOps.gC rfl rfl (fun hC => fieldVA (TK rfl) rfl rfl (TK rfl) rfl rfl) rfl ?_
     refine DOps.gC rfl rfl (fun hC => ungdA (k := 101) rfl (loadV (TK rfl) rfl rfl rfl)) rfl ?_
     refine DOps.gC rfl rfl (fun hC => fieldVA (TK rfl) rfl rfl (TK rfl) rfl rfl) rfl ?_
     refine DOps.gC rfl rfl (fun hC => ungdA (k := 103) rfl (loadV (TK rfl) rfl rfl rfl)) rfl ?_
     refine DOps.gC rfl rfl (fun hC => ungdA (k := 104) rfl (lenS (TK rfl) rfl rfl rfl)) rfl ?_
     obtain ⟨x46, gx46, hE⟩ := guardO_some hE
     refine DOps.gC rfl rfl (fun hC => ungdA (k := 102) rfl (ungdA (k := 105) rfl (addM rfl rfl (gx46 hC)))) rfl ?_
     refine DOps.gC rfl rfl (fun hC => moveA) rfl ?_
     refine DOps.gC rfl rfl (fun hC => ungdA (k := 107) rfl (lenS (TK rfl) rfl rfl rfl)) rfl ?_
     refine DOps.gC rfl rfl (fun hC => ungdA (k := 106) rfl (ungdA (k := 108) rfl (binI rfl rfl rfl))) rfl ?_
     refine DOps.gC rfl rfl (fun hC => ungdA (k := 109) rfl moveA) rfl ?_
     refine DOps.gC rfl rfl (fun hC => moveA) rfl ?_
     refine DOps.gC rfl rfl (fun hC => fieldVA (TK rfl) rfl rfl (TK rfl) rfl rfl) rfl ?_
     refine DOps.gC rfl rfl (fun hC => ungdA (k := 112) rfl (loadV (TK rfl) rfl rfl rfl)) rfl ?_
     refine DOps.gC rfl rfl (fun hC => fieldVA (TK rfl) rfl rfl (TK rfl) rfl rfl) rfl ?_
     refine DOps.gC rfl rfl (fun hC => ungdA (k := 114) rfl (loadV (TK rfl) rfl rfl rfl)) rfl ?_
     refine DOps.gC rfl rfl (fun hC => fieldVA (TK rfl) rfl rfl (TK rfl) rfl rfl) rfl ?_
     refine DOps.gC rfl rfl (fun hC => ungdA (k := 116) rfl (loadV (TK rfl) rfl rfl rfl)) rfl ?_
     refine DOps.gC rfl rfl (fun hC => ungdA (k := 117) rfl (lenS (TK rfl) rfl rfl rfl)) rfl ?_
     obtain ⟨x47, gx47, hE⟩ := guardO_some hE
     refine DOps.gC rfl rfl (fun hC => ungdA (k := 115) rfl (ungdA (k := 118) rfl (addM rfl rfl (gx47 hC)))) rfl ?_
     obtain ⟨x48, gx48, hE⟩ := guardO_some hE
     refine DOps.gC rfl rfl (fun hC => ungdA (k := 111) rfl (ungdA (k := 113) rfl (ungdA (k := 119) rfl (cutM (l := (some x37.FAt)) (r := (some x47)) (TK rfl) rfl rfl rfl rfl (by simp) (gx48 hC))))) rfl ?_
     refine DOps.gC rfl rfl (fun hC => fieldVA (TK rfl) rfl rfl (TK rfl) rfl rfl) rfl ?_
     refine DOps.gC rfl rfl (fun hC => ungdA (k := 121) rfl (loadV (TK rfl) rfl rfl rfl)) rfl ?_
     refine DOps.gC rfl rfl (fun hC => ungdA (k := 120) rfl (ungdA (k := 122) rfl (binS rfl rfl rfl))) rfl ?_
     refine DOps.gC rfl rfl (fun hC => ungdA (k := 110) rfl (pickOrA rfl rfl rfl)) rfl ?_
     refine DOps.gC rfl rfl (fun hC => ungdA (k := 100) rfl (pickAndA rfl rfl rfl)) rfl ?_
     refine DOps.s0 (pickOrA rfl rfl rfl) rfl ?_
     refine DOps.nil (by decide +kernel) ?_
     refine hK44 _ ?_
     clear hK44 K44
     refine condE hE rfl (fun hc49 hE => ?_) (fun hc49 hE => ?_)
     ·refine seqK fun K50 hK50 => ?_
      refine region ?_
      refine s0 assignA rfl ?_
      refine nil ?_
      refine hK50 _ ?_
      clear hK50 K50
      refine AWp.ret ?_
      repeat (first | refine xBlock_ret ?_ | refine xThen_ret ?_)
      obtain rfl := Option.some.inj hE
      refine retQ.retF H rfl ⟨rfl, rfl⟩ ?_
      exact (fun _ _ h => h)
     refine AWp.skip ?_
     refine hK35 _ ?_
     clear hK35 K35
     refine region ?_
     refine s0 moveA rfl ?_
     obtain ⟨x51, gx51, hE⟩ := bindO_some hE
     refine s0 (addM rfl rfl gx51) rfl ?_
     refine s0 assignA rfl ?_
     refine nil ?_
     exact hK28 _ (n28, x51) Weak.toA hE (Nat.lt_succ_self _)
    refine AWp.exit ?_
    exact hK24 _ () Weak.toA hE
 rintro _ hE
 try dsimp only at hE
 unfold Z2_j24 at hE
 refine seqK fun K25 hK25 => ?_
 refine region ?_
 obtain ⟨x26, gx26, hE⟩ := bindO_some hE
 refine s0 (callR rfl rfl (Z7_walk (gE := gE) (oE := oE) gx26 _ hpG (by assumption))) rfl ?_
 refine s0 assignA rfl ?_
 refine nil ?_
 refine hK25 _ ?_
 clear hK25 K25
 refine AWp.ret ?_
 repeat (first | refine xBlock_ret ?_ | refine xThen_ret ?_)
 obtain rfl := Option.some.inj hE
 refine retQ.retF H rfl ⟨rfl, rfl⟩ ?_
 exact (fun _ _ h => h)
end
def Z17 (a0 : Int) : Option Int := bif (decide (a0 < (10 : Int))) then (some (IntKind.wrap .u8 ((48 : Int) + a0))) else (some (IntKind.wrap .u8 ((87 : Int) + a0)))
theorem Z17_walk {a0 : Int}   {r : Int} (hE : Z17 a0 = some r) (H : Heap)  : ACalls Tryd.prog 93 [.d (.int .u8 a0)] H fun v h' => v = .a (.d (.int .u8 r)) ∧ h' = H := by
 unfold Z17 at hE
 refine ACalls.of_wp (fn := Tryd.f93) (c := _) Tryd.tab_ok (fun _ _ => Tryd.call93 _ _) Tryd.func93 rfl (n := 9) rfl (rs := [.tmp 2]) rfl rfl ?_
 refine seqK fun K1 hK1 => ?_
 refine region ?_
 refine s0 assignA rfl ?_
 refine nil ?_
 refine hK1 _ ?_
 clear hK1 K1
 refine seqK fun K2 hK2 => ?_
 refine seqK fun K3 hK3 => ?_
 refine region ?_
 refine s0 moveA rfl ?_
 refine s0 (binI rfl rfl rfl) rfl ?_
 refine nil ?_
 refine hK3 _ ?_
 clear hK3 K3
 refine condE hE rfl (fun hc4 hE => ?_) (fun hc4 hE => ?_)
 ·refine seqK fun K5 hK5 => ?_
  refine region ?_
  refine s0 moveA rfl ?_
  refine s0 (binI rfl rfl rfl) rfl ?_
  refine s0 assignA rfl ?_
  refine nil ?_
  refine hK5 _ ?_
  clear hK5 K5
  refine AWp.ret ?_
  repeat (first | refine xBlock_ret ?_ | refine xThen_ret ?_)
  obtain rfl := Option.some.inj hE
  refine retQ.retF H rfl ⟨rfl, rfl⟩ ?_
  exact (fun _ _ h => h)
 refine AWp.skip ?_
 refine hK2 _ ?_
 clear hK2 K2
 refine seqK fun K6 hK6 => ?_
 refine region ?_
 refine s0 moveA rfl ?_
 refine s0 (binI rfl rfl rfl) rfl ?_
 refine s0 assignA rfl ?_
 refine nil ?_
 refine hK6 _ ?_
 clear hK6 K6
 refine AWp.ret ?_
 repeat (first | refine xBlock_ret ?_ | refine xThen_ret ?_)
 obtain rfl := Option.some.inj hE
 refine retQ.retF H rfl ⟨rfl, rfl⟩ ?_
 exact (fun _ _ h => h)
def Z16 (a0 : Int) : Option Bs := bif (decide (a0 = (34 : Int))) then (some ([92, 34] : Bs)) else (bif (decide (a0 = (92 : Int))) then (some ([92, 92] : Bs)) else (bif (decide (a0 = (10 : Int))) then (some ([92, 110] : Bs)) else (bif (decide (a0 = (13 : Int))) then (some ([92, 114] : Bs)) else (bif (decide (a0 = (9 : Int))) then (some ([92, 116] : Bs)) else (bif ((decide (a0 < (32 : Int))) || (decide ((126 : Int) < a0))) then ((Z17 (IntKind.wrap .u8 (Int.tdiv a0 (16 : Int)))).bind fun x23 => (Z17 (Int.tmod a0 (16 : Int))).bind fun x24 => (catC ([92, 117, 48, 48] : Bs) (bytesC (⟨false, [x23, x24]⟩ : Sl Int))).bind fun x25 => some x25) else (some (bytesC (⟨false, [a0]⟩ : Sl Int))))))))
theorem Z16_walk {a0 : Int}   {r : Bs} (hE : Z16 a0 = some r) (H : Heap)  : ACalls Tryd.prog 71 [.d (.int .u8 a0)] H fun v h' => v = .a (.d (.str r)) ∧ h' = H := by
 unfold Z16 at hE
 refine ACalls.of_wp (fn := Tryd.f71) (c := _) Tryd.tab_ok (fun _ _ => Tryd.call71 _ _) Tryd.func71 rfl (n := 32) rfl (rs := [.tmp 2]) rfl rfl ?_
 refine seqK fun K1 hK1 => ?_
 refine region ?_
 refine s0 assignA rfl ?_
 refine nil ?_
 refine hK1 _ ?_
 clear hK1 K1
 refine seqK fun K2 hK2 => ?_
 refine seqK fun K3 hK3 => ?_
 refine region ?_
 refine s0 moveA rfl ?_
 refine nil ?_
 refine hK3 _ ?_
 clear hK3 K3
 refine block ?_
 refine seqK fun K4 hK4 => ?_
 refine region ?_
 refine s0 (binI rfl rfl rfl) rfl ?_
 refine s0 assignA rfl ?_
 refine nil ?_
 refine hK4 _ ?_
 clear hK4 K4
 refine condE hE rfl (fun hc5 hE => ?_) (fun hc5 hE => ?_)
 ·refine seqK fun K6 hK6 => ?_
  refine region ?_
  refine s0 assignA rfl ?_
  refine nil ?_
  refine hK6 _ ?_
  clear hK6 K6
  refine AWp.ret ?_
  repeat (first | refine xBlock_ret ?_ | refine xThen_ret ?_)
  obtain rfl := Option.some.inj hE
  refine retQ.retF H rfl ⟨rfl, rfl⟩ ?_
  exact (fun _ _ h => h)
 refine seqK fun K7 hK7 => ?_
 refine region ?_
 refine s0 (binI rfl rfl rfl) rfl ?_
 refine s0 assignA rfl ?_
 refine nil ?_
 refine hK7 _ ?_
 clear hK7 K7
 refine condE hE rfl (fun hc8 hE => ?_) (fun hc8 hE => ?_)
 ·refine seqK fun K9 hK9 => ?_
  refine region ?_
  refine s0 assignA rfl ?_
  refine nil ?_
  refine hK9 _ ?_
  clear hK9 K9
  refine AWp.ret ?_
  repeat (first | refine xBlock_ret ?_ | refine xThen_ret ?_)
  obtain rfl := Option.some.inj hE
  refine retQ.retF H rfl ⟨rfl, rfl⟩ ?_
  exact (fun _ _ h => h)
 refine seqK fun K10 hK10 => ?_
 refine region ?_
 refine s0 (binI rfl rfl rfl) rfl ?_
 refine s0 assignA rfl ?_
 refine nil ?_
 refine hK10 _ ?_
 clear hK10 K10
 refine condE hE rfl (fun hc11 hE => ?_) (fun hc11 hE => ?_)
 ·refine seqK fun K12 hK12 => ?_
  refine region ?_
  refine s0 assignA rfl ?_
  refine nil ?_
  refine hK12 _ ?_
  clear hK12 K12
  refine AWp.ret ?_
  repeat (first | refine xBlock_ret ?_ | refine xThen_ret ?_)
  obtain rfl := Option.some.inj hE
  refine retQ.retF H rfl ⟨rfl, rfl⟩ ?_
  exact (fun _ _ h => h)
 refine seqK fun K13 hK13 => ?_
 refine region ?_
 refine s0 (binI rfl rfl rfl) rfl ?_
 refine s0 assignA rfl ?_
 refine nil ?_
 refine hK13 _ ?_
 clear hK13 K13
 refine condE hE rfl (fun hc14 hE => ?_) (fun hc14 hE => ?_)
 ·refine seqK fun K15 hK15 => ?_
  refine region ?_
  refine s0 assignA rfl ?_
  refine nil ?_
  refine hK15 _ ?_
  clear hK15 K15
  refine AWp.ret ?_
  repeat (first | refine xBlock_ret ?_ | refine xThen_ret ?_)
  obtain rfl := Option.some.inj hE
  refine retQ.retF H rfl ⟨rfl, rfl⟩ ?_
  exact (fun _ _ h => h)
 refine seqK fun K16 hK16 => ?_
 refine region ?_
 refine s0 (binI rfl rfl rfl) rfl ?_
 refine s0 assignA rfl ?_
 refine nil ?_
 refine hK16 _ ?_
 clear hK16 K16
 refine condE hE rfl (fun hc17 hE => ?_) (fun hc17 hE => ?_)
 ·refine seqK fun K18 hK18 => ?_
  refine region ?_
  refine s0 assignA rfl ?_
  refine nil ?_
  refine hK18 _ ?_
  clear hK18 K18
  refine AWp.ret ?_
  repeat (first | refine xBlock_ret ?_ | refine xThen_ret ?_)
  obtain rfl := Option.some.inj hE
  refine retQ.retF H rfl ⟨rfl, rfl⟩ ?_
  exact (fun _ _ h => h)
 refine AWp.skip ?_
 refine hK2 _ ?_
 clear hK2 K2
 refine seqK fun K19 hK19 => ?_
 refine seqK fun K20 hK20 => ?_
 refine region ?_
 refine s0 moveA rfl ?_
 refine s0 (binI rfl rfl rfl) rfl ?_
 refine s0 moveA rfl ?_
 refine gC rfl rfl (fun hC => moveA) rfl ?_
 refine gC rfl rfl (fun hC => ungdA (k := 17) rfl (binI rfl rfl rfl)) rfl ?_
 refine s0 (pickOrA rfl rfl rfl) rfl ?_
 refine nil ?_
 refine hK20 _ ?_
 clear hK20 K20
 refine condE hE rfl (fun hc21 hE => ?_) (fun hc21 hE => ?_)
 ·refine seqK fun K22 hK22 => ?_
  refine region ?_
  refine s0 moveA rfl ?_
  refine s0 (quoI rfl rfl (by decide)) rfl ?_
  obtain ⟨x23, gx23, hE⟩ := bindO_some hE
  refine s0 (callP rfl rfl (fun H => Z17_walk gx23 H)) rfl ?_
  refine s0 moveA rfl ?_
  refine s0 (remI rfl rfl (by decide)) rfl ?_
  obtain ⟨x24, gx24, hE⟩ := bindO_some hE
  refine s0 (callP rfl rfl (fun H => Z17_walk gx24 H)) rfl ?_
  refine s0 (buildSlice (TK rfl) rfl (TK rfl) rfl rfl rfl rfl rfl rfl) rfl ?_
  refine s0 (convB (y := (⟨false, [x23, x24]⟩ : Sl Int)) (TK rfl) rfl (TK rfl) rfl (TK rfl) rfl rfl) rfl ?_
  obtain ⟨x25, gx25, hE⟩ := bindO_some hE
  refine s0 (catM rfl rfl gx25) rfl ?_
  refine s0 assignA rfl ?_
  refine nil ?_
  refine hK22 _ ?_
  clear hK22 K22
  refine AWp.ret ?_
  repeat (first | refine xBlock_ret ?_ | refine xThen_ret ?_)
  obtain rfl := Option.some.inj hE
  refine retQ.retF H rfl ⟨rfl, rfl⟩ ?_
  exact (fun _ _ h => h)
 refine AWp.skip ?_
 refine hK19 _ ?_
 clear hK19 K19
 refine seqK fun K26 hK26 => ?_
 refine region ?_
 refine s0 moveA rfl ?_
 refine s0 (buildSlice (TK rfl) rfl (TK rfl) rfl rfl rfl rfl rfl rfl) rfl ?_
 refine s0 (convB (y := (⟨false, [a0]⟩ : Sl Int)) (TK rfl) rfl (TK rfl) rfl (TK rfl) rfl rfl) rfl ?_
 refine s0 assignA rfl ?_
 refine nil ?_
 refine hK26 _ ?_
 clear hK26 K26
 refine AWp.ret ?_
 repeat (first | refine xBlock_ret ?_ | refine xThen_ret ?_)
 obtain rfl := Option.some.inj hE
 refine retQ.retF H rfl ⟨rfl, rfl⟩ ?_
 exact (fun _ _ h => h)
def Z12_j3  (s3_4 : Bs) : Option Bs := (catC s3_4 ([34] : Bs)).bind fun x6 => some x6
def Z12_l8 (a0 : Bs)  : Nat → Bs → Nat → Option Bs
 | 0, _, _ => none
 | n8 + 1, s3_9, s4_10 => bif (decide (((s4_10 : Nat) : Int) < ((a0.length : Nat) : Int))) then ((a0[s4_10]?).bind fun x16 => (Z16 ((x16.toNat : Nat) : Int)).bind fun x17 => (catC s3_9 x17).bind fun x18 => (Z12_l8 a0 n8) x18 (s4_10 + 1)) else (Z12_j3   s3_9)
def Z12 (a0 : Bs) : Option Bs := Z12_l8 a0 (a0.length + 1) ([34] : Bs) 0
theorem Z12_walk {a0 : Bs}   {r : Bs} (hE : Z12 a0 = some r) (H : Heap)  : ACalls Tryd.prog 36 [.d (.str a0)] H fun v h' => v = .a (.d (.str r)) ∧ h' = H := by
 unfold Z12 at hE
 refine ACalls.of_wp (fn := Tryd.f36) (c := _) Tryd.tab_ok (fun _ _ => Tryd.call36 _ _) Tryd.func36 rfl (n := 19) rfl (rs := [.tmp 2]) rfl rfl ?_
 refine seqK fun K1 hK1 => ?_
 refine region ?_
 refine s0 assignA rfl ?_
 refine nil ?_
 refine hK1 _ ?_
 clear hK1 K1
 refine seqK fun K2 hK2 => ?_
 refine region ?_
 refine s0 assignA rfl ?_
 refine nil ?_
 refine hK2 _ ?_
 clear hK2 K2
 refine seqJH KeepsT.nil (fun (z : Bs) => [(3, .a (.d (.str z)))]) (fun z => H) (fun z => Z12_j3 z = some r) ?_ ?_
 ·intro K3 hK3
  refine seqK fun K7 hK7 => ?_
  refine region ?_
  refine s0 assignA rfl ?_
  refine nil ?_
  refine hK7 _ ?_
  clear hK7 K7
  refine block ?_
  refine loopH (KeepsT.A (k := 0) KeepsT.nil) (fun (z : Nat × Bs × Nat) => [(3, .a (.d (.str z.2.1))), (4, .a (.d (.int .i64 ((z.2.2 : Nat) : Int))))]) (fun z => H) (fun z => z.1) (fun z => Z12_l8 a0 z.1 z.2.1 z.2.2 = some r) ((a0.length + 1), ([34] : Bs), 0) hE Weak.toA ?_
  rintro ⟨n8, s3_9, s4_10⟩ hE K8 hK8
  try dsimp only at hE
  cases n8 with
  | zero => cases hE
  | succ n8 =>
    rw [Z12_l8] at hE
    refine seqK fun K11 hK11 => ?_
    refine seqK fun K12 hK12 => ?_
    refine region ?_
    refine s0 moveA rfl ?_
    refine s0 moveA rfl ?_
    refine sLenS (TK rfl) rfl rfl rfl rfl fun hL13 => ?_
    refine s0 (binI rfl rfl rfl) rfl ?_
    refine nil ?_
    refine hK12 _ ?_
    clear hK12 K12
    refine condE hE rfl (fun hc14 hE => ?_) (fun hc14 hE => ?_)
    ·try dsimp only at hc14
     have hf14 := of_decide_eq_true hc14
     refine AWp.skip ?_
     refine hK11 _ ?_
     clear hK11 K11
     refine seqK fun K15 hK15 => ?_
     refine block ?_
     refine region ?_
     refine s0 moveA rfl ?_
     refine s0 moveA rfl ?_
     refine s0 moveA rfl ?_
     obtain ⟨x16, gx16, hE⟩ := bindO_some hE
     refine s0 (idxSn (n := s4_10) (TK rfl) rfl rfl rfl gx16) rfl ?_
     obtain ⟨x17, gx17, hE⟩ := bindO_some hE
     refine s0 (callP rfl rfl (fun H => Z16_walk gx17 H)) rfl ?_
     obtain ⟨x18, gx18, hE⟩ := bindO_some hE
     refine s0 (catM rfl rfl gx18) rfl ?_
     refine s0 assignA rfl ?_
     refine nil ?_
     refine hK15 _ ?_
     clear hK15 K15
     refine region ?_
     refine s0 moveA rfl ?_
     refine s0 (addI rfl rfl (by first | omega | (dsimp only; omega) | (simp at *; omega)) (by first | omega | (dsimp only; omega) | (simp at *; omega))) rfl ?_
     refine s0 assignA rfl ?_
     refine nil ?_
     exact hK8 _ (n8, x18, (s4_10 + 1)) Weak.toA hE (Nat.lt_succ_self _)
    refine AWp.exit ?_
    exact hK3 _ s3_9 Weak.toA hE
 rintro s3_4 hE
 try dsimp only at hE
 unfold Z12_j3 at hE
 refine seqK fun K5 hK5 => ?_
 refine region ?_
 refine s0 moveA rfl ?_
 obtain ⟨x6, gx6, hE⟩ := bindO_some hE
 refine s0 (catM rfl rfl gx6) rfl ?_
 refine s0 assignA rfl ?_
 refine nil ?_
 refine hK5 _ ?_
 clear hK5 K5
 refine AWp.ret ?_
 repeat (first | refine xBlock_ret ?_ | refine xThen_ret ?_)
 obtain rfl := Option.some.inj hE
 refine retQ.retF H rfl ⟨rfl, rfl⟩ ?_
 exact (fun _ _ h => h)
def Z21_j4  (s3_5 : Bs) : Option Bs := some s3_5
def Z21_j16 (s5_11 : Nat) (k_next_8 : Bs → Bool → Nat → Option Bs) (s3_17 : Bs) (s4_18 : Bool) : Option Bs := k_next_8 s3_17 s4_18 (s5_11 + 1)
def Z21_j23 (a0 : (Sl R04_Token)) (s5_11 : Nat) (k_next_8 : Bs → Bool → Nat → Option Bs) (s3_24 : Bs) : Option Bs := (a0.l[s5_11]?).bind fun x27 => bif (decide (x27.FKind = (4 : Int))) then ((a0.l[s5_11]?).bind fun x29 => (Z12 x29.FText).bind fun x30 => (catC s3_24 x30).bind fun x31 => Z21_j16 s5_11 k_next_8 x31 false) else ((a0.l[s5_11]?).bind fun x32 => (catC s3_24 x32.FText).bind fun x33 => Z21_j16 s5_11 k_next_8 x33 false)
def Z21_l8 (a0 : (Sl R04_Token))  : Nat → Bs → Bool → Nat → Option Bs
 | 0, _, _, _ => none
 | n8 + 1, s3_9, s4_10, s5_11 => bif (decide (((s5_11 : Nat) : Int) < ((a0.l.length : Nat) : Int))) then ((a0.l[s5_11]?).bind fun x21 => bif (decide (x21.FKind = (5 : Int))) then (Z21_j16 s5_11 ((Z21_l8 a0 n8)) s3_9 s4_10) else (bif (!s4_10) then ((catC s3_9 ([32] : Bs)).bind fun x36 => Z21_j23 a0 s5_11 ((Z21_l8 a0 n8)) x36) else (Z21_j23 a0 s5_11 ((Z21_l8 a0 n8)) s3_9))) else (Z21_j4   s3_9)
def Z21 (a0 : (Sl R04_Token)) : Option Bs := Z21_l8 a0 (a0.l.length + 1) ([] : Bs) true 0
theorem Z21_walk {a0 : (Sl R04_Token)} {w0 : Option Nat}  {r : Bs} (hE : Z21 a0 = some r) (H : Heap)  : ACalls Tryd.prog 18 [.d (Sl.d 3 R04_Token.c w0 a0)] H fun v h' => v = .a (.d (.str r)) ∧ h' = H := by
 unfold Z21 at hE
 refine ACalls.of_wp (fn := Tryd.f18) (c := _) Tryd.tab_ok (fun _ _ => Tryd.call18 _ _) Tryd.func18 rfl (n := 44) rfl (rs := [.tmp 2]) rfl rfl ?_
 refine seqK fun K1 hK1 => ?_
 refine region ?_
 refine s0 assignA rfl ?_
 refine nil ?_
 refine hK1 _ ?_
 clear hK1 K1
 refine seqK fun K2 hK2 => ?_
 refine region ?_
 refine s0 assignA rfl ?_
 refine nil ?_
 refine hK2 _ ?_
 clear hK2 K2
 refine seqK fun K3 hK3 => ?_
 refine region ?_
 refine s0 assignA rfl ?_
 refine nil ?_
 refine hK3 _ ?_
 clear hK3 K3
 refine seqJH KeepsT.nil (fun (z : Bs) => [(3, .a (.d (.str z)))]) (fun z => H) (fun z => Z21_j4 z = some r) ?_ ?_
 ·intro K4 hK4
  refine seqK fun K7 hK7 => ?_
  refine region ?_
  refine s0 assignA rfl ?_
  refine nil ?_
  refine hK7 _ ?_
  clear hK7 K7
  refine block ?_
  refine loopH (KeepsT.A (k := 0) KeepsT.nil) (fun (z : Nat × Bs × Bool × Nat) => [(3, .a (.d (.str z.2.1))), (4, .a (.d (.bool z.2.2.1))), (5, .a (.d (.int .i64 ((z.2.2.2 : Nat) : Int))))]) (fun z => H) (fun z => z.1) (fun z => Z21_l8 a0 z.1 z.2.1 z.2.2.1 z.2.2.2 = some r) ((a0.l.length + 1), ([] : Bs), true, 0) hE Weak.toA ?_
  rintro ⟨n8, s3_9, s4_10, s5_11⟩ hE K8 hK8
  try dsimp only at hE
  cases n8 with
  | zero => cases hE
  | succ n8 =>
    rw [Z21_l8] at hE
    refine seqK fun K12 hK12 => ?_
    refine seqK fun K13 hK13 => ?_
    refine region ?_
    refine s0 moveA rfl ?_
    refine s0 moveA rfl ?_
    refine sLen (f := R04_Token.c) (s := a0) (TK rfl) rfl rfl rfl rfl fun hL14 => ?_
    refine s0 (binI rfl rfl rfl) rfl ?_
    refine nil ?_
    refine hK13 _ ?_
    clear hK13 K13
    refine condE hE rfl (fun hc15 hE => ?_) (fun hc15 hE => ?_)
    ·try dsimp only at hc15
     have hf15 := of_decide_eq_true hc15
     refine AWp.skip ?_
     refine hK12 _ ?_
     clear hK12 K12
     refine seqJH (KeepsT.A (k := 0) (KeepsT.A (k := 5) KeepsT.nil)) (fun (z : Bs × Bool) => [(3, .a (.d (.str z.1))), (4, .a (.d (.bool z.2)))]) (fun z => H) (fun z => Z21_j16 s5_11 ((Z21_l8 a0 n8)) z.1 z.2 = some r) ?_ ?_
     ·intro K16 hK16
      refine block ?_
      refine seqK fun K19 hK19 => ?_
      refine seqK fun K20 hK20 => ?_
      refine region ?_
      refine s0 moveA rfl ?_
      refine s0 moveA rfl ?_
      obtain ⟨x21, gx21, hE⟩ := bindO_some hE
      refine s0 (idxMn (f := R04_Token.c) (n := s5_11) (TK rfl) rfl (TK rfl) rfl rfl rfl gx21) rfl ?_
      refine s0 (fieldVA (TK rfl) rfl rfl (TK rfl) rfl rfl) rfl ?_
      refine s0 (loadV (TK rfl) rfl rfl rfl) rfl ?_
      refine s0 (binI rfl rfl rfl) rfl ?_
      refine nil ?_
      refine hK20 _ ?_
      clear hK20 K20
      refine condE hE rfl (fun hc22 hE => ?_) (fun hc22 hE => ?_)
      ·refine AWp.exit ?_
       exact hK16 _ (s3_9, s4_10) Weak.toA hE
      refine AWp.skip ?_
      refine hK19 _ ?_
      clear hK19 K19
      refine seqJH (KeepsT.A (k := 0) (KeepsT.A (k := 5) KeepsT.nil)) (fun (z : Bs) => [(3, .a (.d (.str z)))]) (fun z => H) (fun z => Z21_j23 a0 s5_11 ((Z21_l8 a0 n8)) z = some r) ?_ ?_
      ·intro K23 hK23
       refine seqK fun K34 hK34 => ?_
       refine region ?_
       refine s0 moveA rfl ?_
       refine s0 (notB rfl) rfl ?_
       refine nil ?_
       refine hK34 _ ?_
       clear hK34 K34
       refine condE hE rfl (fun hc35 hE => ?_) (fun hc35 hE => ?_)
       ·refine region ?_
        refine s0 moveA rfl ?_
        obtain ⟨x36, gx36, hE⟩ := bindO_some hE
        refine s0 (catM rfl rfl gx36) rfl ?_
        refine s0 assignA rfl ?_
        refine nil ?_
        exact hK23 _ x36 Weak.toA hE
       refine AWp.skip ?_
       exact hK23 _ s3_9 Weak.toA hE
      rintro s3_24 hE
      try dsimp only at hE
      unfold Z21_j23 at hE
      refine seqK fun K25 hK25 => ?_
      refine region ?_
      refine s0 assignA rfl ?_
      refine nil ?_
      refine hK25 _ ?_
      clear hK25 K25
      refine seqK fun K26 hK26 => ?_
      refine region ?_
      refine s0 moveA rfl ?_
      refine s0 moveA rfl ?_
      obtain ⟨x27, gx27, hE⟩ := bindO_some hE
      refine s0 (idxMn (f := R04_Token.c) (n := s5_11) (TK rfl) rfl (TK rfl) rfl rfl rfl gx27) rfl ?_
      refine s0 (fieldVA (TK rfl) rfl rfl (TK rfl) rfl rfl) rfl ?_
      refine s0 (loadV (TK rfl) rfl rfl rfl) rfl ?_
      refine s0 (binI rfl rfl rfl) rfl ?_
      refine nil ?_
      refine hK26 _ ?_
      clear hK26 K26
      refine condE hE rfl (fun hc28 hE => ?_) (fun hc28 hE => ?_)
      ·refine region ?_
       refine s0 moveA rfl ?_
       refine s0 moveA rfl ?_
       refine s0 moveA rfl ?_
       obtain ⟨x29, gx29, hE⟩ := bindO_some hE
       refine s0 (idxMn (f := R04_Token.c) (n := s5_11) (TK rfl) rfl (TK rfl) rfl rfl rfl gx29) rfl ?_
       refine s0 (fieldVA (TK rfl) rfl rfl (TK rfl) rfl rfl) rfl ?_
       refine s0 (loadV (TK rfl) rfl rfl rfl) rfl ?_
       obtain ⟨x30, gx30, hE⟩ := bindO_some hE
       refine s0 (callP rfl rfl (fun H => Z12_walk gx30 H)) rfl ?_
       obtain ⟨x31, gx31, hE⟩ := bindO_some hE
       refine s0 (catM rfl rfl gx31) rfl ?_
       refine s0 assignA rfl ?_
       refine nil ?_
       exact hK16 _ (x31, false) Weak.toA hE
      refine region ?_
      refine s0 moveA rfl ?_
      refine s0 moveA rfl ?_
      refine s0 moveA rfl ?_
      obtain ⟨x32, gx32, hE⟩ := bindO_some hE
      refine s0 (idxMn (f := R04_Token.c) (n := s5_11) (TK rfl) rfl (TK rfl) rfl rfl rfl gx32) rfl ?_
      refine s0 (fieldVA (TK rfl) rfl rfl (TK rfl) rfl rfl) rfl ?_
      refine s0 (loadV (TK rfl) rfl rfl rfl) rfl ?_
      obtain ⟨x33, gx33, hE⟩ := bindO_some hE
      refine s0 (catM rfl rfl gx33) rfl ?_
      refine s0 assignA rfl ?_
      refine nil ?_
      exact hK16 _ (x33, false) Weak.toA hE
     rintro ⟨s3_17, s4_18⟩ hE
     try dsimp only at hE
     unfold Z21_j16 at hE
     refine region ?_
     refine s0 moveA rfl ?_
     refine s0 (addI rfl rfl (by first | omega | (dsimp only; omega) | (simp at *; omega)) (by first | omega | (dsimp only; omega) | (simp at *; omega))) rfl ?_
     refine s0 assignA rfl ?_
     refine nil ?_
     exact hK8 _ (n8, s3_17, s4_18, (s5_11 + 1)) Weak.toA hE (Nat.lt_succ_self _)
    refine AWp.exit ?_
    exact hK4 _ s3_9 Weak.toA hE
 rintro s3_5 hE
 try dsimp only at hE
 unfold Z21_j4 at hE
 refine seqK fun K6 hK6 => ?_
 refine region ?_
 refine s0 moveA rfl ?_
 refine s0 assignA rfl ?_
 refine nil ?_
 refine hK6 _ ?_
 clear hK6 K6
 refine AWp.ret ?_
 repeat (first | refine xBlock_ret ?_ | refine xThen_ret ?_)
 obtain rfl := Option.some.inj hE
 refine retQ.retF H rfl ⟨rfl, rfl⟩ ?_
 exact (fun _ _ h => h)
end Go.Proofs
