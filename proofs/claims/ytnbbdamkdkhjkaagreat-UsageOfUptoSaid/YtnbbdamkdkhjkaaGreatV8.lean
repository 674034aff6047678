import Derived.Test.YtnbbdamkdkhjkaaGreatV7
set_option maxRecDepth 100000
set_option maxHeartbeats 2000000
set_option linter.unusedVariables false
set_option linter.unusedSimpArgs false
namespace Go.Proofs
open Go Go.Ab
open AOps Cert AWp
def Z67_j3  (s7_4 : (Sl TUse)) : Option (Sl TUse) := some s7_4
def Z67_j14 (s8_9 : Nat) (k_next_7 : (Sl TUse) → Nat → Option (Sl TUse)) (s7_15 : (Sl TUse)) : Option (Sl TUse) := k_next_7 s7_15 (s8_9 + 1)
def Z67_j19 (a0 : TDoc) (s8_9 : Nat) (x17 : TSel) (k_next_7 : (Sl TUse) → Nat → Option (Sl TUse)) (k_rec_28 : TDoc → (Sl TSel) → Bs → Option (Sl TUse)) (s7_20 : (Sl TUse)) (s10_21 : Bs) : Option (Sl TUse) := (k_rec_28 a0 x17.FSels s10_21).bind fun x22 => (appC 56 s7_20 x22).bind fun x23 => Z67_j14 s8_9 k_next_7 x23
def Z67_j29 (a0 : TDoc) (s7_8 : (Sl TUse)) (s8_9 : Nat) (x17 : TSel) (k_next_7 : (Sl TUse) → Nat → Option (Sl TUse)) (k_rec_28 : TDoc → (Sl TSel) → Bs → Option (Sl TUse)) (s10_30 : Bs) : Option (Sl TUse) := bif ((!(x17.FOn == ([] : Bs))) && (!(s10_30 == ([] : Bs)))) then ((Z68 s10_30 ([] : Bs) ([] : Bs)).bind fun x33 => (appC 56 s7_8 (⟨false, [x33]⟩ : Sl TUse)).bind fun x34 => Z67_j19 a0 s8_9 x17 k_next_7 k_rec_28 x34 s10_30) else (Z67_j19 a0 s8_9 x17 k_next_7 k_rec_28 s7_8 s10_30)
def Z67_l7 (a0 : TDoc) (a1 : (Sl TSel)) (a2 : Bs) (k_rec_28 : TDoc → (Sl TSel) → Bs → Option (Sl TUse)) : Nat → (Sl TUse) → Nat → Option (Sl TUse)
 | 0, _, _ => none
 | n7 + 1, s7_8, s8_9 => bif (decide (((s8_9 : Nat) : Int) < ((a1.l.length : Nat) : Int))) then ((a1.l[s8_9]?).bind fun x17 => bif (decide (x17.FKind = (2 : Int))) then (Z67_j14 s8_9 ((Z67_l7 a0 a1 a2 k_rec_28 n7)) s7_8) else (bif (decide (x17.FKind = (3 : Int))) then (bif (!(x17.FOn == ([] : Bs))) then ((Z65 a0 x17.FOn).bind fun x37 => Z67_j29 a0 s7_8 s8_9 x17 ((Z67_l7 a0 a1 a2 k_rec_28 n7)) k_rec_28 x37) else (Z67_j29 a0 s7_8 s8_9 x17 ((Z67_l7 a0 a1 a2 k_rec_28 n7)) k_rec_28 a2)) else ((Z59 a0 a2 x17.FName).bind fun x39 => bif x39.2 then ((Z63 a0 x17 a2).bind fun x44 => (appC 56 s7_8 x44).bind fun x45 => (Z65 a0 x39.1.FName).bind fun x46 => Z67_j19 a0 s8_9 x17 ((Z67_l7 a0 a1 a2 k_rec_28 n7)) k_rec_28 x45 x46) else (Z67_j19 a0 s8_9 x17 ((Z67_l7 a0 a1 a2 k_rec_28 n7)) k_rec_28 s7_8 ([] : Bs))))) else (Z67_j3   s7_8)
def Z67_n : Nat → TDoc → (Sl TSel) → Bs → Option (Sl TUse)
 | 0, _, _, _ => none
 | n + 1, a0, a1, a2 => Z67_l7 a0 a1 a2 (Z67_n n) (a1.l.length + 1) (Sl.nil : Sl TUse) 0
theorem Z67_step (n : Nat) (ih_28 : ∀ {a0 : TDoc} {a1 : (Sl TSel)} {a2 : Bs} {w1 : Option Nat}  {r : (Sl TUse)}, Z67_n n a0 a1 a2 = some r → ∀ (H : Heap), ACalls Tryz.prog 28 [.agg (TDoc.c a0), .d (Sl.d 7 TSel.c w1 a1), .d (.str a2)] H fun v h' => v = .a (.d (Sl.d 4 TUse.c none r)) ∧ h' = H) : ∀ {a0 : TDoc} {a1 : (Sl TSel)} {a2 : Bs} {w1 : Option Nat}  {r : (Sl TUse)}, Z67_n (n + 1) a0 a1 a2 = some r → ∀ (H : Heap), ACalls Tryz.prog 28 [.agg (TDoc.c a0), .d (Sl.d 7 TSel.c w1 a1), .d (.str a2)] H fun v h' => v = .a (.d (Sl.d 4 TUse.c none r)) ∧ h' = H := by
 intro a0 a1 a2 w1  r hE H 
 rw [Z67_n] at hE
 refine ACalls.of_wp (fn := Tryz.f28) (c := _) Tryz.tab_ok (fun _ _ => Tryz.call28 _ _) Tryz.func28 rfl (n := 76) rfl (rs := [.tmp 6]) rfl rfl ?_
 refine AWp.tok 4 fun tk1 htk1 => ?_
 refine seqK fun K1 hK1 => ?_
 refine region ?_
 refine s0 (boxV rfl) rfl ?_
 refine s0 (assignNil (k' := 4) rfl) rfl ?_
 refine nil ?_
 refine hK1 _ ?_
 clear hK1 K1
 refine seqK fun K2 hK2 => ?_
 refine region ?_
 refine s0 assignA rfl ?_
 refine nil ?_
 refine hK2 _ ?_
 clear hK2 K2
 refine AWp.nilTok 7 4 tk1 rfl hpG ?_
 refine seqJH KeepsT.nil (fun (z : (Sl TUse)) => [(7, .a (.d (Sl.d 4 TUse.c (some tk1) z)))]) (fun z => (H.set tk1 (some (.tok 4 z.l.length)))) (fun z => Z67_j3 z = some r) ?_ ?_
 ·intro K3 hK3
  refine seqK fun K6 hK6 => ?_
  refine region ?_
  refine s0 assignA rfl ?_
  refine nil ?_
  refine hK6 _ ?_
  clear hK6 K6
  refine block ?_
  refine loopH (KeepsT.A (k := 1) (KeepsT.A (k := 2) (KeepsT.A (k := 3) KeepsT.nil))) (fun (z : Nat × (Sl TUse) × Nat) => [(7, .a (.d (Sl.d 4 TUse.c (some tk1) z.2.1))), (8, .a (.d (.int .i64 ((z.2.2 : Nat) : Int))))]) (fun z => (H.set tk1 (some (.tok 4 z.2.1.l.length)))) (fun z => z.1) (fun z => Z67_l7 a0 a1 a2 (Z67_n n) z.1 z.2.1 z.2.2 = some r) ((a1.l.length + 1), (Sl.nil : Sl TUse), 0) hE Weak.toA ?_
  rintro ⟨n7, s7_8, s8_9⟩ hE K7 hK7
  try dsimp only at hE
  cases n7 with
  | zero => cases hE
  | succ n7 =>
    rw [Z67_l7] at hE
    refine seqK fun K10 hK10 => ?_
    refine seqK fun K11 hK11 => ?_
    refine region ?_
    refine s0 moveA rfl ?_
    refine s0 moveA rfl ?_
    refine sLen (f := TSel.c) (s := a1) (TK rfl) rfl rfl rfl rfl fun hL12 => ?_
    refine s0 (binI rfl rfl rfl) rfl ?_
    refine nil ?_
    refine hK11 _ ?_
    clear hK11 K11
    refine condE hE rfl (fun hc13 hE => ?_) (fun hc13 hE => ?_)
    ·try dsimp only at hc13
     have hf13 := of_decide_eq_true hc13
     refine AWp.skip ?_
     refine hK10 _ ?_
     clear hK10 K10
     refine seqJH (KeepsT.A (k := 1) (KeepsT.A (k := 2) (KeepsT.A (k := 3) (KeepsT.A (k := 8) KeepsT.nil)))) (fun (z : (Sl TUse)) => [(7, .a (.d (Sl.d 4 TUse.c (some tk1) z)))]) (fun z => (H.set tk1 (some (.tok 4 z.l.length)))) (fun z => Z67_j14 s8_9 ((Z67_l7 a0 a1 a2 (Z67_n n) n7)) z = some r) ?_ ?_
     ·intro K14 hK14
      refine block ?_
      refine seqK fun K16 hK16 => ?_
      refine region ?_
      refine s0 moveA rfl ?_
      refine s0 moveA rfl ?_
      obtain ⟨x17, gx17, hE⟩ := bindO_some hE
      refine s0 (idxMn (f := TSel.c) (n := s8_9) (TK rfl) rfl (TK rfl) rfl rfl rfl gx17) rfl ?_
      refine s0 (loadV (TK rfl) rfl rfl rfl) rfl ?_
      refine sL (allocLA (TK rfl) rfl) rfl ?_
      refine sLn (storeLFA (TK rfl) rfl rfl rfl rfl rfl) ?_
      refine nil ?_
      refine hK16 _ ?_
      clear hK16 K16
      refine freezeA 9 _ rfl (Keeps.c (k := 1) (by conv => lhs; whnf) (by rfl) (Keeps.c (k := 2) (by conv => lhs; whnf) (by rfl) (Keeps.c (k := 3) (by conv => lhs; whnf) (by rfl) (Keeps.c (k := 7) (by conv => lhs; whnf) (by rfl) (Keeps.c (k := 8) (by conv => lhs; whnf) (by rfl) Keeps.nil))))) ?_
      refine seqK fun K18 hK18 => ?_
      refine region ?_
      refine s0 moveA rfl ?_
      refine s0 assignA rfl ?_
      refine nil ?_
      refine hK18 _ ?_
      clear hK18 K18
      refine seqJH (KeepsT.A (k := 1) (KeepsT.A (k := 2) (KeepsT.A (k := 3) (KeepsT.A (k := 8) (KeepsT.A (k := 9) KeepsT.nil))))) (fun (z : (Sl TUse) × Bs) => [(7, .a (.d (Sl.d 4 TUse.c (some tk1) z.1))), (10, .a (.d (.str z.2)))]) (fun z => (H.set tk1 (some (.tok 4 z.1.l.length)))) (fun z => Z67_j19 a0 s8_9 x17 ((Z67_l7 a0 a1 a2 (Z67_n n) n7)) (Z67_n n) z.1 z.2 = some r) ?_ ?_
      ·intro K19 hK19
       refine seqK fun K24 hK24 => ?_
       refine region ?_
       refine s0 (fieldVA (TK rfl) rfl rfl (TK rfl) rfl rfl) rfl ?_
       refine s0 (loadV (TK rfl) rfl rfl rfl) rfl ?_
       refine nil ?_
       refine hK24 _ ?_
       clear hK24 K24
       refine block ?_
       refine seqK fun K25 hK25 => ?_
       refine region ?_
       refine s0 (binI rfl rfl rfl) rfl ?_
       refine s0 assignA rfl ?_
       refine nil ?_
       refine hK25 _ ?_
       clear hK25 K25
       refine condE hE rfl (fun hc26 hE => ?_) (fun hc26 hE => ?_)
       ·refine AWp.exit ?_
        exact hK14 _ s7_8 Weak.toA hE
       refine seqK fun K27 hK27 => ?_
       refine region ?_
       refine s0 (binI rfl rfl rfl) rfl ?_
       refine s0 assignA rfl ?_
       refine nil ?_
       refine hK27 _ ?_
       clear hK27 K27
       refine condE hE rfl (fun hc28 hE => ?_) (fun hc28 hE => ?_)
       ·refine seqJH (KeepsT.A (k := 1) (KeepsT.A (k := 2) (KeepsT.A (k := 3) (KeepsT.A (k := 7) (KeepsT.A (k := 8) (KeepsT.A (k := 9) KeepsT.nil)))))) (fun (z : Bs) => [(10, .a (.d (.str z)))]) (fun z => (H.set tk1 (some (.tok 4 s7_8.l.length)))) (fun z => Z67_j29 a0 s7_8 s8_9 x17 ((Z67_l7 a0 a1 a2 (Z67_n n) n7)) (Z67_n n) z = some r) ?_ ?_
        ·intro K29 hK29
         refine seqK fun K35 hK35 => ?_
         refine region ?_
         refine s0 (fieldVA (TK rfl) rfl rfl (TK rfl) rfl rfl) rfl ?_
         refine s0 (loadV (TK rfl) rfl rfl rfl) rfl ?_
         refine s0 (binS rfl rfl rfl) rfl ?_
         refine nil ?_
         refine hK35 _ ?_
         clear hK35 K35
         refine condE hE rfl (fun hc36 hE => ?_) (fun hc36 hE => ?_)
         ·refine region ?_
          refine s0 (loadV (TK rfl) rfl rfl rfl) rfl ?_
          refine s0 (fieldVA (TK rfl) rfl rfl (TK rfl) rfl rfl) rfl ?_
          refine s0 (loadV (TK rfl) rfl rfl rfl) rfl ?_
          obtain ⟨x37, gx37, hE⟩ := bindO_some hE
          refine s0 (callP rfl rfl (fun H => Z65_walk gx37 H)) rfl ?_
          refine s0 assignA rfl ?_
          refine nil ?_
          exact hK29 _ x37 Weak.toA hE
         refine AWp.skip ?_
         exact hK29 _ a2 Weak.toA hE
        rintro s10_30 hE
        try dsimp only at hE
        unfold Z67_j29 at hE
        refine seqK fun K31 hK31 => ?_
        refine region ?_
        refine s0 (fieldVA (TK rfl) rfl rfl (TK rfl) rfl rfl) rfl ?_
        refine s0 (loadV (TK rfl) rfl rfl rfl) rfl ?_
        refine s0 (binS rfl rfl rfl) rfl ?_
        refine s0 moveA rfl ?_
        refine gC rfl rfl (fun hC => moveA) rfl ?_
        refine gC rfl rfl (fun hC => ungdA (k := 60) rfl (binS rfl rfl rfl)) rfl ?_
        refine s0 (pickAndA rfl rfl rfl) rfl ?_
        refine nil ?_
        refine hK31 _ ?_
        clear hK31 K31
        refine condE hE rfl (fun hc32 hE => ?_) (fun hc32 hE => ?_)
        ·refine region ?_
         refine s0 moveA rfl ?_
         refine s0 moveA rfl ?_
         obtain ⟨x33, gx33, hE⟩ := bindO_some hE
         refine s0 (callP rfl rfl (fun H => Z68_walk gx33 H)) rfl ?_
         refine s0 (buildSlice (TK rfl) rfl (TK rfl) rfl rfl rfl rfl rfl rfl) rfl ?_
         obtain ⟨x34, gx34, hE⟩ := bindO_some hE
         refine sH (appM (f := TUse.c) (TK rfl) rfl (TK rfl) (TK rfl) ⟨_, rfl⟩ rfl rfl (by decide) rfl rfl rfl rfl hpG rfl gx34) rfl ?_
         refine AOps.heq (h' := (H.set tk1 (some (.tok 4 x34.l.length)))) (by first | rfl | (rw [Heap.set_set]; rfl) | (funext n_; simp only [Heap.set]; (repeat' split) <;> first | rfl | (exfalso; simp_all; done) | (simp_all; done))) ?_
         refine s0 assignA rfl ?_
         refine nil ?_
         exact hK19 _ (x34, s10_30) Weak.toA hE
        refine AWp.skip ?_
        exact hK19 _ (s7_8, s10_30) Weak.toA hE
       refine seqK fun K38 hK38 => ?_
       refine region ?_
       refine s0 (loadV (TK rfl) rfl rfl rfl) rfl ?_
       refine s0 moveA rfl ?_
       refine s0 (fieldVA (TK rfl) rfl rfl (TK rfl) rfl rfl) rfl ?_
       refine s0 (loadV (TK rfl) rfl rfl rfl) rfl ?_
       obtain ⟨x39, gx39, hE⟩ := bindO_some hE
       refine s0 (callP rfl rfl (fun H => Z59_walk gx39 H)) rfl ?_
       refine s0 moveA rfl ?_
       refine s0 (extract rfl rfl) rfl ?_
       refine s0 (extract rfl rfl) rfl ?_
       refine sL (allocLA (TK rfl) rfl) rfl ?_
       refine sLn (storeLFA (TK rfl) rfl rfl rfl rfl rfl) ?_
       refine s0 assignA rfl ?_
       refine nil ?_
       refine hK38 _ ?_
       clear hK38 K38
       refine freezeA 11 _ rfl (Keeps.c (k := 1) (by conv => lhs; whnf) (by rfl) (Keeps.c (k := 2) (by conv => lhs; whnf) (by rfl) (Keeps.c (k := 3) (by conv => lhs; whnf) (by rfl) (Keeps.c (k := 7) (by conv => lhs; whnf) (by rfl) (Keeps.c (k := 8) (by conv => lhs; whnf) (by rfl) (Keeps.c (k := 9) (by conv => lhs; whnf) (by rfl) (Keeps.c (k := 12) (by conv => lhs; whnf) (by rfl) Keeps.nil))))))) ?_
       refine seqK fun K40 hK40 => ?_
       refine region ?_
       refine s0 assignA rfl ?_
       refine nil ?_
       refine hK40 _ ?_
       clear hK40 K40
       refine seqK fun K41 hK41 => ?_
       refine region ?_
       refine s0 moveA rfl ?_
       refine nil ?_
       refine hK41 _ ?_
       clear hK41 K41
       refine condE hE rfl (fun hc42 hE => ?_) (fun hc42 hE => ?_)
       ·refine seqK fun K43 hK43 => ?_
        refine region ?_
        refine s0 moveA rfl ?_
        refine s0 (loadV (TK rfl) rfl rfl rfl) rfl ?_
        refine s0 (loadV (TK rfl) rfl rfl rfl) rfl ?_
        refine s0 moveA rfl ?_
        obtain ⟨x44, gx44, hE⟩ := bindO_some hE
        refine s0 (callP rfl rfl (fun H => Z63_walk gx44 H)) rfl ?_
        obtain ⟨x45, gx45, hE⟩ := bindO_some hE
        refine sH (appM (f := TUse.c) (TK rfl) rfl (TK rfl) (TK rfl) ⟨_, rfl⟩ rfl rfl (by decide) rfl rfl rfl rfl hpG rfl gx45) rfl ?_
        refine AOps.heq (h' := (H.set tk1 (some (.tok 4 x45.l.length)))) (by first | rfl | (rw [Heap.set_set]; rfl) | (funext n_; simp only [Heap.set]; (repeat' split) <;> first | rfl | (exfalso; simp_all; done) | (simp_all; done))) ?_
        refine s0 assignA rfl ?_
        refine nil ?_
        refine hK43 _ ?_
        clear hK43 K43
        refine region ?_
        refine s0 (loadV (TK rfl) rfl rfl rfl) rfl ?_
        refine s0 (fieldVA (TK rfl) rfl rfl (TK rfl) rfl rfl) rfl ?_
        refine s0 (loadV (TK rfl) rfl rfl rfl) rfl ?_
        obtain ⟨x46, gx46, hE⟩ := bindO_some hE
        refine s0 (callP rfl rfl (fun H => Z65_walk gx46 H)) rfl ?_
        refine s0 assignA rfl ?_
        refine nil ?_
        exact hK19 _ (x45, x46) Weak.toA hE
       refine AWp.skip ?_
       exact hK19 _ (s7_8, ([] : Bs)) Weak.toA hE
      rintro ⟨s7_20, s10_21⟩ hE
      try dsimp only at hE
      unfold Z67_j19 at hE
      refine region ?_
      refine s0 moveA rfl ?_
      refine s0 (loadV (TK rfl) rfl rfl rfl) rfl ?_
      refine s0 (fieldVA (TK rfl) rfl rfl (TK rfl) rfl rfl) rfl ?_
      refine s0 (loadV (TK rfl) rfl rfl (congrArg (fun x => some (A.d x)) (TSel.FSelsD_eq _))) rfl ?_
      refine s0 moveA rfl ?_
      obtain ⟨x22, gx22, hE⟩ := bindO_some hE
      refine s0 (callP rfl rfl (fun H => ih_28 gx22 H)) rfl ?_
      obtain ⟨x23, gx23, hE⟩ := bindO_some hE
      refine sH (appM (f := TUse.c) (TK rfl) rfl (TK rfl) (TK rfl) ⟨_, rfl⟩ rfl rfl (by decide) rfl rfl rfl rfl hpG rfl gx23) rfl ?_
      refine AOps.heq (h' := (H.set tk1 (some (.tok 4 x23.l.length)))) (by first | rfl | (rw [Heap.set_set]; rfl) | (funext n_; simp only [Heap.set]; (repeat' split) <;> first | rfl | (exfalso; simp_all; done) | (simp_all; done))) ?_
      refine s0 assignA rfl ?_
      refine nil ?_
      exact hK14 _ x23 Weak.toA hE
     rintro s7_15 hE
     try dsimp only at hE
     unfold Z67_j14 at hE
     refine region ?_
     refine s0 moveA rfl ?_
     refine s0 (addIA rfl rfl) rfl ?_
     refine s0 assignA rfl ?_
     refine nil ?_
     exact hK7 _ (n7, s7_15, (s8_9 + 1)) Weak.toA hE (Nat.lt_succ_self _)
    refine AWp.exit ?_
    exact hK3 _ s7_8 Weak.toA hE
 rintro s7_4 hE
 try dsimp only at hE
 unfold Z67_j3 at hE
 refine seqK fun K5 hK5 => ?_
 refine region ?_
 refine s0 moveA rfl ?_
 refine s0 assignA rfl ?_
 refine nil ?_
 refine hK5 _ ?_
 clear hK5 K5
 refine AWp.dropTok 6 rfl ?_
 refine AWp.ret ?_
 repeat (first | refine xBlock_ret ?_ | refine xThen_ret ?_)
 obtain rfl := Option.some.inj hE
 refine retQ.retF H rfl ⟨rfl, rfl⟩ ?_
 first | exact Heap.sub_set htk1 | (simp only [Heap.set_set]; exact Heap.sub_set htk1)
theorem Z67_all : ∀ (n : Nat), (∀ {a0 : TDoc} {a1 : (Sl TSel)} {a2 : Bs} {w1 : Option Nat}  {r : (Sl TUse)}, Z67_n n a0 a1 a2 = some r → ∀ (H : Heap), ACalls Tryz.prog 28 [.agg (TDoc.c a0), .d (Sl.d 7 TSel.c w1 a1), .d (.str a2)] H fun v h' => v = .a (.d (Sl.d 4 TUse.c none r)) ∧ h' = H)
 | 0 => fun hE => by first | cases hE | (rw [Z67_n] at hE; cases hE)
 | n + 1 => Z67_step n (Z67_all n)
def Z67 (a0 : TDoc) (a1 : (Sl TSel)) (a2 : Bs) : Option (Sl TUse) := Z67_n F0 a0 a1 a2
theorem Z67_walk {a0 : TDoc} {a1 : (Sl TSel)} {a2 : Bs} {w1 : Option Nat}  {r : (Sl TUse)} (hE : Z67 a0 a1 a2 = some r) (H : Heap)  : ACalls Tryz.prog 28 [.agg (TDoc.c a0), .d (Sl.d 7 TSel.c w1 a1), .d (.str a2)] H fun v h' => v = .a (.d (Sl.d 4 TUse.c none r)) ∧ h' = H := (Z67_all F0) hE H 
theorem Z67_tokn (n : Nat) {a0 : TDoc} {a1 : (Sl TSel)} {a2 : Bs} {w1 : Option Nat}  {r : (Sl TUse)} (hE : Z67_n n a0 a1 a2 = some r) (H : Heap) {tk0 : Nat} (htk0 : H tk0 = some (.tok 4 0)) : ACalls Tryz.prog 28 [.agg (TDoc.c a0), .d (Sl.d 7 TSel.c w1 a1), .d (.str a2)] H fun v h' => v = .a (.d (Sl.d 4 TUse.c (some tk0) r)) ∧ h' = H.set tk0 (some (.tok 4 r.l.length)) := by
 cases n with
 | zero => cases hE
 | succ n =>
 have ih_28 := @Z67_all n
 rw [Z67_n] at hE
 refine ACalls.of_wp (fn := Tryz.f28) (c := _) Tryz.tab_ok (fun _ _ => Tryz.call28 _ _) Tryz.func28 rfl (n := 76) rfl (rs := [.tmp 6]) rfl rfl ?_
 refine AWp.heqA (h' := (H.set tk0 (some (.tok 4 0)))) (by funext n_; simp only [Heap.set]; (repeat' split) <;> simp_all) ?_
 refine seqK fun K1 hK1 => ?_
 refine region ?_
 refine s0 (boxV rfl) rfl ?_
 refine s0 assignA rfl ?_
 refine nil ?_
 refine hK1 _ ?_
 clear hK1 K1
 refine seqK fun K2 hK2 => ?_
 refine region ?_
 refine s0 assignA rfl ?_
 refine nil ?_
 refine hK2 _ ?_
 clear hK2 K2
 refine AWp.nilTok 7 4 tk0 rfl hpG ?_
 refine seqJH KeepsT.nil (fun (z : (Sl TUse)) => [(7, .a (.d (Sl.d 4 TUse.c (some tk0) z)))]) (fun z => (H.set tk0 (some (.tok 4 z.l.length)))) (fun z => Z67_j3 z = some r) ?_ ?_
 ·intro K3 hK3
  refine seqK fun K6 hK6 => ?_
  refine region ?_
  refine s0 assignA rfl ?_
  refine nil ?_
  refine hK6 _ ?_
  clear hK6 K6
  refine block ?_
  refine loopH (KeepsT.A (k := 1) (KeepsT.A (k := 2) (KeepsT.A (k := 3) KeepsT.nil))) (fun (z : Nat × (Sl TUse) × Nat) => [(7, .a (.d (Sl.d 4 TUse.c (some tk0) z.2.1))), (8, .a (.d (.int .i64 ((z.2.2 : Nat) : Int))))]) (fun z => (H.set tk0 (some (.tok 4 z.2.1.l.length)))) (fun z => z.1) (fun z => Z67_l7 a0 a1 a2 (Z67_n n) z.1 z.2.1 z.2.2 = some r) ((a1.l.length + 1), (Sl.nil : Sl TUse), 0) hE Weak.toA ?_
  rintro ⟨n7, s7_8, s8_9⟩ hE K7 hK7
  try dsimp only at hE
  cases n7 with
  | zero => cases hE
  | succ n7 =>
    rw [Z67_l7] at hE
    refine seqK fun K10 hK10 => ?_
    refine seqK fun K11 hK11 => ?_
    refine region ?_
    refine s0 moveA rfl ?_
    refine s0 moveA rfl ?_
    refine sLen (f := TSel.c) (s := a1) (TK rfl) rfl rfl rfl rfl fun hL12 => ?_
    refine s0 (binI rfl rfl rfl) rfl ?_
    refine nil ?_
    refine hK11 _ ?_
    clear hK11 K11
    refine condE hE rfl (fun hc13 hE => ?_) (fun hc13 hE => ?_)
    ·try dsimp only at hc13
     have hf13 := of_decide_eq_true hc13
     refine AWp.skip ?_
     refine hK10 _ ?_
     clear hK10 K10
     refine seqJH (KeepsT.A (k := 1) (KeepsT.A (k := 2) (KeepsT.A (k := 3) (KeepsT.A (k := 8) KeepsT.nil)))) (fun (z : (Sl TUse)) => [(7, .a (.d (Sl.d 4 TUse.c (some tk0) z)))]) (fun z => (H.set tk0 (some (.tok 4 z.l.length)))) (fun z => Z67_j14 s8_9 ((Z67_l7 a0 a1 a2 (Z67_n n) n7)) z = some r) ?_ ?_
     ·intro K14 hK14
      refine block ?_
      refine seqK fun K16 hK16 => ?_
      refine region ?_
      refine s0 moveA rfl ?_
      refine s0 moveA rfl ?_
      obtain ⟨x17, gx17, hE⟩ := bindO_some hE
      refine s0 (idxMn (f := TSel.c) (n := s8_9) (TK rfl) rfl (TK rfl) rfl rfl rfl gx17) rfl ?_
      refine s0 (loadV (TK rfl) rfl rfl rfl) rfl ?_
      refine sL (allocLA (TK rfl) rfl) rfl ?_
      refine sLn (storeLFA (TK rfl) rfl rfl rfl rfl rfl) ?_
      refine nil ?_
      refine hK16 _ ?_
      clear hK16 K16
      refine freezeA 9 _ rfl (Keeps.c (k := 1) (by conv => lhs; whnf) (by rfl) (Keeps.c (k := 2) (by conv => lhs; whnf) (by rfl) (Keeps.c (k := 3) (by conv => lhs; whnf) (by rfl) (Keeps.c (k := 7) (by conv => lhs; whnf) (by rfl) (Keeps.c (k := 8) (by conv => lhs; whnf) (by rfl) Keeps.nil))))) ?_
      refine seqK fun K18 hK18 => ?_
      refine region ?_
      refine s0 moveA rfl ?_
      refine s0 assignA rfl ?_
      refine nil ?_
      refine hK18 _ ?_
      clear hK18 K18
      refine seqJH (KeepsT.A (k := 1) (KeepsT.A (k := 2) (KeepsT.A (k := 3) (KeepsT.A (k := 8) (KeepsT.A (k := 9) KeepsT.nil))))) (fun (z : (Sl TUse) × Bs) => [(7, .a (.d (Sl.d 4 TUse.c (some tk0) z.1))), (10, .a (.d (.str z.2)))]) (fun z => (H.set tk0 (some (.tok 4 z.1.l.length)))) (fun z => Z67_j19 a0 s8_9 x17 ((Z67_l7 a0 a1 a2 (Z67_n n) n7)) (Z67_n n) z.1 z.2 = some r) ?_ ?_
      ·intro K19 hK19
       refine seqK fun K24 hK24 => ?_
       refine region ?_
       refine s0 (fieldVA (TK rfl) rfl rfl (TK rfl) rfl rfl) rfl ?_
       refine s0 (loadV (TK rfl) rfl rfl rfl) rfl ?_
       refine nil ?_
       refine hK24 _ ?_
       clear hK24 K24
       refine block ?_
       refine seqK fun K25 hK25 => ?_
       refine region ?_
       refine s0 (binI rfl rfl rfl) rfl ?_
       refine s0 assignA rfl ?_
       refine nil ?_
       refine hK25 _ ?_
       clear hK25 K25
       refine condE hE rfl (fun hc26 hE => ?_) (fun hc26 hE => ?_)
       ·refine AWp.exit ?_
        exact hK14 _ s7_8 Weak.toA hE
       refine seqK fun K27 hK27 => ?_
       refine region ?_
       refine s0 (binI rfl rfl rfl) rfl ?_
       refine s0 assignA rfl ?_
       refine nil ?_
       refine hK27 _ ?_
       clear hK27 K27
       refine condE hE rfl (fun hc28 hE => ?_) (fun hc28 hE => ?_)
       ·refine seqJH (KeepsT.A (k := 1) (KeepsT.A (k := 2) (KeepsT.A (k := 3) (KeepsT.A (k := 7) (KeepsT.A (k := 8) (KeepsT.A (k := 9) KeepsT.nil)))))) (fun (z : Bs) => [(10, .a (.d (.str z)))]) (fun z => (H.set tk0 (some (.tok 4 s7_8.l.length)))) (fun z => Z67_j29 a0 s7_8 s8_9 x17 ((Z67_l7 a0 a1 a2 (Z67_n n) n7)) (Z67_n n) z = some r) ?_ ?_
        ·intro K29 hK29
         refine seqK fun K35 hK35 => ?_
         refine region ?_
         refine s0 (fieldVA (TK rfl) rfl rfl (TK rfl) rfl rfl) rfl ?_
         refine s0 (loadV (TK rfl) rfl rfl rfl) rfl ?_
         refine s0 (binS rfl rfl rfl) rfl ?_
         refine nil ?_
         refine hK35 _ ?_
         clear hK35 K35
         refine condE hE rfl (fun hc36 hE => ?_) (fun hc36 hE => ?_)
         ·refine region ?_
          refine s0 (loadV (TK rfl) rfl rfl rfl) rfl ?_
          refine s0 (fieldVA (TK rfl) rfl rfl (TK rfl) rfl rfl) rfl ?_
          refine s0 (loadV (TK rfl) rfl rfl rfl) rfl ?_
          obtain ⟨x37, gx37, hE⟩ := bindO_some hE
          refine s0 (callP rfl rfl (fun H => Z65_walk gx37 H)) rfl ?_
          refine s0 assignA rfl ?_
          refine nil ?_
          exact hK29 _ x37 Weak.toA hE
         refine AWp.skip ?_
         exact hK29 _ a2 Weak.toA hE
        rintro s10_30 hE
        try dsimp only at hE
        unfold Z67_j29 at hE
        refine seqK fun K31 hK31 => ?_
        refine region ?_
        refine s0 (fieldVA (TK rfl) rfl rfl (TK rfl) rfl rfl) rfl ?_
        refine s0 (loadV (TK rfl) rfl rfl rfl) rfl ?_
        refine s0 (binS rfl rfl rfl) rfl ?_
        refine s0 moveA rfl ?_
        refine gC rfl rfl (fun hC => moveA) rfl ?_
        refine gC rfl rfl (fun hC => ungdA (k := 60) rfl (binS rfl rfl rfl)) rfl ?_
        refine s0 (pickAndA rfl rfl rfl) rfl ?_
        refine nil ?_
        refine hK31 _ ?_
        clear hK31 K31
        refine condE hE rfl (fun hc32 hE => ?_) (fun hc32 hE => ?_)
        ·refine region ?_
         refine s0 moveA rfl ?_
         refine s0 moveA rfl ?_
         obtain ⟨x33, gx33, hE⟩ := bindO_some hE
         refine s0 (callP rfl rfl (fun H => Z68_walk gx33 H)) rfl ?_
         refine s0 (buildSlice (TK rfl) rfl (TK rfl) rfl rfl rfl rfl rfl rfl) rfl ?_
         obtain ⟨x34, gx34, hE⟩ := bindO_some hE
         refine sH (appM (f := TUse.c) (TK rfl) rfl (TK rfl) (TK rfl) ⟨_, rfl⟩ rfl rfl (by decide) rfl rfl rfl rfl hpG rfl gx34) rfl ?_
         refine AOps.heq (h' := (H.set tk0 (some (.tok 4 x34.l.length)))) (by first | rfl | (rw [Heap.set_set]; rfl) | (funext n_; simp only [Heap.set]; (repeat' split) <;> first | rfl | (exfalso; simp_all; done) | (simp_all; done))) ?_
         refine s0 assignA rfl ?_
         refine nil ?_
         exact hK19 _ (x34, s10_30) Weak.toA hE
        refine AWp.skip ?_
        exact hK19 _ (s7_8, s10_30) Weak.toA hE
       refine seqK fun K38 hK38 => ?_
       refine region ?_
       refine s0 (loadV (TK rfl) rfl rfl rfl) rfl ?_
       refine s0 moveA rfl ?_
       refine s0 (fieldVA (TK rfl) rfl rfl (TK rfl) rfl rfl) rfl ?_
       refine s0 (loadV (TK rfl) rfl rfl rfl) rfl ?_
       obtain ⟨x39, gx39, hE⟩ := bindO_some hE
       refine s0 (callP rfl rfl (fun H => Z59_walk gx39 H)) rfl ?_
       refine s0 moveA rfl ?_
       refine s0 (extract rfl rfl) rfl ?_
       refine s0 (extract rfl rfl) rfl ?_
       refine sL (allocLA (TK rfl) rfl) rfl ?_
       refine sLn (storeLFA (TK rfl) rfl rfl rfl rfl rfl) ?_
       refine s0 assignA rfl ?_
       refine nil ?_
       refine hK38 _ ?_
       clear hK38 K38
       refine freezeA 11 _ rfl (Keeps.c (k := 1) (by conv => lhs; whnf) (by rfl) (Keeps.c (k := 2) (by conv => lhs; whnf) (by rfl) (Keeps.c (k := 3) (by conv => lhs; whnf) (by rfl) (Keeps.c (k := 7) (by conv => lhs; whnf) (by rfl) (Keeps.c (k := 8) (by conv => lhs; whnf) (by rfl) (Keeps.c (k := 9) (by conv => lhs; whnf) (by rfl) (Keeps.c (k := 12) (by conv => lhs; whnf) (by rfl) Keeps.nil))))))) ?_
       refine seqK fun K40 hK40 => ?_
       refine region ?_
       refine s0 assignA rfl ?_
       refine nil ?_
       refine hK40 _ ?_
       clear hK40 K40
       refine seqK fun K41 hK41 => ?_
       refine region ?_
       refine s0 moveA rfl ?_
       refine nil ?_
       refine hK41 _ ?_
       clear hK41 K41
       refine condE hE rfl (fun hc42 hE => ?_) (fun hc42 hE => ?_)
       ·refine seqK fun K43 hK43 => ?_
        refine region ?_
        refine s0 moveA rfl ?_
        refine s0 (loadV (TK rfl) rfl rfl rfl) rfl ?_
        refine s0 (loadV (TK rfl) rfl rfl rfl) rfl ?_
        refine s0 moveA rfl ?_
        obtain ⟨x44, gx44, hE⟩ := bindO_some hE
        refine s0 (callP rfl rfl (fun H => Z63_walk gx44 H)) rfl ?_
        obtain ⟨x45, gx45, hE⟩ := bindO_some hE
        refine sH (appM (f := TUse.c) (TK rfl) rfl (TK rfl) (TK rfl) ⟨_, rfl⟩ rfl rfl (by decide) rfl rfl rfl rfl hpG rfl gx45) rfl ?_
        refine AOps.heq (h' := (H.set tk0 (some (.tok 4 x45.l.length)))) (by first | rfl | (rw [Heap.set_set]; rfl) | (funext n_; simp only [Heap.set]; (repeat' split) <;> first | rfl | (exfalso; simp_all; done) | (simp_all; done))) ?_
        refine s0 assignA rfl ?_
        refine nil ?_
        refine hK43 _ ?_
        clear hK43 K43
        refine region ?_
        refine s0 (loadV (TK rfl) rfl rfl rfl) rfl ?_
        refine s0 (fieldVA (TK rfl) rfl rfl (TK rfl) rfl rfl) rfl ?_
        refine s0 (loadV (TK rfl) rfl rfl rfl) rfl ?_
        obtain ⟨x46, gx46, hE⟩ := bindO_some hE
        refine s0 (callP rfl rfl (fun H => Z65_walk gx46 H)) rfl ?_
        refine s0 assignA rfl ?_
        refine nil ?_
        exact hK19 _ (x45, x46) Weak.toA hE
       refine AWp.skip ?_
       exact hK19 _ (s7_8, ([] : Bs)) Weak.toA hE
      rintro ⟨s7_20, s10_21⟩ hE
      try dsimp only at hE
      unfold Z67_j19 at hE
      refine region ?_
      refine s0 moveA rfl ?_
      refine s0 (loadV (TK rfl) rfl rfl rfl) rfl ?_
      refine s0 (fieldVA (TK rfl) rfl rfl (TK rfl) rfl rfl) rfl ?_
      refine s0 (loadV (TK rfl) rfl rfl (congrArg (fun x => some (A.d x)) (TSel.FSelsD_eq _))) rfl ?_
      refine s0 moveA rfl ?_
      obtain ⟨x22, gx22, hE⟩ := bindO_some hE
      refine s0 (callP rfl rfl (fun H => ih_28 gx22 H)) rfl ?_
      obtain ⟨x23, gx23, hE⟩ := bindO_some hE
      refine sH (appM (f := TUse.c) (TK rfl) rfl (TK rfl) (TK rfl) ⟨_, rfl⟩ rfl rfl (by decide) rfl rfl rfl rfl hpG rfl gx23) rfl ?_
      refine AOps.heq (h' := (H.set tk0 (some (.tok 4 x23.l.length)))) (by first | rfl | (rw [Heap.set_set]; rfl) | (funext n_; simp only [Heap.set]; (repeat' split) <;> first | rfl | (exfalso; simp_all; done) | (simp_all; done))) ?_
      refine s0 assignA rfl ?_
      refine nil ?_
      exact hK14 _ x23 Weak.toA hE
     rintro s7_15 hE
     try dsimp only at hE
     unfold Z67_j14 at hE
     refine region ?_
     refine s0 moveA rfl ?_
     refine s0 (addIA rfl rfl) rfl ?_
     refine s0 assignA rfl ?_
     refine nil ?_
     exact hK7 _ (n7, s7_15, (s8_9 + 1)) Weak.toA hE (Nat.lt_succ_self _)
    refine AWp.exit ?_
    exact hK3 _ s7_8 Weak.toA hE
 rintro s7_4 hE
 try dsimp only at hE
 unfold Z67_j3 at hE
 refine seqK fun K5 hK5 => ?_
 refine region ?_
 refine s0 moveA rfl ?_
 refine s0 assignA rfl ?_
 refine nil ?_
 refine hK5 _ ?_
 clear hK5 K5
 refine AWp.ret ?_
 repeat (first | refine xBlock_ret ?_ | refine xThen_ret ?_)
 obtain rfl := Option.some.inj hE
 refine retQ.retF (H.set tk0 (some (.tok 4 s7_4.l.length))) rfl ⟨rfl, rfl⟩ ?_
 exact (fun _ _ h => h)
theorem Z67_tok {a0 : TDoc} {a1 : (Sl TSel)} {a2 : Bs} {w1 : Option Nat}  {r : (Sl TUse)} (hE : Z67 a0 a1 a2 = some r) (H : Heap) {tk0 : Nat} (htk0 : H tk0 = some (.tok 4 0)) : ACalls Tryz.prog 28 [.agg (TDoc.c a0), .d (Sl.d 7 TSel.c w1 a1), .d (.str a2)] H fun v h' => v = .a (.d (Sl.d 4 TUse.c (some tk0) r)) ∧ h' = H.set tk0 (some (.tok 4 r.l.length)) := Z67_tokn F0 hE H htk0
def Z52 (a0 : Int) : Option Bs := bif (decide (a0 = (1 : Int))) then (some ([81, 117, 101, 114, 121] : Bs)) else (bif (decide (a0 = (2 : Int))) then (some ([77, 117, 116, 97, 116, 105, 111, 110] : Bs)) else (bif (decide (a0 = (3 : Int))) then (some ([83, 117, 98, 115, 99, 114, 105, 112, 116, 105, 111, 110] : Bs)) else (some ([] : Bs))))
theorem Z52_walk {a0 : Int}   {r : Bs} (hE : Z52 a0 = some r) (H : Heap)  : ACalls Tryz.prog 30 [.d (.int .i64 a0)] H fun v h' => v = .a (.d (.str r)) ∧ h' = H := by
 unfold Z52 at hE
 refine ACalls.of_wp (fn := Tryz.f30) (c := _) Tryz.tab_ok (fun _ _ => Tryz.call30 _ _) Tryz.func30 rfl (n := 10) rfl (rs := [.tmp 2]) rfl rfl ?_
 refine seqK fun K1 hK1 => ?_
 refine region ?_
 refine s0 assignA rfl ?_
 refine nil ?_
 refine hK1 _ ?_
 clear hK1 K1
 refine seqK fun K2 hK2 => ?_
 refine seqK fun K3 hK3 => ?_
 refine region ?_
 refine s0 moveA rfl ?_
 refine nil ?_
 refine hK3 _ ?_
 clear hK3 K3
 refine block ?_
 refine seqK fun K4 hK4 => ?_
 refine region ?_
 refine s0 (binI rfl rfl rfl) rfl ?_
 refine s0 assignA rfl ?_
 refine nil ?_
 refine hK4 _ ?_
 clear hK4 K4
 refine condE hE rfl (fun hc5 hE => ?_) (fun hc5 hE => ?_)
 ·refine seqK fun K6 hK6 => ?_
  refine region ?_
  refine s0 assignA rfl ?_
  refine nil ?_
  refine hK6 _ ?_
  clear hK6 K6
  refine AWp.ret ?_
  repeat (first | refine xBlock_ret ?_ | refine xThen_ret ?_)
  obtain rfl := Option.some.inj hE
  refine retQ.retF H rfl ⟨rfl, rfl⟩ ?_
  exact (fun _ _ h => h)
 refine seqK fun K7 hK7 => ?_
 refine region ?_
 refine s0 (binI rfl rfl rfl) rfl ?_
 refine s0 assignA rfl ?_
 refine nil ?_
 refine hK7 _ ?_
 clear hK7 K7
 refine condE hE rfl (fun hc8 hE => ?_) (fun hc8 hE => ?_)
 ·refine seqK fun K9 hK9 => ?_
  refine region ?_
  refine s0 assignA rfl ?_
  refine nil ?_
  refine hK9 _ ?_
  clear hK9 K9
  refine AWp.ret ?_
  repeat (first | refine xBlock_ret ?_ | refine xThen_ret ?_)
  obtain rfl := Option.some.inj hE
  refine retQ.retF H rfl ⟨rfl, rfl⟩ ?_
  exact (fun _ _ h => h)
 refine seqK fun K10 hK10 => ?_
 refine region ?_
 refine s0 (binI rfl rfl rfl) rfl ?_
 refine s0 assignA rfl ?_
 refine nil ?_
 refine hK10 _ ?_
 clear hK10 K10
 refine condE hE rfl (fun hc11 hE => ?_) (fun hc11 hE => ?_)
 ·refine seqK fun K12 hK12 => ?_
  refine region ?_
  refine s0 assignA rfl ?_
  refine nil ?_
  refine hK12 _ ?_
  clear hK12 K12
  refine AWp.ret ?_
  repeat (first | refine xBlock_ret ?_ | refine xThen_ret ?_)
  obtain rfl := Option.some.inj hE
  refine retQ.retF H rfl ⟨rfl, rfl⟩ ?_
  exact (fun _ _ h => h)
 refine AWp.skip ?_
 refine hK2 _ ?_
 clear hK2 K2
 refine seqK fun K13 hK13 => ?_
 refine region ?_
 refine s0 assignA rfl ?_
 refine nil ?_
 refine hK13 _ ?_
 clear hK13 K13
 refine AWp.ret ?_
 repeat (first | refine xBlock_ret ?_ | refine xThen_ret ?_)
 obtain rfl := Option.some.inj hE
 refine retQ.retF H rfl ⟨rfl, rfl⟩ ?_
 exact (fun _ _ h => h)
def Z54_j2  (y3_l0 : TFrag) : Option (TFrag × Bool) := some ((TFrag.mk ([] : Bs) ([] : Bs) (Sl.nil : Sl TSel)), false)
def Z54_l6 (a0 : TQuery) (a1 : Bs)  : Nat → Nat → TFrag → Option (TFrag × Bool)
 | 0, _, _ => none
 | n6 + 1, s6_7, y8_l0 => bif (decide (((s6_7 : Nat) : Int) < ((a0.FFrags.l.length : Nat) : Int))) then ((a0.FFrags.l[s6_7]?).bind fun x15 => bif ((x15.FName == a1)) then ((a0.FFrags.l[s6_7]?).bind fun x18 => some (x18, true)) else ((Z54_l6 a0 a1 n6) (s6_7 + 1) y8_l0)) else (Z54_j2   y8_l0)
def Z54 (a0 : TQuery) (a1 : Bs) : Option (TFrag × Bool) := Z54_l6 a0 a1 (a0.FFrags.l.length + 1) 0 TFrag.zero
theorem Z54_walk {a0 : TQuery} {a1 : Bs}   {r : (TFrag × Bool)} (hE : Z54 a0 a1 = some r) (H : Heap)  : ACalls Tryz.prog 32 [.agg (TQuery.c a0), .d (.str a1)] H fun v h' => v = .tup [.agg (TFrag.c r.1), .d (.bool r.2)] ∧ h' = H := by
 unfold Z54 at hE
 refine ACalls.of_wp (fn := Tryz.f32) (c := _) Tryz.tab_ok (fun _ _ => Tryz.call32 _ _) Tryz.func32 rfl (n := 28) rfl (rs := [.cell 4 48, .tmp 5]) rfl rfl ?_
 refine seqK fun K1 hK1 => ?_
 refine region ?_
 refine s0 (boxV rfl) rfl ?_
 refine sL (allocLA (TK rfl) rfl) rfl ?_
 refine s0 assignA rfl ?_
 refine nil ?_
 refine hK1 _ ?_
 clear hK1 K1
 refine seqJ (KeepsT.A (k := 4) KeepsT.nil) (fun (z : TFrag) => []) (fun z => [TFrag.c z]) (fun z => H) (fun z => Z54_j2 z = some r) ?_ ?_
 ·intro K2 hK2
  refine seqK fun K5 hK5 => ?_
  refine region ?_
  refine s0 assignA rfl ?_
  refine nil ?_
  refine hK5 _ ?_
  clear hK5 K5
  refine block ?_
  refine loopO (KeepsT.A (k := 1) (KeepsT.A (k := 2) (KeepsT.A (k := 4) KeepsT.nil))) (fun (z : Nat × Nat × TFrag) => [(6, .a (.d (.int .i64 ((z.2.1 : Nat) : Int))))]) (fun z => [TFrag.c z.2.2]) (fun z => H) (fun z => z.1) (fun z => Z54_l6 a0 a1 z.1 z.2.1 z.2.2 = some r) ((a0.FFrags.l.length + 1), 0, TFrag.zero) hE Weak.toA ?_
  rintro ⟨n6, s6_7, y8_l0⟩ hE K6 hK6
  try dsimp only at hE
  cases n6 with
  | zero => cases hE
  | succ n6 =>
    rw [Z54_l6] at hE
    refine seqK fun K9 hK9 => ?_
    refine seqK fun K10 hK10 => ?_
    refine region ?_
    refine s0 moveA rfl ?_
    refine s0 (fieldVA (TK rfl) rfl rfl (TK rfl) rfl rfl) rfl ?_
    refine s0 (loadV (TK rfl) rfl rfl rfl) rfl ?_
    refine sLen (f := TFrag.c) (s := a0.FFrags) (TK rfl) rfl rfl rfl rfl fun hL11 => ?_
    refine s0 (binI rfl rfl rfl) rfl ?_
    refine nil ?_
    refine hK10 _ ?_
    clear hK10 K10
    refine condE hE rfl (fun hc12 hE => ?_) (fun hc12 hE => ?_)
    ·try dsimp only at hc12
     have hf12 := of_decide_eq_true hc12
     refine AWp.skip ?_
     refine hK9 _ ?_
     clear hK9 K9
     refine seqK fun K13 hK13 => ?_
     refine block ?_
     refine seqK fun K14 hK14 => ?_
     refine region ?_
     refine s0 (fieldVA (TK rfl) rfl rfl (TK rfl) rfl rfl) rfl ?_
     refine s0 (loadV (TK rfl) rfl rfl rfl) rfl ?_
     refine s0 moveA rfl ?_
     obtain ⟨x15, gx15, hE⟩ := bindO_some hE
     refine s0 (idxMn (f := TFrag.c) (n := s6_7) (TK rfl) rfl (TK rfl) rfl rfl rfl gx15) rfl ?_
     refine s0 (fieldVA (TK rfl) rfl rfl (TK rfl) rfl rfl) rfl ?_
     refine s0 (loadV (TK rfl) rfl rfl rfl) rfl ?_
     refine s0 moveA rfl ?_
     refine s0 (binS rfl rfl rfl) rfl ?_
     refine nil ?_
     refine hK14 _ ?_
     clear hK14 K14
     refine condE hE rfl (fun hc16 hE => ?_) (fun hc16 hE => ?_)
     ·refine seqK fun K17 hK17 => ?_
      refine region ?_
      refine s0 (fieldVA (TK rfl) rfl rfl (TK rfl) rfl rfl) rfl ?_
      refine s0 (loadV (TK rfl) rfl rfl rfl) rfl ?_
      refine s0 moveA rfl ?_
      obtain ⟨x18, gx18, hE⟩ := bindO_some hE
      refine s0 (idxMn (f := TFrag.c) (n := s6_7) (TK rfl) rfl (TK rfl) rfl rfl rfl gx18) rfl ?_
      refine s0 (loadV (TK rfl) rfl rfl rfl) rfl ?_
      refine sLn (storeLFA (TK rfl) rfl rfl rfl rfl rfl) ?_
      refine s0 assignA rfl ?_
      refine nil ?_
      refine hK17 _ ?_
      clear hK17 K17
      refine AWp.ret ?_
      repeat (first | refine xBlock_ret ?_ | refine xThen_ret ?_)
      obtain rfl := Option.some.inj hE
      refine retQ.retF H rfl ⟨rfl, rfl⟩ ?_
      exact (fun _ _ h => h)
     refine AWp.skip ?_
     refine hK13 _ ?_
     clear hK13 K13
     refine region ?_
     refine s0 moveA rfl ?_
     refine s0 (addIA rfl rfl) rfl ?_
     refine s0 assignA rfl ?_
     refine nil ?_
     exact hK6 _ (n6, (s6_7 + 1), y8_l0) Weak.toA hE (Nat.lt_succ_self _)
    refine AWp.exit ?_
    exact hK2 _ y8_l0 Weak.toA hE
 rintro y3_l0 hE
 try dsimp only at hE
 unfold Z54_j2 at hE
 refine seqK fun K4 hK4 => ?_
 refine region ?_
 refine s0 (build Tryz.tab_ok rfl rfl rfl rfl rfl rfl) rfl ?_
 refine sLn (storeLFA (TK rfl) rfl rfl rfl rfl rfl) ?_
 refine s0 assignA rfl ?_
 refine nil ?_
 refine hK4 _ ?_
 clear hK4 K4
 refine AWp.ret ?_
 repeat (first | refine xBlock_ret ?_ | refine xThen_ret ?_)
 obtain rfl := Option.some.inj hE
 refine retQ.retF H rfl ⟨rfl, rfl⟩ ?_
 exact (fun _ _ h => h)
def Z57_j2   : Option Bool := some false
def Z57_l5 (a0 : (Sl Bs)) (a1 : Bs)  : Nat → Nat → Option Bool
 | 0, _ => none
 | n5 + 1, s5_6 => bif (decide (((s5_6 : Nat) : Int) < ((a0.l.length : Nat) : Int))) then ((a0.l[s5_6]?).bind fun x13 => bif ((x13 == a1)) then (some true) else ((Z57_l5 a0 a1 n5) (s5_6 + 1))) else (Z57_j2   )
def Z57 (a0 : (Sl Bs)) (a1 : Bs) : Option Bool := Z57_l5 a0 a1 (a0.l.length + 1) 0
theorem Z57_walk {a0 : (Sl Bs)} {a1 : Bs} {w0 : Option Nat}  {r : Bool} (hE : Z57 a0 a1 = some r) (H : Heap)  : ACalls Tryz.prog 110 [.d (Sl.d 1 strE w0 a0), .d (.str a1)] H fun v h' => v = .a (.d (.bool r)) ∧ h' = H := by
 unfold Z57 at hE
 refine ACalls.of_wp (fn := Tryz.f110) (c := _) Tryz.tab_ok (fun _ _ => Tryz.call110 _ _) Tryz.func110 rfl (n := 18) rfl (rs := [.tmp 4]) rfl rfl ?_
 refine seqK fun K1 hK1 => ?_
 refine region ?_
 refine s0 assignA rfl ?_
 refine nil ?_
 refine hK1 _ ?_
 clear hK1 K1
 refine seqJH KeepsT.nil (fun (z : Unit) => []) (fun z => H) (fun z => Z57_j2  = some r) ?_ ?_
 ·intro K2 hK2
  refine seqK fun K4 hK4 => ?_
  refine region ?_
  refine s0 assignA rfl ?_
  refine nil ?_
  refine hK4 _ ?_
  clear hK4 K4
  refine block ?_
  refine loopH (KeepsT.A (k := 0) (KeepsT.A (k := 1) KeepsT.nil)) (fun (z : Nat × Nat) => [(5, .a (.d (.int .i64 ((z.2 : Nat) : Int))))]) (fun z => H) (fun z => z.1) (fun z => Z57_l5 a0 a1 z.1 z.2 = some r) ((a0.l.length + 1), 0) hE Weak.toA ?_
  rintro ⟨n5, s5_6⟩ hE K5 hK5
  try dsimp only at hE
  cases n5 with
  | zero => cases hE
  | succ n5 =>
    rw [Z57_l5] at hE
    refine seqK fun K7 hK7 => ?_
    refine seqK fun K8 hK8 => ?_
    refine region ?_
    refine s0 moveA rfl ?_
    refine s0 moveA rfl ?_
    refine sLen (f := strE) (s := a0) (TK rfl) rfl rfl rfl rfl fun hL9 => ?_
    refine s0 (binI rfl rfl rfl) rfl ?_
    refine nil ?_
    refine hK8 _ ?_
    clear hK8 K8
    refine condE hE rfl (fun hc10 hE => ?_) (fun hc10 hE => ?_)
    ·try dsimp only at hc10
     have hf10 := of_decide_eq_true hc10
     refine AWp.skip ?_
     refine hK7 _ ?_
     clear hK7 K7
     refine seqK fun K11 hK11 => ?_
     refine block ?_
     refine seqK fun K12 hK12 => ?_
     refine region ?_
     refine s0 moveA rfl ?_
     refine s0 moveA rfl ?_
     obtain ⟨x13, gx13, hE⟩ := bindO_some hE
     refine s0 (idxMn (f := strE) (n := s5_6) (TK rfl) rfl (TK rfl) rfl rfl rfl gx13) rfl ?_
     refine s0 (loadV (TK rfl) rfl rfl rfl) rfl ?_
     refine s0 moveA rfl ?_
     refine s0 (binS rfl rfl rfl) rfl ?_
     refine nil ?_
     refine hK12 _ ?_
     clear hK12 K12
     refine condE hE rfl (fun hc14 hE => ?_) (fun hc14 hE => ?_)
     ·refine seqK fun K15 hK15 => ?_
      refine region ?_
      refine s0 assignA rfl ?_
      refine nil ?_
      refine hK15 _ ?_
      clear hK15 K15
      refine AWp.ret ?_
      repeat (first | refine xBlock_ret ?_ | refine xThen_ret ?_)
      obtain rfl := Option.some.inj hE
      refine retQ.retF H rfl ⟨rfl, rfl⟩ ?_
      exact (fun _ _ h => h)
     refine AWp.skip ?_
     refine hK11 _ ?_
     clear hK11 K11
     refine region ?_
     refine s0 moveA rfl ?_
     refine s0 (addIA rfl rfl) rfl ?_
     refine s0 assignA rfl ?_
     refine nil ?_
     exact hK5 _ (n5, (s5_6 + 1)) Weak.toA hE (Nat.lt_succ_self _)
    refine AWp.exit ?_
    exact hK2 _ () Weak.toA hE
 rintro _ hE
 try dsimp only at hE
 unfold Z57_j2 at hE
 refine seqK fun K3 hK3 => ?_
 refine region ?_
 refine s0 assignA rfl ?_
 refine nil ?_
 refine hK3 _ ?_
 clear hK3 K3
 refine AWp.ret ?_
 repeat (first | refine xBlock_ret ?_ | refine xThen_ret ?_)
 obtain rfl := Option.some.inj hE
 refine retQ.retF H rfl ⟨rfl, rfl⟩ ?_
 exact (fun _ _ h => h)
end Go.Proofs

namespace Go.Proofs
open Go Go.Ab
open AOps Cert AWp
def Z58_j3  (s2_4 : (Sl Bs)) (s8_5 : Bool) : Option ((Sl Bs) × Bool) := some (s2_4, s8_5)
def Z58_j16 (s9_11 : Nat) (k_next_8 : (Sl Bs) → Bool → Nat → Option ((Sl Bs) × Bool)) (s2_17 : (Sl Bs)) (s8_18 : Bool) : Option ((Sl Bs) × Bool) := k_next_8 s2_17 s8_18 (s9_11 + 1)
def Z58_j21 (a0 : TQuery) (s9_11 : Nat) (k_next_8 : (Sl Bs) → Bool → Nat → Option ((Sl Bs) × Bool)) (k_rec_68 : TQuery → (Sl TSel) → (Sl Bs) → Option ((Sl Bs) × Bool)) (s2_22 : (Sl Bs)) (s8_23 : Bool) (s10_24 : (Sl TSel)) : Option ((Sl Bs) × Bool) := (k_rec_68 a0 s10_24 s2_22).bind fun x26 => Z58_j16 s9_11 k_next_8 x26.1 (s8_23 && x26.2)
def Z58_j34 (a0 : TQuery) (s2_9 : (Sl Bs)) (s9_11 : Nat) (x33 : (TFrag × Bool)) (k_next_8 : (Sl Bs) → Bool → Nat → Option ((Sl Bs) × Bool)) (k_rec_68 : TQuery → (Sl TSel) → (Sl Bs) → Option ((Sl Bs) × Bool)) (s8_35 : Bool) : Option ((Sl Bs) × Bool) := guardO (!(!x33.2)) (Z57 s2_9 x33.1.FName) false fun x38 => bif ((!x33.2) || x38) then (Z58_j16 s9_11 k_next_8 s2_9 s8_35) else ((appC 16 s2_9 (⟨false, [x33.1.FName]⟩ : Sl Bs)).bind fun x41 => Z58_j21 a0 s9_11 k_next_8 k_rec_68 x41 s8_35 x33.1.FSels)
def Z58_l8 (a0 : TQuery) (a1 : (Sl TSel)) (k_rec_68 : TQuery → (Sl TSel) → (Sl Bs) → Option ((Sl Bs) × Bool)) : Nat → (Sl Bs) → Bool → Nat → Option ((Sl Bs) × Bool)
 | 0, _, _, _ => none
 | n8 + 1, s2_9, s8_10, s9_11 => bif (decide (((s9_11 : Nat) : Int) < ((a1.l.length : Nat) : Int))) then ((a1.l[s9_11]?).bind fun x20 => (a1.l[s9_11]?).bind fun x29 => bif (decide (x29.FKind = (2 : Int))) then ((a1.l[s9_11]?).bind fun x32 => (Z54 a0 x32.FName).bind fun x33 => bif (!x33.2) then (Z58_j34 a0 s2_9 s9_11 x33 ((Z58_l8 a0 a1 k_rec_68 n8)) k_rec_68 false) else (Z58_j34 a0 s2_9 s9_11 x33 ((Z58_l8 a0 a1 k_rec_68 n8)) k_rec_68 s8_10)) else (Z58_j21 a0 s9_11 ((Z58_l8 a0 a1 k_rec_68 n8)) k_rec_68 s2_9 s8_10 x20.FSels)) else (Z58_j3   s2_9 s8_10)
def Z58_n : Nat → TQuery → (Sl TSel) → (Sl Bs) → Option ((Sl Bs) × Bool)
 | 0, _, _, _ => none
 | n + 1, a0, a1, a2 => Z58_l8 a0 a1 (Z58_n n) (a1.l.length + 1) a2 true 0
theorem Z58_step (n : Nat) (ih_68 : ∀ {a0 : TQuery} {a1 : (Sl TSel)} {a2 : (Sl Bs)} {w1 : Option Nat} {g2 : Nat} {r : ((Sl Bs) × Bool)}, Z58_n n a0 a1 a2 = some r → ∀ (H : Heap) (hg2 : H g2 = some (.tok 1 a2.l.length)), ACalls Tryz.prog 68 [.agg (TQuery.c a0), .d (Sl.d 7 TSel.c w1 a1), .d (Sl.d 1 strE (some g2) a2)] H fun v h' => v = .tup [.d (Sl.d 1 strE (some g2) r.1), .d (.bool r.2)] ∧ h' = (H.set g2 (some (.tok 1 r.1.l.length)))) : ∀ {a0 : TQuery} {a1 : (Sl TSel)} {a2 : (Sl Bs)} {w1 : Option Nat} {g2 : Nat} {r : ((Sl Bs) × Bool)}, Z58_n (n + 1) a0 a1 a2 = some r → ∀ (H : Heap) (hg2 : H g2 = some (.tok 1 a2.l.length)), ACalls Tryz.prog 68 [.agg (TQuery.c a0), .d (Sl.d 7 TSel.c w1 a1), .d (Sl.d 1 strE (some g2) a2)] H fun v h' => v = .tup [.d (Sl.d 1 strE (some g2) r.1), .d (.bool r.2)] ∧ h' = (H.set g2 (some (.tok 1 r.1.l.length))) := by
 intro a0 a1 a2 w1 g2 r hE H hg2
 rw [Z58_n] at hE
 refine ACalls.of_wp (fn := Tryz.f68) (c := _) Tryz.tab_ok (fun _ _ => Tryz.call68 _ _) Tryz.func68 rfl (n := 73) rfl (rs := [.tmp 6, .tmp 7]) rfl rfl ?_
 refine AWp.heqA (h' := (H.set g2 (some (.tok 1 a2.l.length)))) (by funext n_; simp only [Heap.set]; (repeat' split) <;> simp_all) ?_
 refine seqK fun K1 hK1 => ?_
 refine region ?_
 refine s0 (boxV rfl) rfl ?_
 refine s0 assignA rfl ?_
 refine s0 assignA rfl ?_
 refine nil ?_
 refine hK1 _ ?_
 clear hK1 K1
 refine seqK fun K2 hK2 => ?_
 refine region ?_
 refine s0 assignA rfl ?_
 refine nil ?_
 refine hK2 _ ?_
 clear hK2 K2
 refine seqJH KeepsT.nil (fun (z : (Sl Bs) × Bool) => [(2, .a (.d (Sl.d 1 strE (some g2) z.1))), (8, .a (.d (.bool z.2)))]) (fun z => (H.set g2 (some (.tok 1 z.1.l.length)))) (fun z => Z58_j3 z.1 z.2 = some r) ?_ ?_
 ·intro K3 hK3
  refine seqK fun K7 hK7 => ?_
  refine region ?_
  refine s0 assignA rfl ?_
  refine nil ?_
  refine hK7 _ ?_
  clear hK7 K7
  refine block ?_
  refine loopH (KeepsT.A (k := 1) (KeepsT.A (k := 3) KeepsT.nil)) (fun (z : Nat × (Sl Bs) × Bool × Nat) => [(2, .a (.d (Sl.d 1 strE (some g2) z.2.1))), (8, .a (.d (.bool z.2.2.1))), (9, .a (.d (.int .i64 ((z.2.2.2 : Nat) : Int))))]) (fun z => (H.set g2 (some (.tok 1 z.2.1.l.length)))) (fun z => z.1) (fun z => Z58_l8 a0 a1 (Z58_n n) z.1 z.2.1 z.2.2.1 z.2.2.2 = some r) ((a1.l.length + 1), a2, true, 0) hE Weak.toA ?_
  rintro ⟨n8, s2_9, s8_10, s9_11⟩ hE K8 hK8
  try dsimp only at hE
  cases n8 with
  | zero => cases hE
  | succ n8 =>
    rw [Z58_l8] at hE
    refine seqK fun K12 hK12 => ?_
    refine seqK fun K13 hK13 => ?_
    refine region ?_
    refine s0 moveA rfl ?_
    refine s0 moveA rfl ?_
    refine sLen (f := TSel.c) (s := a1) (TK rfl) rfl rfl rfl rfl fun hL14 => ?_
    refine s0 (binI rfl rfl rfl) rfl ?_
    refine nil ?_
    refine hK13 _ ?_
    clear hK13 K13
    refine condE hE rfl (fun hc15 hE => ?_) (fun hc15 hE => ?_)
    ·try dsimp only at hc15
     have hf15 := of_decide_eq_true hc15
     refine AWp.skip ?_
     refine hK12 _ ?_
     clear hK12 K12
     refine seqJH (KeepsT.A (k := 1) (KeepsT.A (k := 3) (KeepsT.A (k := 9) KeepsT.nil))) (fun (z : (Sl Bs) × Bool) => [(2, .a (.d (Sl.d 1 strE (some g2) z.1))), (8, .a (.d (.bool z.2)))]) (fun z => (H.set g2 (some (.tok 1 z.1.l.length)))) (fun z => Z58_j16 s9_11 ((Z58_l8 a0 a1 (Z58_n n) n8)) z.1 z.2 = some r) ?_ ?_
     ·intro K16 hK16
      refine block ?_
      refine seqK fun K19 hK19 => ?_
      refine region ?_
      refine s0 moveA rfl ?_
      refine s0 moveA rfl ?_
      obtain ⟨x20, gx20, hE⟩ := bindO_some hE
      refine s0 (idxMn (f := TSel.c) (n := s9_11) (TK rfl) rfl (TK rfl) rfl rfl rfl gx20) rfl ?_
      refine s0 (fieldVA (TK rfl) rfl rfl (TK rfl) rfl rfl) rfl ?_
      refine s0 (loadV (TK rfl) rfl rfl (congrArg (fun x => some (A.d x)) (TSel.FSelsD_eq _))) rfl ?_
      refine s0 assignA rfl ?_
      refine nil ?_
      refine hK19 _ ?_
      clear hK19 K19
      refine seqJH (KeepsT.A (k := 1) (KeepsT.A (k := 3) (KeepsT.A (k := 9) KeepsT.nil))) (fun (z : (Sl Bs) × Bool × (Sl TSel)) => [(2, .a (.d (Sl.d 1 strE (some g2) z.1))), (8, .a (.d (.bool z.2.1))), (10, .a (.d (Sl.d 7 TSel.c none z.2.2)))]) (fun z => (H.set g2 (some (.tok 1 z.1.l.length)))) (fun z => Z58_j21 a0 s9_11 ((Z58_l8 a0 a1 (Z58_n n) n8)) (Z58_n n) z.1 z.2.1 z.2.2 = some r) ?_ ?_
      ·intro K21 hK21
       refine seqK fun K28 hK28 => ?_
       refine region ?_
       refine s0 moveA rfl ?_
       refine s0 moveA rfl ?_
       obtain ⟨x29, gx29, hE⟩ := bindO_some hE
       refine s0 (idxMn (f := TSel.c) (n := s9_11) (TK rfl) rfl (TK rfl) rfl rfl rfl gx29) rfl ?_
       refine s0 (fieldVA (TK rfl) rfl rfl (TK rfl) rfl rfl) rfl ?_
       refine s0 (loadV (TK rfl) rfl rfl rfl) rfl ?_
       refine s0 (binI rfl rfl rfl) rfl ?_
       refine nil ?_
       refine hK28 _ ?_
       clear hK28 K28
       refine condE hE rfl (fun hc30 hE => ?_) (fun hc30 hE => ?_)
       ·refine seqK fun K31 hK31 => ?_
        refine AWp.draw rfl ?_
        refine DOps.s0 (loadV (TK rfl) rfl rfl rfl) rfl ?_
        refine DOps.s0 moveA rfl ?_
        refine DOps.s0 moveA rfl ?_
        obtain ⟨x32, gx32, hE⟩ := bindO_some hE
        refine DOps.s0 (idxMn (f := TSel.c) (n := s9_11) (TK rfl) rfl (TK rfl) rfl rfl rfl gx32) rfl ?_
        refine DOps.s0 (fieldVA (TK rfl) rfl rfl (TK rfl) rfl rfl) rfl ?_
        refine DOps.s0 (loadV (TK rfl) rfl rfl rfl) rfl ?_
        obtain ⟨x33, gx33, hE⟩ := bindO_some hE
        refine DOps.s0 (callP rfl rfl (fun H => Z54_walk gx33 H)) rfl ?_
        refine DOps.s0 moveA rfl ?_
        refine DOps.s0 (extract rfl rfl) rfl ?_
        refine DOps.s0 (extract rfl rfl) rfl ?_
        refine DOps.sL (allocLA (TK rfl) rfl) rfl ?_
        refine DOps.sLn (storeLFA (TK rfl) rfl rfl rfl rfl rfl) ?_
        refine DOps.s0 assignA rfl ?_
        refine DOps.nil (by decide +kernel) ?_
        refine hK31 _ ?_
        clear hK31 K31
        refine freezeA 11 _ rfl (Keeps.c (k := 1) (by conv => lhs; whnf) (by rfl) (Keeps.c (k := 2) (by conv => lhs; whnf) (by rfl) (Keeps.c (k := 3) (by conv => lhs; whnf) (by rfl) (Keeps.c (k := 8) (by conv => lhs; whnf) (by rfl) (Keeps.c (k := 9) (by conv => lhs; whnf) (by rfl) (Keeps.c (k := 12) (by conv => lhs; whnf) (by rfl) Keeps.nil)))))) ?_
        refine seqJH (KeepsT.A (k := 1) (KeepsT.A (k := 2) (KeepsT.A (k := 3) (KeepsT.A (k := 9) (KeepsT.A (k := 11) (KeepsT.A (k := 12) KeepsT.nil)))))) (fun (z : Bool) => [(8, .a (.d (.bool z)))]) (fun z => (H.set g2 (some (.tok 1 s2_9.l.length)))) (fun z => Z58_j34 a0 s2_9 s9_11 x33 ((Z58_l8 a0 a1 (Z58_n n) n8)) (Z58_n n) z = some r) ?_ ?_
        ·intro K34 hK34
         refine seqK fun K42 hK42 => ?_
         refine region ?_
         refine s0 moveA rfl ?_
         refine s0 (notB rfl) rfl ?_
         refine nil ?_
         refine hK42 _ ?_
         clear hK42 K42
         refine condE hE rfl (fun hc43 hE => ?_) (fun hc43 hE => ?_)
         ·refine region ?_
          refine s0 assignA rfl ?_
          refine nil ?_
          exact hK34 _ false Weak.toA hE
         refine AWp.skip ?_
         exact hK34 _ s8_10 Weak.toA hE
        rintro s8_35 hE
        try dsimp only at hE
        unfold Z58_j34 at hE
        refine seqK fun K36 hK36 => ?_
        refine seqK fun K37 hK37 => ?_
        refine region ?_
        refine s0 moveA rfl ?_
        refine s0 (notB rfl) rfl ?_
        refine s0 moveA rfl ?_
        refine gC rfl rfl (fun hC => moveA) rfl ?_
        refine gC rfl rfl (fun hC => fieldVA (TK rfl) rfl rfl (TK rfl) rfl rfl) rfl ?_
        refine gC rfl rfl (fun hC => ungdA (k := 48) rfl (loadV (TK rfl) rfl rfl rfl)) rfl ?_
        obtain ⟨x38, gx38, hE⟩ := guardO_some hE
        refine gC rfl rfl (fun hC => ungdA (k := 47) rfl (ungdA (k := 49) rfl (callP rfl rfl (fun H => Z57_walk (gx38 hC) H)))) rfl ?_
        refine s0 (pickOrA rfl rfl rfl) rfl ?_
        refine nil ?_
        refine hK37 _ ?_
        clear hK37 K37
        refine condE hE rfl (fun hc39 hE => ?_) (fun hc39 hE => ?_)
        ·refine AWp.exit ?_
         exact hK16 _ (s2_9, s8_35) Weak.toA hE
        refine AWp.skip ?_
        refine hK36 _ ?_
        clear hK36 K36
        refine seqK fun K40 hK40 => ?_
        refine region ?_
        refine s0 moveA rfl ?_
        refine s0 (fieldVA (TK rfl) rfl rfl (TK rfl) rfl rfl) rfl ?_
        refine s0 (loadV (TK rfl) rfl rfl rfl) rfl ?_
        refine s0 (buildSlice (TK rfl) rfl (TK rfl) rfl rfl rfl rfl rfl rfl) rfl ?_
        obtain ⟨x41, gx41, hE⟩ := bindO_some hE
        refine sH (appM (f := strE) (TK rfl) rfl (TK rfl) (TK rfl) ⟨_, rfl⟩ rfl rfl (by decide) rfl rfl rfl rfl hpG rfl gx41) rfl ?_
        refine AOps.heq (h' := (H.set g2 (some (.tok 1 x41.l.length)))) (by first | rfl | (rw [Heap.set_set]; rfl) | (funext n_; simp only [Heap.set]; (repeat' split) <;> first | rfl | (exfalso; simp_all; done) | (simp_all; done))) ?_
        refine s0 assignA rfl ?_
        refine nil ?_
        refine hK40 _ ?_
        clear hK40 K40
        refine region ?_
        refine s0 (fieldVA (TK rfl) rfl rfl (TK rfl) rfl rfl) rfl ?_
        refine s0 (loadV (TK rfl) rfl rfl rfl) rfl ?_
        refine s0 assignA rfl ?_
        refine nil ?_
        exact hK21 _ (x41, s8_35, x33.1.FSels) Weak.toA hE
       refine AWp.skip ?_
       exact hK21 _ (s2_9, s8_10, x20.FSels) Weak.toA hE
      rintro ⟨s2_22, s8_23, s10_24⟩ hE
      try dsimp only at hE
      unfold Z58_j21 at hE
      refine seqK fun K25 hK25 => ?_
      refine region ?_
      refine s0 (loadV (TK rfl) rfl rfl rfl) rfl ?_
      refine s0 moveA rfl ?_
      refine s0 moveA rfl ?_
      obtain ⟨x26, gx26, hE⟩ := bindO_some hE
      refine sH (callH rfl rfl (ih_68 gx26 _ hpG)) rfl ?_
      refine AOps.heq (h' := (H.set g2 (some (.tok 1 x26.1.l.length)))) (by first | rfl | (rw [Heap.set_set]; rfl) | (funext n_; simp only [Heap.set]; (repeat' split) <;> first | rfl | (exfalso; simp_all; done) | (simp_all; done))) ?_
      refine s0 moveA rfl ?_
      refine s0 (extract rfl rfl) rfl ?_
      refine s0 (extract rfl rfl) rfl ?_
      refine s0 assignA rfl ?_
      refine s0 assignA rfl ?_
      refine nil ?_
      refine hK25 _ ?_
      clear hK25 K25
      refine seqK fun K27 hK27 => ?_
      refine region ?_
      refine s0 moveA rfl ?_
      refine s0 assignA rfl ?_
      refine nil ?_
      refine hK27 _ ?_
      clear hK27 K27
      refine region ?_
      refine s0 moveA rfl ?_
      refine s0 moveA rfl ?_
      refine gC rfl rfl (fun hC => moveA) rfl ?_
      refine s0 (pickAndA rfl rfl rfl) rfl ?_
      refine s0 assignA rfl ?_
      refine nil ?_
      exact hK16 _ (x26.1, (s8_23 && x26.2)) Weak.toA hE
     rintro ⟨s2_17, s8_18⟩ hE
     try dsimp only at hE
     unfold Z58_j16 at hE
     refine region ?_
     refine s0 moveA rfl ?_
     refine s0 (addIA rfl rfl) rfl ?_
     refine s0 assignA rfl ?_
     refine nil ?_
     exact hK8 _ (n8, s2_17, s8_18, (s9_11 + 1)) Weak.toA hE (Nat.lt_succ_self _)
    refine AWp.exit ?_
    exact hK3 _ (s2_9, s8_10) Weak.toA hE
 rintro ⟨s2_4, s8_5⟩ hE
 try dsimp only at hE
 unfold Z58_j3 at hE
 refine seqK fun K6 hK6 => ?_
 refine region ?_
 refine s0 moveA rfl ?_
 refine s0 moveA rfl ?_
 refine s0 assignA rfl ?_
 refine s0 assignA rfl ?_
 refine nil ?_
 refine hK6 _ ?_
 clear hK6 K6
 refine AWp.ret ?_
 repeat (first | refine xBlock_ret ?_ | refine xThen_ret ?_)
 obtain rfl := Option.some.inj hE
 refine retQ.retF (H.set g2 (some (.tok 1 s2_4.l.length))) rfl ⟨rfl, rfl⟩ ?_
 exact (fun _ _ h => h)
theorem Z58_all : ∀ (n : Nat), (∀ {a0 : TQuery} {a1 : (Sl TSel)} {a2 : (Sl Bs)} {w1 : Option Nat} {g2 : Nat} {r : ((Sl Bs) × Bool)}, Z58_n n a0 a1 a2 = some r → ∀ (H : Heap) (hg2 : H g2 = some (.tok 1 a2.l.length)), ACalls Tryz.prog 68 [.agg (TQuery.c a0), .d (Sl.d 7 TSel.c w1 a1), .d (Sl.d 1 strE (some g2) a2)] H fun v h' => v = .tup [.d (Sl.d 1 strE (some g2) r.1), .d (.bool r.2)] ∧ h' = (H.set g2 (some (.tok 1 r.1.l.length))))
 | 0 => fun hE => by first | cases hE | (rw [Z58_n] at hE; cases hE)
 | n + 1 => Z58_step n (Z58_all n)
def Z58 (a0 : TQuery) (a1 : (Sl TSel)) (a2 : (Sl Bs)) : Option ((Sl Bs) × Bool) := Z58_n F0 a0 a1 a2
theorem Z58_walk {a0 : TQuery} {a1 : (Sl TSel)} {a2 : (Sl Bs)} {w1 : Option Nat} {g2 : Nat} {r : ((Sl Bs) × Bool)} (hE : Z58 a0 a1 a2 = some r) (H : Heap) (hg2 : H g2 = some (.tok 1 a2.l.length)) : ACalls Tryz.prog 68 [.agg (TQuery.c a0), .d (Sl.d 7 TSel.c w1 a1), .d (Sl.d 1 strE (some g2) a2)] H fun v h' => v = .tup [.d (Sl.d 1 strE (some g2) r.1), .d (.bool r.2)] ∧ h' = (H.set g2 (some (.tok 1 r.1.l.length))) := (Z58_all F0) hE H hg2
def Z56 (a0 : TQuery) (a1 : TFrag) : Option Bool := (Z58 a0 a1.FSels (Sl.nil : Sl Bs)).bind fun x4 => (Z57 x4.1 a1.FName).bind fun x6 => some x6
theorem Z56_walk {a0 : TQuery} {a1 : TFrag}   {r : Bool} (hE : Z56 a0 a1 = some r) (H : Heap)  : ACalls Tryz.prog 69 [.agg (TQuery.c a0), .agg (TFrag.c a1)] H fun v h' => v = .a (.d (.bool r)) ∧ h' = H := by
 unfold Z56 at hE
 refine ACalls.of_wp (fn := Tryz.f69) (c := _) Tryz.tab_ok (fun _ _ => Tryz.call69 _ _) Tryz.func69 rfl (n := 18) rfl (rs := [.tmp 4]) rfl rfl ?_
 refine seqK fun K1 hK1 => ?_
 refine region ?_
 refine s0 (boxV rfl) rfl ?_
 refine s0 (boxV rfl) rfl ?_
 refine s0 assignA rfl ?_
 refine nil ?_
 refine hK1 _ ?_
 clear hK1 K1
 refine seqK fun K2 hK2 => ?_
 refine AWp.tok 1 fun tk2_3 htk2_3 => ?_
 refine region ?_
 refine s0 (loadV (TK rfl) rfl rfl rfl) rfl ?_
 refine s0 (fieldVA (TK rfl) rfl rfl (TK rfl) rfl rfl) rfl ?_
 refine s0 (loadV (TK rfl) rfl rfl rfl) rfl ?_
 obtain ⟨x4, gx4, hE⟩ := bindO_some hE
 refine sH (callH rfl rfl (ACalls.asArgs (.cons (.refl _) (.cons (.refl _) (.cons (AsArg.nil (k' := 1) (t := tk2_3) hpG) .nil))) (Z58_walk gx4 _ hpG))) rfl ?_
 refine AOps.heq (h' := (H.set tk2_3 (some (.tok 1 x4.1.l.length)))) (by first | rfl | (rw [Heap.set_set]; rfl) | (funext n_; simp only [Heap.set]; (repeat' split) <;> first | rfl | (exfalso; simp_all; done) | (simp_all; done))) ?_
 refine s0 moveA rfl ?_
 refine s0 (extract rfl rfl) rfl ?_
 refine s0 (extract rfl rfl) rfl ?_
 refine s0 assignA rfl ?_
 refine s0 assignA rfl ?_
 refine nil ?_
 refine hK2 _ ?_
 clear hK2 K2
 refine AWp.dropTok 5 rfl ?_
 refine seqK fun K5 hK5 => ?_
 refine region ?_
 refine s0 moveA rfl ?_
 refine s0 (fieldVA (TK rfl) rfl rfl (TK rfl) rfl rfl) rfl ?_
 refine s0 (loadV (TK rfl) rfl rfl rfl) rfl ?_
 obtain ⟨x6, gx6, hE⟩ := bindO_some hE
 refine s0 (callP rfl rfl (fun H => Z57_walk gx6 H)) rfl ?_
 refine s0 assignA rfl ?_
 refine nil ?_
 refine hK5 _ ?_
 clear hK5 K5
 refine AWp.ret ?_
 repeat (first | refine xBlock_ret ?_ | refine xThen_ret ?_)
 obtain rfl := Option.some.inj hE
 refine retQ.retF H rfl ⟨rfl, rfl⟩ ?_
 first | exact Heap.sub_set htk2_3 | (simp only [Heap.set_set]; exact Heap.sub_set htk2_3)
def Z55_j5 (x4 : ((Sl Bs) × Bool))  (s7_6 : Bool) : Option ((Sl Bs) × Bool) := some (x4.1, s7_6)
def Z55_j16 (s8_11 : Nat) (k_next_9 : Bool → Nat → Option ((Sl Bs) × Bool)) (s7_17 : Bool) : Option ((Sl Bs) × Bool) := k_next_9 s7_17 (s8_11 + 1)
def Z55_l9 (a0 : TQuery) (x4 : ((Sl Bs) × Bool))  : Nat → Bool → Nat → Option ((Sl Bs) × Bool)
 | 0, _, _ => none
 | n9 + 1, s7_10, s8_11 => bif (decide (((s8_11 : Nat) : Int) < ((x4.1.l.length : Nat) : Int))) then ((x4.1.l[s8_11]?).bind fun x19 => (Z54 a0 x19).bind fun x20 => (Z56 a0 x20.1).bind fun x22 => bif x22 then (Z55_j16 s8_11 ((Z55_l9 a0 x4 n9)) false) else (Z55_j16 s8_11 ((Z55_l9 a0 x4 n9)) s7_10)) else (Z55_j5 x4  s7_10)
def Z55 (a0 : TQuery) (a1 : (Sl TSel)) : Option ((Sl Bs) × Bool) := (Z58 a0 a1 (Sl.nil : Sl Bs)).bind fun x4 => Z55_l9 a0 x4 (x4.1.l.length + 1) x4.2 0
theorem Z55_walk {a0 : TQuery} {a1 : (Sl TSel)} {w1 : Option Nat}  {r : ((Sl Bs) × Bool)} (hE : Z55 a0 a1 = some r) (H : Heap)  : ACalls Tryz.prog 31 [.agg (TQuery.c a0), .d (Sl.d 7 TSel.c w1 a1)] H fun v h' => v = .tup [.d (Sl.d 1 strE none r.1), .d (.bool r.2)] ∧ h' = H := by
 unfold Z55 at hE
 refine ACalls.of_wp (fn := Tryz.f31) (c := _) Tryz.tab_ok (fun _ _ => Tryz.call31 _ _) Tryz.func31 rfl (n := 37) rfl (rs := [.tmp 4, .tmp 5]) rfl rfl ?_
 refine seqK fun K1 hK1 => ?_
 refine region ?_
 refine s0 (boxV rfl) rfl ?_
 refine s0 (assignNil (k' := 1) rfl) rfl ?_
 refine s0 assignA rfl ?_
 refine nil ?_
 refine hK1 _ ?_
 clear hK1 K1
 refine seqK fun K2 hK2 => ?_
 refine AWp.tok 1 fun tk2_3 htk2_3 => ?_
 refine region ?_
 refine s0 (loadV (TK rfl) rfl rfl rfl) rfl ?_
 refine s0 moveA rfl ?_
 obtain ⟨x4, gx4, hE⟩ := bindO_some hE
 refine sH (callH rfl rfl (ACalls.asArgs (.cons (.refl _) (.cons (.refl _) (.cons (AsArg.nil (k' := 1) (t := tk2_3) hpG) .nil))) (Z58_walk gx4 _ hpG))) rfl ?_
 refine AOps.heq (h' := (H.set tk2_3 (some (.tok 1 x4.1.l.length)))) (by first | rfl | (rw [Heap.set_set]; rfl) | (funext n_; simp only [Heap.set]; (repeat' split) <;> first | rfl | (exfalso; simp_all; done) | (simp_all; done))) ?_
 refine s0 moveA rfl ?_
 refine s0 (extract rfl rfl) rfl ?_
 refine s0 (extract rfl rfl) rfl ?_
 refine s0 assignA rfl ?_
 refine s0 assignA rfl ?_
 refine nil ?_
 refine hK2 _ ?_
 clear hK2 K2
 refine AWp.dropTok 6 rfl ?_
 refine seqJH (KeepsT.A (k := 6) KeepsT.nil) (fun (z : Bool) => [(7, .a (.d (.bool z)))]) (fun z => (H.set tk2_3 (some (.tok 1 x4.1.l.length)))) (fun z => Z55_j5 x4 z = some r) ?_ ?_
 ·intro K5 hK5
  refine seqK fun K8 hK8 => ?_
  refine region ?_
  refine s0 assignA rfl ?_
  refine nil ?_
  refine hK8 _ ?_
  clear hK8 K8
  refine block ?_
  refine loopH (KeepsT.A (k := 2) (KeepsT.A (k := 6) KeepsT.nil)) (fun (z : Nat × Bool × Nat) => [(7, .a (.d (.bool z.2.1))), (8, .a (.d (.int .i64 ((z.2.2 : Nat) : Int))))]) (fun z => (H.set tk2_3 (some (.tok 1 x4.1.l.length)))) (fun z => z.1) (fun z => Z55_l9 a0 x4 z.1 z.2.1 z.2.2 = some r) ((x4.1.l.length + 1), x4.2, 0) hE Weak.toA ?_
  rintro ⟨n9, s7_10, s8_11⟩ hE K9 hK9
  try dsimp only at hE
  cases n9 with
  | zero => cases hE
  | succ n9 =>
    rw [Z55_l9] at hE
    refine seqK fun K12 hK12 => ?_
    refine seqK fun K13 hK13 => ?_
    refine region ?_
    refine s0 moveA rfl ?_
    refine s0 moveA rfl ?_
    refine sLen (f := strE) (s := x4.1) (TK rfl) rfl rfl rfl rfl fun hL14 => ?_
    refine s0 (binI rfl rfl rfl) rfl ?_
    refine nil ?_
    refine hK13 _ ?_
    clear hK13 K13
    refine condE hE rfl (fun hc15 hE => ?_) (fun hc15 hE => ?_)
    ·try dsimp only at hc15
     have hf15 := of_decide_eq_true hc15
     refine AWp.skip ?_
     refine hK12 _ ?_
     clear hK12 K12
     refine seqJH (KeepsT.A (k := 2) (KeepsT.A (k := 6) (KeepsT.A (k := 8) KeepsT.nil))) (fun (z : Bool) => [(7, .a (.d (.bool z)))]) (fun z => (H.set tk2_3 (some (.tok 1 x4.1.l.length)))) (fun z => Z55_j16 s8_11 ((Z55_l9 a0 x4 n9)) z = some r) ?_ ?_
     ·intro K16 hK16
      refine block ?_
      refine seqK fun K18 hK18 => ?_
      refine AWp.draw rfl ?_
      refine DOps.s0 (loadV (TK rfl) rfl rfl rfl) rfl ?_
      refine DOps.s0 moveA rfl ?_
      refine DOps.s0 moveA rfl ?_
      obtain ⟨x19, gx19, hE⟩ := bindO_some hE
      refine DOps.s0 (idxMn (f := strE) (n := s8_11) (TK rfl) rfl (TK rfl) rfl rfl rfl gx19) rfl ?_
      refine DOps.s0 (loadV (TK rfl) rfl rfl rfl) rfl ?_
      obtain ⟨x20, gx20, hE⟩ := bindO_some hE
      refine DOps.s0 (callP rfl rfl (fun H => Z54_walk gx20 H)) rfl ?_
      refine DOps.s0 moveA rfl ?_
      refine DOps.s0 (extract rfl rfl) rfl ?_
      refine DOps.s0 (extract rfl rfl) rfl ?_
      refine DOps.sL (allocLA (TK rfl) rfl) rfl ?_
      refine DOps.sLn (storeLFA (TK rfl) rfl rfl rfl rfl rfl) ?_
      refine DOps.s0 assignA rfl ?_
      refine DOps.nil (by decide +kernel) ?_
      refine hK18 _ ?_
      clear hK18 K18
      refine freezeA 9 _ rfl (Keeps.c (k := 2) (by conv => lhs; whnf) (by rfl) (Keeps.c (k := 6) (by conv => lhs; whnf) (by rfl) (Keeps.c (k := 7) (by conv => lhs; whnf) (by rfl) (Keeps.c (k := 8) (by conv => lhs; whnf) (by rfl) Keeps.nil)))) ?_
      refine seqK fun K21 hK21 => ?_
      refine region ?_
      refine s0 (loadV (TK rfl) rfl rfl rfl) rfl ?_
      refine s0 (loadV (TK rfl) rfl rfl rfl) rfl ?_
      obtain ⟨x22, gx22, hE⟩ := bindO_some hE
      refine s0 (callP rfl rfl (fun H => Z56_walk gx22 H)) rfl ?_
      refine nil ?_
      refine hK21 _ ?_
      clear hK21 K21
      refine condE hE rfl (fun hc23 hE => ?_) (fun hc23 hE => ?_)
      ·refine region ?_
       refine s0 assignA rfl ?_
       refine nil ?_
       exact hK16 _ false Weak.toA hE
      refine AWp.skip ?_
      exact hK16 _ s7_10 Weak.toA hE
     rintro s7_17 hE
     try dsimp only at hE
     unfold Z55_j16 at hE
     refine region ?_
     refine s0 moveA rfl ?_
     refine s0 (addIA rfl rfl) rfl ?_
     refine s0 assignA rfl ?_
     refine nil ?_
     exact hK9 _ (n9, s7_17, (s8_11 + 1)) Weak.toA hE (Nat.lt_succ_self _)
    refine AWp.exit ?_
    exact hK5 _ s7_10 Weak.toA hE
 rintro s7_6 hE
 try dsimp only at hE
 unfold Z55_j5 at hE
 refine seqK fun K7 hK7 => ?_
 refine region ?_
 refine s0 moveA rfl ?_
 refine s0 moveA rfl ?_
 refine s0 assignA rfl ?_
 refine s0 assignA rfl ?_
 refine nil ?_
 refine hK7 _ ?_
 clear hK7 K7
 refine AWp.ret ?_
 repeat (first | refine xBlock_ret ?_ | refine xThen_ret ?_)
 obtain rfl := Option.some.inj hE
 refine retQ.retF H rfl ⟨rfl, rfl⟩ ?_
 first | exact Heap.sub_set htk2_3 | (simp only [Heap.set_set]; exact Heap.sub_set htk2_3)
def Z66 (a0 : TUse) (a1 : TUse) : Option Bool := bif (!(a0.FType == a1.FType)) then (some (Op.bytesLess a0.FType a1.FType)) else (bif (!(a0.FField == a1.FField)) then (some (Op.bytesLess a0.FField a1.FField)) else (some (Op.bytesLess a0.FArg a1.FArg)))
theorem Z66_walk {a0 : TUse} {a1 : TUse}   {r : Bool} (hE : Z66 a0 a1 = some r) (H : Heap)  : ACalls Tryz.prog 114 [.agg (TUse.c a0), .agg (TUse.c a1)] H fun v h' => v = .a (.d (.bool r)) ∧ h' = H := by
 unfold Z66 at hE
 refine ACalls.of_wp (fn := Tryz.f114) (c := _) Tryz.tab_ok (fun _ _ => Tryz.call114 _ _) Tryz.func114 rfl (n := 30) rfl (rs := [.tmp 4]) rfl rfl ?_
 refine seqK fun K1 hK1 => ?_
 refine region ?_
 refine s0 (boxV rfl) rfl ?_
 refine s0 (boxV rfl) rfl ?_
 refine s0 assignA rfl ?_
 refine nil ?_
 refine hK1 _ ?_
 clear hK1 K1
 refine seqK fun K2 hK2 => ?_
 refine seqK fun K3 hK3 => ?_
 refine region ?_
 refine s0 (fieldVA (TK rfl) rfl rfl (TK rfl) rfl rfl) rfl ?_
 refine s0 (loadV (TK rfl) rfl rfl rfl) rfl ?_
 refine s0 (fieldVA (TK rfl) rfl rfl (TK rfl) rfl rfl) rfl ?_
 refine s0 (loadV (TK rfl) rfl rfl rfl) rfl ?_
 refine s0 (binS rfl rfl rfl) rfl ?_
 refine nil ?_
 refine hK3 _ ?_
 clear hK3 K3
 refine condE hE rfl (fun hc4 hE => ?_) (fun hc4 hE => ?_)
 ·refine seqK fun K5 hK5 => ?_
  refine region ?_
  refine s0 (fieldVA (TK rfl) rfl rfl (TK rfl) rfl rfl) rfl ?_
  refine s0 (loadV (TK rfl) rfl rfl rfl) rfl ?_
  refine s0 (fieldVA (TK rfl) rfl rfl (TK rfl) rfl rfl) rfl ?_
  refine s0 (loadV (TK rfl) rfl rfl rfl) rfl ?_
  refine s0 (binS rfl rfl rfl) rfl ?_
  refine s0 assignA rfl ?_
  refine nil ?_
  refine hK5 _ ?_
  clear hK5 K5
  refine AWp.ret ?_
  repeat (first | refine xBlock_ret ?_ | refine xThen_ret ?_)
  obtain rfl := Option.some.inj hE
  refine retQ.retF H rfl ⟨rfl, rfl⟩ ?_
  exact (fun _ _ h => h)
 refine AWp.skip ?_
 refine hK2 _ ?_
 clear hK2 K2
 refine seqK fun K6 hK6 => ?_
 refine seqK fun K7 hK7 => ?_
 refine region ?_
 refine s0 (fieldVA (TK rfl) rfl rfl (TK rfl) rfl rfl) rfl ?_
 refine s0 (loadV (TK rfl) rfl rfl rfl) rfl ?_
 refine s0 (fieldVA (TK rfl) rfl rfl (TK rfl) rfl rfl) rfl ?_
 refine s0 (loadV (TK rfl) rfl rfl rfl) rfl ?_
 refine s0 (binS rfl rfl rfl) rfl ?_
 refine nil ?_
 refine hK7 _ ?_
 clear hK7 K7
 refine condE hE rfl (fun hc8 hE => ?_) (fun hc8 hE => ?_)
 ·refine seqK fun K9 hK9 => ?_
  refine region ?_
  refine s0 (fieldVA (TK rfl) rfl rfl (TK rfl) rfl rfl) rfl ?_
  refine s0 (loadV (TK rfl) rfl rfl rfl) rfl ?_
  refine s0 (fieldVA (TK rfl) rfl rfl (TK rfl) rfl rfl) rfl ?_
  refine s0 (loadV (TK rfl) rfl rfl rfl) rfl ?_
  refine s0 (binS rfl rfl rfl) rfl ?_
  refine s0 assignA rfl ?_
  refine nil ?_
  refine hK9 _ ?_
  clear hK9 K9
  refine AWp.ret ?_
  repeat (first | refine xBlock_ret ?_ | refine xThen_ret ?_)
  obtain rfl := Option.some.inj hE
  refine retQ.retF H rfl ⟨rfl, rfl⟩ ?_
  exact (fun _ _ h => h)
 refine AWp.skip ?_
 refine hK6 _ ?_
 clear hK6 K6
 refine seqK fun K10 hK10 => ?_
 refine region ?_
 refine s0 (fieldVA (TK rfl) rfl rfl (TK rfl) rfl rfl) rfl ?_
 refine s0 (loadV (TK rfl) rfl rfl rfl) rfl ?_
 refine s0 (fieldVA (TK rfl) rfl rfl (TK rfl) rfl rfl) rfl ?_
 refine s0 (loadV (TK rfl) rfl rfl rfl) rfl ?_
 refine s0 (binS rfl rfl rfl) rfl ?_
 refine s0 assignA rfl ?_
 refine nil ?_
 refine hK10 _ ?_
 clear hK10 K10
 refine AWp.ret ?_
 repeat (first | refine xBlock_ret ?_ | refine xThen_ret ?_)
 obtain rfl := Option.some.inj hE
 refine retQ.retF H rfl ⟨rfl, rfl⟩ ?_
 exact (fun _ _ h => h)
def Z64_j8  (s5_9 : (Sl TUse)) : Option (Sl TUse) := some s5_9
def Z64_j4  (s5_5 : (Sl TUse)) (s6_6 : Bool) (y7_l0 : TUse) : Option (Sl TUse) := bif (!s6_6) then ((appC 56 s5_5 (⟨false, [y7_l0]⟩ : Sl TUse)).bind fun x13 => Z64_j8   x13) else (Z64_j8   s5_5)
def Z64_j24 (s7_18 : Nat) (k_next_15 : (Sl TUse) → Bool → Nat → TUse → Option (Sl TUse)) (s5_25 : (Sl TUse)) (s6_26 : Bool) (y27_l0 : TUse) : Option (Sl TUse) := k_next_15 s5_25 s6_26 (s7_18 + 1) y27_l0
def Z64_j28 (a0 : (Sl TUse)) (s7_18 : Nat) (k_next_15 : (Sl TUse) → Bool → Nat → TUse → Option (Sl TUse)) (s5_29 : (Sl TUse)) (s6_30 : Bool) (y31_l0 : TUse) : Option (Sl TUse) := (a0.l[s7_18]?).bind fun x32 => (appC 56 s5_29 (⟨false, [x32]⟩ : Sl TUse)).bind fun x33 => Z64_j24 s7_18 k_next_15 x33 s6_30 y31_l0
def Z64_l15 (a0 : (Sl TUse))  : Nat → (Sl TUse) → Bool → Nat → TUse → Option (Sl TUse)
 | 0, _, _, _, _ => none
 | n15 + 1, s5_16, s6_17, s7_18, y19_l0 => bif (decide (((s7_18 : Nat) : Int) < ((a0.l.length : Nat) : Int))) then (guardO ((!s6_17)) (a0.l[s7_18]?) TUse.zero fun x35 => guardO ((!s6_17)) (Z66 x35 y19_l0) false fun x36 => bif ((!s6_17) && (!x36)) then ((a0.l[s7_18]?).bind fun x41 => (Z66 y19_l0 x41).bind fun x42 => bif (!x42) then ((a0.l[s7_18]?).bind fun x45 => (appC 56 s5_16 (⟨false, [(TUse.mk y19_l0.FType y19_l0.FField y19_l0.FArg (IntKind.wrap .i64 (y19_l0.FCount + x45.FCount)))]⟩ : Sl TUse)).bind fun x47 => Z64_j24 s7_18 ((Z64_l15 a0 n15)) x47 true (TUse.mk y19_l0.FType y19_l0.FField y19_l0.FArg (IntKind.wrap .i64 (y19_l0.FCount + x45.FCount)))) else ((appC 56 s5_16 (⟨false, [y19_l0]⟩ : Sl TUse)).bind fun x48 => Z64_j28 a0 s7_18 ((Z64_l15 a0 n15)) x48 true y19_l0)) else (Z64_j28 a0 s7_18 ((Z64_l15 a0 n15)) s5_16 s6_17 y19_l0)) else (Z64_j4   s5_16 s6_17 y19_l0)
def Z64 (a0 : (Sl TUse)) (a1 : TUse) : Option (Sl TUse) := Z64_l15 a0 (a0.l.length + 1) (Sl.nil : Sl TUse) false 0 a1
theorem Z64_walk {a0 : (Sl TUse)} {a1 : TUse} {w0 : Option Nat}  {r : (Sl TUse)} (hE : Z64 a0 a1 = some r) (H : Heap)  : ACalls Tryz.prog 74 [.d (Sl.d 4 TUse.c w0 a0), .agg (TUse.c a1)] H fun v h' => v = .a (.d (Sl.d 4 TUse.c none r)) ∧ h' = H := by
 unfold Z64 at hE
 refine ACalls.of_wp (fn := Tryz.f74) (c := _) Tryz.tab_ok (fun _ _ => Tryz.call74 _ _) Tryz.func74 rfl (n := 63) rfl (rs := [.tmp 4]) rfl rfl ?_
 refine AWp.tok 4 fun tk1 htk1 => ?_
 refine seqK fun K1 hK1 => ?_
 refine region ?_
 refine sL (boxL rfl (by repeat (first | exact Snoc.nil | apply Snoc.cons))) rfl ?_
 refine s0 (assignNil (k' := 4) rfl) rfl ?_
 refine nil ?_
 refine hK1 _ ?_
 clear hK1 K1
 refine seqK fun K2 hK2 => ?_
 refine region ?_
 refine s0 assignA rfl ?_
 refine nil ?_
 refine hK2 _ ?_
 clear hK2 K2
 refine AWp.nilTok 5 4 tk1 rfl hpG ?_
 refine seqK fun K3 hK3 => ?_
 refine region ?_
 refine s0 assignA rfl ?_
 refine nil ?_
 refine hK3 _ ?_
 clear hK3 K3
 refine seqJ (KeepsT.A (k := 3) KeepsT.nil) (fun (z : (Sl TUse) × Bool × TUse) => [(5, .a (.d (Sl.d 4 TUse.c (some tk1) z.1))), (6, .a (.d (.bool z.2.1)))]) (fun z => [TUse.c z.2.2]) (fun z => (H.set tk1 (some (.tok 4 z.1.l.length)))) (fun z => Z64_j4 z.1 z.2.1 z.2.2 = some r) ?_ ?_
 ·intro K4 hK4
  refine seqK fun K14 hK14 => ?_
  refine region ?_
  refine s0 assignA rfl ?_
  refine nil ?_
  refine hK14 _ ?_
  clear hK14 K14
  refine block ?_
  refine loopO (KeepsT.A (k := 0) (KeepsT.A (k := 3) KeepsT.nil)) (fun (z : Nat × (Sl TUse) × Bool × Nat × TUse) => [(5, .a (.d (Sl.d 4 TUse.c (some tk1) z.2.1))), (6, .a (.d (.bool z.2.2.1))), (7, .a (.d (.int .i64 ((z.2.2.2.1 : Nat) : Int))))]) (fun z => [TUse.c z.2.2.2.2]) (fun z => (H.set tk1 (some (.tok 4 z.2.1.l.length)))) (fun z => z.1) (fun z => Z64_l15 a0 z.1 z.2.1 z.2.2.1 z.2.2.2.1 z.2.2.2.2 = some r) ((a0.l.length + 1), (Sl.nil : Sl TUse), false, 0, a1) hE Weak.toA ?_
  rintro ⟨n15, s5_16, s6_17, s7_18, y19_l0⟩ hE K15 hK15
  try dsimp only at hE
  cases n15 with
  | zero => cases hE
  | succ n15 =>
    rw [Z64_l15] at hE
    refine seqK fun K20 hK20 => ?_
    refine seqK fun K21 hK21 => ?_
    refine region ?_
    refine s0 moveA rfl ?_
    refine s0 moveA rfl ?_
    refine sLen (f := TUse.c) (s := a0) (TK rfl) rfl rfl rfl rfl fun hL22 => ?_
    refine s0 (binI rfl rfl rfl) rfl ?_
    refine nil ?_
    refine hK21 _ ?_
    clear hK21 K21
    refine condE hE rfl (fun hc23 hE => ?_) (fun hc23 hE => ?_)
    ·try dsimp only at hc23
     have hf23 := of_decide_eq_true hc23
     refine AWp.skip ?_
     refine hK20 _ ?_
     clear hK20 K20
     refine seqJ (KeepsT.A (k := 0) (KeepsT.A (k := 3) (KeepsT.A (k := 7) KeepsT.nil))) (fun (z : (Sl TUse) × Bool × TUse) => [(5, .a (.d (Sl.d 4 TUse.c (some tk1) z.1))), (6, .a (.d (.bool z.2.1)))]) (fun z => [TUse.c z.2.2]) (fun z => (H.set tk1 (some (.tok 4 z.1.l.length)))) (fun z => Z64_j24 s7_18 ((Z64_l15 a0 n15)) z.1 z.2.1 z.2.2 = some r) ?_ ?_
     ·intro K24 hK24
      refine block ?_
      refine seqJ (KeepsT.A (k := 0) (KeepsT.A (k := 3) (KeepsT.A (k := 7) KeepsT.nil))) (fun (z : (Sl TUse) × Bool × TUse) => [(5, .a (.d (Sl.d 4 TUse.c (some tk1) z.1))), (6, .a (.d (.bool z.2.1)))]) (fun z => [TUse.c z.2.2]) (fun z => (H.set tk1 (some (.tok 4 z.1.l.length)))) (fun z => Z64_j28 a0 s7_18 ((Z64_l15 a0 n15)) z.1 z.2.1 z.2.2 = some r) ?_ ?_
      ·intro K28 hK28
       refine seqK fun K34 hK34 => ?_
       refine AWp.draw rfl ?_
       refine DOps.s0 moveA rfl ?_
       refine DOps.s0 (notB rfl) rfl ?_
       refine DOps.s0 moveA rfl ?_
       refine DOps.gC rfl rfl (fun hC => moveA) rfl ?_
       refine DOps.gC rfl rfl (fun hC => moveA) rfl ?_
       obtain ⟨x35, gx35, hE⟩ := guardO_some hE
       refine DOps.gC rfl rfl (fun hC => ungdA (k := 17) rfl (ungdA (k := 18) rfl (idxMn (f := TUse.c) (n := s7_18) (TK rfl) rfl (TK rfl) rfl rfl rfl (gx35 hC)))) rfl ?_
       refine DOps.gC rfl rfl (fun hC => ungdA (k := 19) rfl (loadV (TK rfl) rfl rfl rfl)) rfl ?_
       refine DOps.gC rfl rfl (fun hC => loadL (TK rfl) rfl rfl rfl rfl) rfl ?_
       obtain ⟨x36, gx36, hE⟩ := guardO_some hE
       refine DOps.gC rfl rfl (fun hC => ungdA (k := 20) rfl (ungdA (k := 21) rfl (callP rfl rfl (fun H => Z66_walk (gx36 hC) H)))) rfl ?_
       refine DOps.gC rfl rfl (fun hC => ungdA (k := 22) rfl (notB rfl)) rfl ?_
       refine DOps.s0 (pickAndA rfl rfl rfl) rfl ?_
       refine DOps.nil (by decide +kernel) ?_
       refine hK34 _ ?_
       clear hK34 K34
       refine condE hE rfl (fun hc37 hE => ?_) (fun hc37 hE => ?_)
       ·refine seqK fun K38 hK38 => ?_
        refine region ?_
        refine s0 assignA rfl ?_
        refine nil ?_
        refine hK38 _ ?_
        clear hK38 K38
        refine seqK fun K39 hK39 => ?_
        refine seqK fun K40 hK40 => ?_
        refine AWp.draw rfl ?_
        refine DOps.s0 (loadL (TK rfl) rfl rfl rfl rfl) rfl ?_
        refine DOps.s0 moveA rfl ?_
        refine DOps.s0 moveA rfl ?_
        obtain ⟨x41, gx41, hE⟩ := bindO_some hE
        refine DOps.s0 (idxMn (f := TUse.c) (n := s7_18) (TK rfl) rfl (TK rfl) rfl rfl rfl gx41) rfl ?_
        refine DOps.s0 (loadV (TK rfl) rfl rfl rfl) rfl ?_
        obtain ⟨x42, gx42, hE⟩ := bindO_some hE
        refine DOps.s0 (callP rfl rfl (fun H => Z66_walk gx42 H)) rfl ?_
        refine DOps.s0 (notB rfl) rfl ?_
        refine DOps.nil (by decide +kernel) ?_
        refine hK40 _ ?_
        clear hK40 K40
        refine condE hE rfl (fun hc43 hE => ?_) (fun hc43 hE => ?_)
        ·refine seqK fun K44 hK44 => ?_
         refine AWp.draw rfl ?_
         refine DOps.s0 (fieldL (TK rfl) rfl rfl (TK rfl) rfl rfl) rfl ?_
         refine DOps.s0 (loadL (TK rfl) rfl rfl rfl rfl) rfl ?_
         refine DOps.s0 moveA rfl ?_
         refine DOps.s0 moveA rfl ?_
         obtain ⟨x45, gx45, hE⟩ := bindO_some hE
         refine DOps.s0 (idxMn (f := TUse.c) (n := s7_18) (TK rfl) rfl (TK rfl) rfl rfl rfl gx45) rfl ?_
         refine DOps.s0 (fieldVA (TK rfl) rfl rfl (TK rfl) rfl rfl) rfl ?_
         refine DOps.s0 (loadV (TK rfl) rfl rfl rfl) rfl ?_
         refine DOps.s0 (binI rfl rfl rfl) rfl ?_
         refine DOps.s0 (fieldL (TK rfl) rfl rfl (TK rfl) rfl rfl) rfl ?_
         refine DOps.sLn (storeL1 (TK rfl) rfl rfl rfl rfl (by repeat (first | exact SetAt.zero | apply SetAt.succ)) (by repeat (first | exact SetAt.zero | apply SetAt.succ))) ?_
         refine DOps.nil (by decide +kernel) ?_
         refine hK44 _ ?_
         clear hK44 K44
         refine seqK fun K46 hK46 => ?_
         refine region ?_
         refine s0 moveA rfl ?_
         refine s0 (loadL (TK rfl) rfl rfl rfl rfl) rfl ?_
         refine s0 (buildSlice (TK rfl) rfl (TK rfl) rfl rfl rfl rfl rfl rfl) rfl ?_
         obtain ⟨x47, gx47, hE⟩ := bindO_some hE
         refine sH (appM (f := TUse.c) (TK rfl) rfl (TK rfl) (TK rfl) ⟨_, rfl⟩ rfl rfl (by decide) rfl rfl rfl rfl hpG rfl gx47) rfl ?_
         refine AOps.heq (h' := (H.set tk1 (some (.tok 4 x47.l.length)))) (by first | rfl | (rw [Heap.set_set]; rfl) | (funext n_; simp only [Heap.set]; (repeat' split) <;> first | rfl | (exfalso; simp_all; done) | (simp_all; done))) ?_
         refine s0 assignA rfl ?_
         refine nil ?_
         refine hK46 _ ?_
         clear hK46 K46
         refine AWp.exit ?_
         exact hK24 _ (x47, true, (TUse.mk y19_l0.FType y19_l0.FField y19_l0.FArg (IntKind.wrap .i64 (y19_l0.FCount + x45.FCount)))) Weak.toA hE
        refine AWp.skip ?_
        refine hK39 _ ?_
        clear hK39 K39
        refine region ?_
        refine s0 moveA rfl ?_
        refine s0 (loadL (TK rfl) rfl rfl rfl rfl) rfl ?_
        refine s0 (buildSlice (TK rfl) rfl (TK rfl) rfl rfl rfl rfl rfl rfl) rfl ?_
        obtain ⟨x48, gx48, hE⟩ := bindO_some hE
        refine sH (appM (f := TUse.c) (TK rfl) rfl (TK rfl) (TK rfl) ⟨_, rfl⟩ rfl rfl (by decide) rfl rfl rfl rfl hpG rfl gx48) rfl ?_
        refine AOps.heq (h' := (H.set tk1 (some (.tok 4 x48.l.length)))) (by first | rfl | (rw [Heap.set_set]; rfl) | (funext n_; simp only [Heap.set]; (repeat' split) <;> first | rfl | (exfalso; simp_all; done) | (simp_all; done))) ?_
        refine s0 assignA rfl ?_
        refine nil ?_
        exact hK28 _ (x48, true, y19_l0) Weak.toA hE
       refine AWp.skip ?_
       exact hK28 _ (s5_16, s6_17, y19_l0) Weak.toA hE
      rintro ⟨s5_29, s6_30, y31_l0⟩ hE
      try dsimp only at hE
      unfold Z64_j28 at hE
      refine region ?_
      refine s0 moveA rfl ?_
      refine s0 moveA rfl ?_
      refine s0 moveA rfl ?_
      obtain ⟨x32, gx32, hE⟩ := bindO_some hE
      refine s0 (idxMn (f := TUse.c) (n := s7_18) (TK rfl) rfl (TK rfl) rfl rfl rfl gx32) rfl ?_
      refine s0 (loadV (TK rfl) rfl rfl rfl) rfl ?_
      refine s0 (buildSlice (TK rfl) rfl (TK rfl) rfl rfl rfl rfl rfl rfl) rfl ?_
      obtain ⟨x33, gx33, hE⟩ := bindO_some hE
      refine sH (appM (f := TUse.c) (TK rfl) rfl (TK rfl) (TK rfl) ⟨_, rfl⟩ rfl rfl (by decide) rfl rfl rfl rfl hpG rfl gx33) rfl ?_
      refine AOps.heq (h' := (H.set tk1 (some (.tok 4 x33.l.length)))) (by first | rfl | (rw [Heap.set_set]; rfl) | (funext n_; simp only [Heap.set]; (repeat' split) <;> first | rfl | (exfalso; simp_all; done) | (simp_all; done))) ?_
      refine s0 assignA rfl ?_
      refine nil ?_
      exact hK24 _ (x33, s6_30, y31_l0) Weak.toA hE
     rintro ⟨s5_25, s6_26, y27_l0⟩ hE
     try dsimp only at hE
     unfold Z64_j24 at hE
     refine region ?_
     refine s0 moveA rfl ?_
     refine s0 (addIA rfl rfl) rfl ?_
     refine s0 assignA rfl ?_
     refine nil ?_
     exact hK15 _ (n15, s5_25, s6_26, (s7_18 + 1), y27_l0) Weak.toA hE (Nat.lt_succ_self _)
    refine AWp.exit ?_
    exact hK4 _ (s5_16, s6_17, y19_l0) Weak.toA hE
 rintro ⟨s5_5, s6_6, y7_l0⟩ hE
 try dsimp only at hE
 unfold Z64_j4 at hE
 refine seqJH KeepsT.nil (fun (z : (Sl TUse)) => [(5, .a (.d (Sl.d 4 TUse.c (some tk1) z)))]) (fun z => (H.set tk1 (some (.tok 4 z.l.length)))) (fun z => Z64_j8 z = some r) ?_ ?_
 ·intro K8 hK8
  refine seqK fun K11 hK11 => ?_
  refine region ?_
  refine s0 moveA rfl ?_
  refine s0 (notB rfl) rfl ?_
  refine nil ?_
  refine hK11 _ ?_
  clear hK11 K11
  refine condE hE rfl (fun hc12 hE => ?_) (fun hc12 hE => ?_)
  ·refine region ?_
   refine s0 moveA rfl ?_
   refine s0 (loadL (TK rfl) rfl rfl rfl rfl) rfl ?_
   refine s0 (buildSlice (TK rfl) rfl (TK rfl) rfl rfl rfl rfl rfl rfl) rfl ?_
   obtain ⟨x13, gx13, hE⟩ := bindO_some hE
   refine sH (appM (f := TUse.c) (TK rfl) rfl (TK rfl) (TK rfl) ⟨_, rfl⟩ rfl rfl (by decide) rfl rfl rfl rfl hpG rfl gx13) rfl ?_
   refine AOps.heq (h' := (H.set tk1 (some (.tok 4 x13.l.length)))) (by first | rfl | (rw [Heap.set_set]; rfl) | (funext n_; simp only [Heap.set]; (repeat' split) <;> first | rfl | (exfalso; simp_all; done) | (simp_all; done))) ?_
   refine s0 assignA rfl ?_
   refine nil ?_
   exact hK8 _ x13 Weak.toA hE
  refine AWp.skip ?_
  exact hK8 _ s5_5 Weak.toA hE
 rintro s5_9 hE
 try dsimp only at hE
 unfold Z64_j8 at hE
 refine seqK fun K10 hK10 => ?_
 refine region ?_
 refine s0 moveA rfl ?_
 refine s0 assignA rfl ?_
 refine nil ?_
 refine hK10 _ ?_
 clear hK10 K10
 refine AWp.dropTok 4 rfl ?_
 refine AWp.ret ?_
 repeat (first | refine xBlock_ret ?_ | refine xThen_ret ?_)
 obtain rfl := Option.some.inj hE
 refine retQ.retF H rfl ⟨rfl, rfl⟩ ?_
 first | exact Heap.sub_set htk1 | (simp only [Heap.set_set]; exact Heap.sub_set htk1)
def Z62_j3  (s3_4 : (Sl TUse)) : Option (Sl TUse) := some s3_4
def Z62_l7 (a0 : (Sl TUse))  : Nat → (Sl TUse) → Nat → Option (Sl TUse)
 | 0, _, _ => none
 | n7 + 1, s3_8, s4_9 => bif (decide (((s4_9 : Nat) : Int) < ((a0.l.length : Nat) : Int))) then ((a0.l[s4_9]?).bind fun x15 => (Z64 s3_8 x15).bind fun x16 => (Z62_l7 a0 n7) x16 (s4_9 + 1)) else (Z62_j3   s3_8)
def Z62 (a0 : (Sl TUse)) : Option (Sl TUse) := Z62_l7 a0 (a0.l.length + 1) (Sl.nil : Sl TUse) 0
theorem Z62_walk {a0 : (Sl TUse)} {w0 : Option Nat}  {r : (Sl TUse)} (hE : Z62 a0 = some r) (H : Heap)  : ACalls Tryz.prog 35 [.d (Sl.d 4 TUse.c w0 a0)] H fun v h' => v = .a (.d (Sl.d 4 TUse.c none r)) ∧ h' = H := by
 unfold Z62 at hE
 refine ACalls.of_wp (fn := Tryz.f35) (c := _) Tryz.tab_ok (fun _ _ => Tryz.call35 _ _) Tryz.func35 rfl (n := 18) rfl (rs := [.tmp 2]) rfl rfl ?_
 refine seqK fun K1 hK1 => ?_
 refine region ?_
 refine s0 (assignNil (k' := 4) rfl) rfl ?_
 refine nil ?_
 refine hK1 _ ?_
 clear hK1 K1
 refine seqK fun K2 hK2 => ?_
 refine region ?_
 refine s0 (assignNil (k' := 4) rfl) rfl ?_
 refine nil ?_
 refine hK2 _ ?_
 clear hK2 K2
 refine seqJH KeepsT.nil (fun (z : (Sl TUse)) => [(3, .a (.d (Sl.d 4 TUse.c none z)))]) (fun z => H) (fun z => Z62_j3 z = some r) ?_ ?_
 ·intro K3 hK3
  refine seqK fun K6 hK6 => ?_
  refine region ?_
  refine s0 assignA rfl ?_
  refine nil ?_
  refine hK6 _ ?_
  clear hK6 K6
  refine block ?_
  refine loopH (KeepsT.A (k := 0) KeepsT.nil) (fun (z : Nat × (Sl TUse) × Nat) => [(3, .a (.d (Sl.d 4 TUse.c none z.2.1))), (4, .a (.d (.int .i64 ((z.2.2 : Nat) : Int))))]) (fun z => H) (fun z => z.1) (fun z => Z62_l7 a0 z.1 z.2.1 z.2.2 = some r) ((a0.l.length + 1), (Sl.nil : Sl TUse), 0) hE Weak.toA ?_
  rintro ⟨n7, s3_8, s4_9⟩ hE K7 hK7
  try dsimp only at hE
  cases n7 with
  | zero => cases hE
  | succ n7 =>
    rw [Z62_l7] at hE
    refine seqK fun K10 hK10 => ?_
    refine seqK fun K11 hK11 => ?_
    refine region ?_
    refine s0 moveA rfl ?_
    refine s0 moveA rfl ?_
    refine sLen (f := TUse.c) (s := a0) (TK rfl) rfl rfl rfl rfl fun hL12 => ?_
    refine s0 (binI rfl rfl rfl) rfl ?_
    refine nil ?_
    refine hK11 _ ?_
    clear hK11 K11
    refine condE hE rfl (fun hc13 hE => ?_) (fun hc13 hE => ?_)
    ·try dsimp only at hc13
     have hf13 := of_decide_eq_true hc13
     refine AWp.skip ?_
     refine hK10 _ ?_
     clear hK10 K10
     refine seqK fun K14 hK14 => ?_
     refine block ?_
     refine region ?_
     refine s0 moveA rfl ?_
     refine s0 moveA rfl ?_
     refine s0 moveA rfl ?_
     obtain ⟨x15, gx15, hE⟩ := bindO_some hE
     refine s0 (idxMn (f := TUse.c) (n := s4_9) (TK rfl) rfl (TK rfl) rfl rfl rfl gx15) rfl ?_
     refine s0 (loadV (TK rfl) rfl rfl rfl) rfl ?_
     obtain ⟨x16, gx16, hE⟩ := bindO_some hE
     refine s0 (callP rfl rfl (fun H => Z64_walk gx16 H)) rfl ?_
     refine s0 assignA rfl ?_
     refine nil ?_
     refine hK14 _ ?_
     clear hK14 K14
     refine region ?_
     refine s0 moveA rfl ?_
     refine s0 (addIA rfl rfl) rfl ?_
     refine s0 assignA rfl ?_
     refine nil ?_
     exact hK7 _ (n7, x16, (s4_9 + 1)) Weak.toA hE (Nat.lt_succ_self _)
    refine AWp.exit ?_
    exact hK3 _ s3_8 Weak.toA hE
 rintro s3_4 hE
 try dsimp only at hE
 unfold Z62_j3 at hE
 refine seqK fun K5 hK5 => ?_
 refine region ?_
 refine s0 moveA rfl ?_
 refine s0 assignA rfl ?_
 refine nil ?_
 refine hK5 _ ?_
 clear hK5 K5
 refine AWp.ret ?_
 repeat (first | refine xBlock_ret ?_ | refine xThen_ret ?_)
 obtain rfl := Option.some.inj hE
 refine retQ.retF H rfl ⟨rfl, rfl⟩ ?_
 exact (fun _ _ h => h)
end Go.Proofs

namespace Go.Proofs
open Go Go.Ab
open AOps Cert AWp
def Z60_j16  (s8_17 : (Sl TUse)) : Option (Sl TUse) := (Z62 s8_17).bind fun x19 => some x19
def Z60_j28 (s15_23 : Nat) (k_next_21 : (Sl TUse) → Nat → Option (Sl TUse)) (s8_29 : (Sl TUse)) : Option (Sl TUse) := k_next_21 s8_29 (s15_23 + 1)
def Z60_l21 (a0 : TDoc) (x7 : TOp)  : Nat → (Sl TUse) → Nat → Option (Sl TUse)
 | 0, _, _ => none
 | n21 + 1, s8_22, s15_23 => bif (decide (((s15_23 : Nat) : Int) < ((x7.FVars.l.length : Nat) : Int))) then ((x7.FVars.l[s15_23]?).bind fun x31 => bif x31.FHas then ((x7.FVars.l[s15_23]?).bind fun x33 => (x7.FVars.l[s15_23]?).bind fun x34 => (Z69 a0 x33.FType x34.FDefault).bind fun x35 => (appC 56 s8_22 x35).bind fun x36 => Z60_j28 s15_23 ((Z60_l21 a0 x7 n21)) x36) else (Z60_j28 s15_23 ((Z60_l21 a0 x7 n21)) s8_22)) else (Z60_j16   s8_22)
def Z60_j14 (a0 : TDoc) (x7 : TOp)  (s8_15 : (Sl TUse)) : Option (Sl TUse) := Z60_l21 a0 x7 (x7.FVars.l.length + 1) s8_15 0
def Z60_j45 (s11_40 : Nat) (k_next_38 : (Sl TUse) → Nat → Option (Sl TUse)) (s8_46 : (Sl TUse)) : Option (Sl TUse) := k_next_38 s8_46 (s11_40 + 1)
def Z60_j52 (a0 : TDoc) (s11_40 : Nat) (x49 : (TFrag × Bool)) (x51 : Bs) (k_next_38 : (Sl TUse) → Nat → Option (Sl TUse)) (s8_53 : (Sl TUse)) : Option (Sl TUse) := bif x49.2 then ((Z67 a0 x49.1.FSels x51).bind fun x56 => (appC 56 s8_53 x56).bind fun x57 => Z60_j45 s11_40 k_next_38 x57) else (Z60_j45 s11_40 k_next_38 s8_53)
def Z60_l38 (a0 : TDoc) (a1 : TQuery) (x7 : TOp) (x13 : ((Sl Bs) × Bool))  : Nat → (Sl TUse) → Nat → Option (Sl TUse)
 | 0, _, _ => none
 | n38 + 1, s8_39, s11_40 => bif (decide (((s11_40 : Nat) : Int) < ((x13.1.l.length : Nat) : Int))) then ((x13.1.l[s11_40]?).bind fun x48 => (Z54 a1 x48).bind fun x49 => (Z65 a0 x49.1.FOn).bind fun x51 => bif (x49.2 && (!(x51 == ([] : Bs)))) then ((Z68 x51 ([] : Bs) ([] : Bs)).bind fun x60 => (appC 56 s8_39 (⟨false, [x60]⟩ : Sl TUse)).bind fun x61 => Z60_j52 a0 s11_40 x49 x51 ((Z60_l38 a0 a1 x7 x13 n38)) x61) else (Z60_j52 a0 s11_40 x49 x51 ((Z60_l38 a0 a1 x7 x13 n38)) s8_39)) else (Z60_j14 a0 x7  s8_39)
def Z60 (a0 : TDoc) (a1 : TQuery) (a2 : Int) : Option (Sl TUse) := bif ((decide (a2 < (0 : Int))) || (decide (((a1.FOps.l.length : Nat) : Int) ≤ a2))) then (some (Sl.nil : Sl TUse)) else ((idxC a1.FOps.l a2).bind fun x7 => (Z52 x7.FKind).bind fun x9 => (Z65 a0 x9).bind fun x10 => (Z67 a0 x7.FSels x10).bind fun x11 => (Z55 a1 x7.FSels).bind fun x13 => Z60_l38 a0 a1 x7 x13 (x13.1.l.length + 1) x11 0)
theorem Z60_walk {a0 : TDoc} {a1 : TQuery} {a2 : Int}   {r : (Sl TUse)} (hE : Z60 a0 a1 a2 = some r) (H : Heap)  : ACalls Tryz.prog 9 [.agg (TDoc.c a0), .agg (TQuery.c a1), .d (.int .i64 a2)] H fun v h' => v = .a (.d (Sl.d 4 TUse.c none r)) ∧ h' = H := by
 unfold Z60 at hE
 refine ACalls.of_wp (fn := Tryz.f9) (c := _) Tryz.tab_ok (fun _ _ => Tryz.call9 _ _) Tryz.func9 rfl (n := 114) rfl (rs := [.tmp 6]) rfl rfl ?_
 refine seqK fun K1 hK1 => ?_
 refine region ?_
 refine s0 (boxV rfl) rfl ?_
 refine s0 (boxV rfl) rfl ?_
 refine s0 (assignNil (k' := 4) rfl) rfl ?_
 refine nil ?_
 refine hK1 _ ?_
 clear hK1 K1
 refine seqK fun K2 hK2 => ?_
 refine seqK fun K3 hK3 => ?_
 refine region ?_
 refine s0 moveA rfl ?_
 refine s0 (binI rfl rfl rfl) rfl ?_
 refine s0 moveA rfl ?_
 refine gC rfl rfl (fun hC => moveA) rfl ?_
 refine gC rfl rfl (fun hC => fieldVA (TK rfl) rfl rfl (TK rfl) rfl rfl) rfl ?_
 refine gC rfl rfl (fun hC => ungdA (k := 20) rfl (loadV (TK rfl) rfl rfl rfl)) rfl ?_
 refine gC rfl rfl (fun hC => ungdA (k := 21) rfl (lenM' (f := TOp.c) (s := a1.FOps) (TK rfl) rfl rfl rfl)) rfl ?_
 refine gC rfl rfl (fun hC => ungdA (k := 19) rfl (ungdA (k := 22) rfl (binI rfl rfl rfl))) rfl ?_
 refine s0 (pickOrA rfl rfl rfl) rfl ?_
 refine nil ?_
 refine hK3 _ ?_
 clear hK3 K3
 refine condE hE rfl (fun hc4 hE => ?_) (fun hc4 hE => ?_)
 ·refine seqK fun K5 hK5 => ?_
  refine region ?_
  refine s0 (assignNil (k' := 4) rfl) rfl ?_
  refine nil ?_
  refine hK5 _ ?_
  clear hK5 K5
  refine AWp.ret ?_
  repeat (first | refine xBlock_ret ?_ | refine xThen_ret ?_)
  obtain rfl := Option.some.inj hE
  refine retQ.retF H rfl ⟨rfl, rfl⟩ ?_
  exact (fun _ _ h => h)
 refine AWp.skip ?_
 refine hK2 _ ?_
 clear hK2 K2
 refine seqK fun K6 hK6 => ?_
 refine region ?_
 refine s0 (fieldVA (TK rfl) rfl rfl (TK rfl) rfl rfl) rfl ?_
 refine s0 (loadV (TK rfl) rfl rfl rfl) rfl ?_
 refine s0 moveA rfl ?_
 obtain ⟨x7, gx7, hE⟩ := bindO_some hE
 refine s0 (idxM (f := TOp.c) (TK rfl) rfl (TK rfl) rfl rfl rfl gx7) rfl ?_
 refine s0 (loadV (TK rfl) rfl rfl rfl) rfl ?_
 refine sL (allocLA (TK rfl) rfl) rfl ?_
 refine sLn (storeLFA (TK rfl) rfl rfl rfl rfl rfl) ?_
 refine nil ?_
 refine hK6 _ ?_
 clear hK6 K6
 refine freezeA 7 _ rfl (Keeps.c (k := 3) (by conv => lhs; whnf) (by rfl) (Keeps.c (k := 4) (by conv => lhs; whnf) (by rfl) Keeps.nil)) ?_
 refine seqK fun K8 hK8 => ?_
 refine AWp.tok 4 fun tk1 htk1 => ?_
 refine AWp.draw rfl ?_
 refine DOps.s0 (loadV (TK rfl) rfl rfl rfl) rfl ?_
 refine DOps.s0 (fieldVA (TK rfl) rfl rfl (TK rfl) rfl rfl) rfl ?_
 refine DOps.s0 (loadV (TK rfl) rfl rfl rfl) rfl ?_
 refine DOps.s0 (loadV (TK rfl) rfl rfl rfl) rfl ?_
 refine DOps.s0 (fieldVA (TK rfl) rfl rfl (TK rfl) rfl rfl) rfl ?_
 refine DOps.s0 (loadV (TK rfl) rfl rfl rfl) rfl ?_
 obtain ⟨x9, gx9, hE⟩ := bindO_some hE
 refine DOps.s0 (callP rfl rfl (fun H => Z52_walk gx9 H)) rfl ?_
 obtain ⟨x10, gx10, hE⟩ := bindO_some hE
 refine DOps.s0 (callP rfl rfl (fun H => Z65_walk gx10 H)) rfl ?_
 obtain ⟨x11, gx11, hE⟩ := bindO_some hE
 refine DOps.sH (callH rfl rfl (Z67_tok gx11 _ hpG)) rfl ?_
 refine DOps.heq (h' := (H.set tk1 (some (.tok 4 x11.l.length)))) (by first | rfl | (rw [Heap.set_set]; rfl) | (funext n_; simp only [Heap.set]; (repeat' split) <;> first | rfl | (exfalso; simp_all; done) | (simp_all; done))) ?_
 refine DOps.s0 assignA rfl ?_
 refine DOps.nil (by decide +kernel) ?_
 refine hK8 _ ?_
 clear hK8 K8
 refine seqK fun K12 hK12 => ?_
 refine region ?_
 refine s0 (loadV (TK rfl) rfl rfl rfl) rfl ?_
 refine s0 (fieldVA (TK rfl) rfl rfl (TK rfl) rfl rfl) rfl ?_
 refine s0 (loadV (TK rfl) rfl rfl rfl) rfl ?_
 obtain ⟨x13, gx13, hE⟩ := bindO_some hE
 refine s0 (callP rfl rfl (fun H => Z55_walk gx13 H)) rfl ?_
 refine s0 moveA rfl ?_
 refine s0 (extract rfl rfl) rfl ?_
 refine s0 (extract rfl rfl) rfl ?_
 refine s0 assignA rfl ?_
 refine s0 assignA rfl ?_
 refine nil ?_
 refine hK12 _ ?_
 clear hK12 K12
 refine seqJH (KeepsT.A (k := 3) (KeepsT.A (k := 7) KeepsT.nil)) (fun (z : (Sl TUse)) => [(8, .a (.d (Sl.d 4 TUse.c (some tk1) z)))]) (fun z => (H.set tk1 (some (.tok 4 z.l.length)))) (fun z => Z60_j14 a0 x7 z = some r) ?_ ?_
 ·intro K14 hK14
  refine seqK fun K37 hK37 => ?_
  refine region ?_
  refine s0 assignA rfl ?_
  refine nil ?_
  refine hK37 _ ?_
  clear hK37 K37
  refine block ?_
  refine loopH (KeepsT.A (k := 3) (KeepsT.A (k := 4) (KeepsT.A (k := 7) (KeepsT.A (k := 9) KeepsT.nil)))) (fun (z : Nat × (Sl TUse) × Nat) => [(8, .a (.d (Sl.d 4 TUse.c (some tk1) z.2.1))), (11, .a (.d (.int .i64 ((z.2.2 : Nat) : Int))))]) (fun z => (H.set tk1 (some (.tok 4 z.2.1.l.length)))) (fun z => z.1) (fun z => Z60_l38 a0 a1 x7 x13 z.1 z.2.1 z.2.2 = some r) ((x13.1.l.length + 1), x11, 0) hE Weak.toA ?_
  rintro ⟨n38, s8_39, s11_40⟩ hE K38 hK38
  try dsimp only at hE
  cases n38 with
  | zero => cases hE
  | succ n38 =>
    rw [Z60_l38] at hE
    refine seqK fun K41 hK41 => ?_
    refine seqK fun K42 hK42 => ?_
    refine region ?_
    refine s0 moveA rfl ?_
    refine s0 moveA rfl ?_
    refine sLen (f := strE) (s := x13.1) (TK rfl) rfl rfl rfl rfl fun hL43 => ?_
    refine s0 (binI rfl rfl rfl) rfl ?_
    refine nil ?_
    refine hK42 _ ?_
    clear hK42 K42
    refine condE hE rfl (fun hc44 hE => ?_) (fun hc44 hE => ?_)
    ·try dsimp only at hc44
     have hf44 := of_decide_eq_true hc44
     refine AWp.skip ?_
     refine hK41 _ ?_
     clear hK41 K41
     refine seqJH (KeepsT.A (k := 3) (KeepsT.A (k := 4) (KeepsT.A (k := 7) (KeepsT.A (k := 9) (KeepsT.A (k := 11) KeepsT.nil))))) (fun (z : (Sl TUse)) => [(8, .a (.d (Sl.d 4 TUse.c (some tk1) z)))]) (fun z => (H.set tk1 (some (.tok 4 z.l.length)))) (fun z => Z60_j45 s11_40 ((Z60_l38 a0 a1 x7 x13 n38)) z = some r) ?_ ?_
     ·intro K45 hK45
      refine block ?_
      refine seqK fun K47 hK47 => ?_
      refine AWp.draw rfl ?_
      refine DOps.s0 (loadV (TK rfl) rfl rfl rfl) rfl ?_
      refine DOps.s0 moveA rfl ?_
      refine DOps.s0 moveA rfl ?_
      obtain ⟨x48, gx48, hE⟩ := bindO_some hE
      refine DOps.s0 (idxMn (f := strE) (n := s11_40) (TK rfl) rfl (TK rfl) rfl rfl rfl gx48) rfl ?_
      refine DOps.s0 (loadV (TK rfl) rfl rfl rfl) rfl ?_
      obtain ⟨x49, gx49, hE⟩ := bindO_some hE
      refine DOps.s0 (callP rfl rfl (fun H => Z54_walk gx49 H)) rfl ?_
      refine DOps.s0 moveA rfl ?_
      refine DOps.s0 (extract rfl rfl) rfl ?_
      refine DOps.s0 (extract rfl rfl) rfl ?_
      refine DOps.sL (allocLA (TK rfl) rfl) rfl ?_
      refine DOps.sLn (storeLFA (TK rfl) rfl rfl rfl rfl rfl) ?_
      refine DOps.s0 assignA rfl ?_
      refine DOps.nil (by decide +kernel) ?_
      refine hK47 _ ?_
      clear hK47 K47
      refine freezeA 12 _ rfl (Keeps.c (k := 3) (by conv => lhs; whnf) (by rfl) (Keeps.c (k := 4) (by conv => lhs; whnf) (by rfl) (Keeps.c (k := 7) (by conv => lhs; whnf) (by rfl) (Keeps.c (k := 8) (by conv => lhs; whnf) (by rfl) (Keeps.c (k := 9) (by conv => lhs; whnf) (by rfl) (Keeps.c (k := 11) (by conv => lhs; whnf) (by rfl) (Keeps.c (k := 13) (by conv => lhs; whnf) (by rfl) Keeps.nil))))))) ?_
      refine seqK fun K50 hK50 => ?_
      refine region ?_
      refine s0 (loadV (TK rfl) rfl rfl rfl) rfl ?_
      refine s0 (fieldVA (TK rfl) rfl rfl (TK rfl) rfl rfl) rfl ?_
      refine s0 (loadV (TK rfl) rfl rfl rfl) rfl ?_
      obtain ⟨x51, gx51, hE⟩ := bindO_some hE
      refine s0 (callP rfl rfl (fun H => Z65_walk gx51 H)) rfl ?_
      refine s0 assignA rfl ?_
      refine nil ?_
      refine hK50 _ ?_
      clear hK50 K50
      refine seqJH (KeepsT.A (k := 3) (KeepsT.A (k := 4) (KeepsT.A (k := 7) (KeepsT.A (k := 9) (KeepsT.A (k := 11) (KeepsT.A (k := 12) (KeepsT.A (k := 13) (KeepsT.A (k := 14) KeepsT.nil)))))))) (fun (z : (Sl TUse)) => [(8, .a (.d (Sl.d 4 TUse.c (some tk1) z)))]) (fun z => (H.set tk1 (some (.tok 4 z.l.length)))) (fun z => Z60_j52 a0 s11_40 x49 x51 ((Z60_l38 a0 a1 x7 x13 n38)) z = some r) ?_ ?_
      ·intro K52 hK52
       refine seqK fun K58 hK58 => ?_
       refine region ?_
       refine s0 moveA rfl ?_
       refine s0 moveA rfl ?_
       refine gC rfl rfl (fun hC => moveA) rfl ?_
       refine gC rfl rfl (fun hC => ungdA (k := 67) rfl (binS rfl rfl rfl)) rfl ?_
       refine s0 (pickAndA rfl rfl rfl) rfl ?_
       refine nil ?_
       refine hK58 _ ?_
       clear hK58 K58
       refine condE hE rfl (fun hc59 hE => ?_) (fun hc59 hE => ?_)
       ·refine region ?_
        refine s0 moveA rfl ?_
        refine s0 moveA rfl ?_
        obtain ⟨x60, gx60, hE⟩ := bindO_some hE
        refine s0 (callP rfl rfl (fun H => Z68_walk gx60 H)) rfl ?_
        refine s0 (buildSlice (TK rfl) rfl (TK rfl) rfl rfl rfl rfl rfl rfl) rfl ?_
        obtain ⟨x61, gx61, hE⟩ := bindO_some hE
        refine sH (appM (f := TUse.c) (TK rfl) rfl (TK rfl) (TK rfl) ⟨_, rfl⟩ rfl rfl (by decide) rfl rfl rfl rfl hpG rfl gx61) rfl ?_
        refine AOps.heq (h' := (H.set tk1 (some (.tok 4 x61.l.length)))) (by first | rfl | (rw [Heap.set_set]; rfl) | (funext n_; simp only [Heap.set]; (repeat' split) <;> first | rfl | (exfalso; simp_all; done) | (simp_all; done))) ?_
        refine s0 assignA rfl ?_
        refine nil ?_
        exact hK52 _ x61 Weak.toA hE
       refine AWp.skip ?_
       exact hK52 _ s8_39 Weak.toA hE
      rintro s8_53 hE
      try dsimp only at hE
      unfold Z60_j52 at hE
      refine seqK fun K54 hK54 => ?_
      refine region ?_
      refine s0 moveA rfl ?_
      refine nil ?_
      refine hK54 _ ?_
      clear hK54 K54
      refine condE hE rfl (fun hc55 hE => ?_) (fun hc55 hE => ?_)
      ·refine region ?_
       refine s0 moveA rfl ?_
       refine s0 (loadV (TK rfl) rfl rfl rfl) rfl ?_
       refine s0 (fieldVA (TK rfl) rfl rfl (TK rfl) rfl rfl) rfl ?_
       refine s0 (loadV (TK rfl) rfl rfl rfl) rfl ?_
       refine s0 moveA rfl ?_
       obtain ⟨x56, gx56, hE⟩ := bindO_some hE
       refine s0 (callP rfl rfl (fun H => Z67_walk gx56 H)) rfl ?_
       obtain ⟨x57, gx57, hE⟩ := bindO_some hE
       refine sH (appM (f := TUse.c) (TK rfl) rfl (TK rfl) (TK rfl) ⟨_, rfl⟩ rfl rfl (by decide) rfl rfl rfl rfl hpG rfl gx57) rfl ?_
       refine AOps.heq (h' := (H.set tk1 (some (.tok 4 x57.l.length)))) (by first | rfl | (rw [Heap.set_set]; rfl) | (funext n_; simp only [Heap.set]; (repeat' split) <;> first | rfl | (exfalso; simp_all; done) | (simp_all; done))) ?_
       refine s0 assignA rfl ?_
       refine nil ?_
       exact hK45 _ x57 Weak.toA hE
      refine AWp.skip ?_
      exact hK45 _ s8_53 Weak.toA hE
     rintro s8_46 hE
     try dsimp only at hE
     unfold Z60_j45 at hE
     refine region ?_
     refine s0 moveA rfl ?_
     refine s0 (addIA rfl rfl) rfl ?_
     refine s0 assignA rfl ?_
     refine nil ?_
     exact hK38 _ (n38, s8_46, (s11_40 + 1)) Weak.toA hE (Nat.lt_succ_self _)
    refine AWp.exit ?_
    exact hK14 _ s8_39 Weak.toA hE
 rintro s8_15 hE
 try dsimp only at hE
 unfold Z60_j14 at hE
 refine seqJH KeepsT.nil (fun (z : (Sl TUse)) => [(8, .a (.d (Sl.d 4 TUse.c (some tk1) z)))]) (fun z => (H.set tk1 (some (.tok 4 z.l.length)))) (fun z => Z60_j16 z = some r) ?_ ?_
 ·intro K16 hK16
  refine seqK fun K20 hK20 => ?_
  refine region ?_
  refine s0 assignA rfl ?_
  refine nil ?_
  refine hK20 _ ?_
  clear hK20 K20
  refine block ?_
  refine loopH (KeepsT.A (k := 3) (KeepsT.A (k := 7) KeepsT.nil)) (fun (z : Nat × (Sl TUse) × Nat) => [(8, .a (.d (Sl.d 4 TUse.c (some tk1) z.2.1))), (15, .a (.d (.int .i64 ((z.2.2 : Nat) : Int))))]) (fun z => (H.set tk1 (some (.tok 4 z.2.1.l.length)))) (fun z => z.1) (fun z => Z60_l21 a0 x7 z.1 z.2.1 z.2.2 = some r) ((x7.FVars.l.length + 1), s8_15, 0) hE Weak.toA ?_
  rintro ⟨n21, s8_22, s15_23⟩ hE K21 hK21
  try dsimp only at hE
  cases n21 with
  | zero => cases hE
  | succ n21 =>
    rw [Z60_l21] at hE
    refine seqK fun K24 hK24 => ?_
    refine seqK fun K25 hK25 => ?_
    refine region ?_
    refine s0 moveA rfl ?_
    refine s0 (fieldVA (TK rfl) rfl rfl (TK rfl) rfl rfl) rfl ?_
    refine s0 (loadV (TK rfl) rfl rfl rfl) rfl ?_
    refine sLen (f := TVar.c) (s := x7.FVars) (TK rfl) rfl rfl rfl rfl fun hL26 => ?_
    refine s0 (binI rfl rfl rfl) rfl ?_
    refine nil ?_
    refine hK25 _ ?_
    clear hK25 K25
    refine condE hE rfl (fun hc27 hE => ?_) (fun hc27 hE => ?_)
    ·try dsimp only at hc27
     have hf27 := of_decide_eq_true hc27
     refine AWp.skip ?_
     refine hK24 _ ?_
     clear hK24 K24
     refine seqJH (KeepsT.A (k := 3) (KeepsT.A (k := 7) (KeepsT.A (k := 15) KeepsT.nil))) (fun (z : (Sl TUse)) => [(8, .a (.d (Sl.d 4 TUse.c (some tk1) z)))]) (fun z => (H.set tk1 (some (.tok 4 z.l.length)))) (fun z => Z60_j28 s15_23 ((Z60_l21 a0 x7 n21)) z = some r) ?_ ?_
     ·intro K28 hK28
      refine block ?_
      refine seqK fun K30 hK30 => ?_
      refine region ?_
      refine s0 (fieldVA (TK rfl) rfl rfl (TK rfl) rfl rfl) rfl ?_
      refine s0 (loadV (TK rfl) rfl rfl rfl) rfl ?_
      refine s0 moveA rfl ?_
      obtain ⟨x31, gx31, hE⟩ := bindO_some hE
      refine s0 (idxMn (f := TVar.c) (n := s15_23) (TK rfl) rfl (TK rfl) rfl rfl rfl gx31) rfl ?_
      refine s0 (fieldVA (TK rfl) rfl rfl (TK rfl) rfl rfl) rfl ?_
      refine s0 (loadV (TK rfl) rfl rfl rfl) rfl ?_
      refine nil ?_
      refine hK30 _ ?_
      clear hK30 K30
      refine condE hE rfl (fun hc32 hE => ?_) (fun hc32 hE => ?_)
      ·refine AWp.draw rfl ?_
       refine DOps.s0 moveA rfl ?_
       refine DOps.s0 (loadV (TK rfl) rfl rfl rfl) rfl ?_
       refine DOps.s0 (fieldVA (TK rfl) rfl rfl (TK rfl) rfl rfl) rfl ?_
       refine DOps.s0 (loadV (TK rfl) rfl rfl rfl) rfl ?_
       refine DOps.s0 moveA rfl ?_
       obtain ⟨x33, gx33, hE⟩ := bindO_some hE
       refine DOps.s0 (idxMn (f := TVar.c) (n := s15_23) (TK rfl) rfl (TK rfl) rfl rfl rfl gx33) rfl ?_
       refine DOps.s0 (fieldVA (TK rfl) rfl rfl (TK rfl) rfl rfl) rfl ?_
       refine DOps.s0 (loadV (TK rfl) rfl rfl rfl) rfl ?_
       refine DOps.s0 (fieldVA (TK rfl) rfl rfl (TK rfl) rfl rfl) rfl ?_
       refine DOps.s0 (loadV (TK rfl) rfl rfl rfl) rfl ?_
       refine DOps.s0 moveA rfl ?_
       obtain ⟨x34, gx34, hE⟩ := bindO_some hE
       refine DOps.s0 (idxMn (f := TVar.c) (n := s15_23) (TK rfl) rfl (TK rfl) rfl rfl rfl gx34) rfl ?_
       refine DOps.s0 (fieldVA (TK rfl) rfl rfl (TK rfl) rfl rfl) rfl ?_
       refine DOps.s0 (loadV (TK rfl) rfl rfl rfl) rfl ?_
       obtain ⟨x35, gx35, hE⟩ := bindO_some hE
       refine DOps.s0 (callP rfl rfl (fun H => Z69_walk gx35 H)) rfl ?_
       obtain ⟨x36, gx36, hE⟩ := bindO_some hE
       refine DOps.sH (appM (f := TUse.c) (TK rfl) rfl (TK rfl) (TK rfl) ⟨_, rfl⟩ rfl rfl (by decide) rfl rfl rfl rfl hpG rfl gx36) rfl ?_
       refine DOps.heq (h' := (H.set tk1 (some (.tok 4 x36.l.length)))) (by first | rfl | (rw [Heap.set_set]; rfl) | (funext n_; simp only [Heap.set]; (repeat' split) <;> first | rfl | (exfalso; simp_all; done) | (simp_all; done))) ?_
       refine DOps.s0 assignA rfl ?_
       refine DOps.nil (by decide +kernel) ?_
       exact hK28 _ x36 Weak.toA hE
      refine AWp.skip ?_
      exact hK28 _ s8_22 Weak.toA hE
     rintro s8_29 hE
     try dsimp only at hE
     unfold Z60_j28 at hE
     refine region ?_
     refine s0 moveA rfl ?_
     refine s0 (addIA rfl rfl) rfl ?_
     refine s0 assignA rfl ?_
     refine nil ?_
     exact hK21 _ (n21, s8_29, (s15_23 + 1)) Weak.toA hE (Nat.lt_succ_self _)
    refine AWp.exit ?_
    exact hK16 _ s8_22 Weak.toA hE
 rintro s8_17 hE
 try dsimp only at hE
 unfold Z60_j16 at hE
 refine seqK fun K18 hK18 => ?_
 refine region ?_
 refine s0 moveA rfl ?_
 obtain ⟨x19, gx19, hE⟩ := bindO_some hE
 refine s0 (callP rfl rfl (fun H => Z62_walk gx19 H)) rfl ?_
 refine s0 assignA rfl ?_
 refine nil ?_
 refine hK18 _ ?_
 clear hK18 K18
 refine AWp.ret ?_
 repeat (first | refine xBlock_ret ?_ | refine xThen_ret ?_)
 obtain rfl := Option.some.inj hE
 refine retQ.retF H rfl ⟨rfl, rfl⟩ ?_
 first | exact Heap.sub_set htk1 | (simp only [Heap.set_set]; exact Heap.sub_set htk1)
def Z8 (a0 : TDoc) (a1 : TQuery) (a2 : Int) : Option Bool := (Z10 a0 a1).bind fun x4 => bif (!x4) then ((Z9 ).bind fun x7 => some x7) else ((Z92 a0 a1 a2).bind fun x9 => (Z60 a0 a1 a2).bind fun x10 => (Z61 x9 x10).bind fun x11 => guardO (x11) (Z9 ) false fun x12 => some (x11 && x12))
theorem Z8_walk {a0 : TDoc} {a1 : TQuery} {a2 : Int}   {r : Bool} (hE : Z8 a0 a1 a2 = some r) (H : Heap)  : ACalls Tryz.prog 3 [.agg (TDoc.c a0), .agg (TQuery.c a1), .d (.int .i64 a2)] H fun v h' => v = .a (.d (.bool r)) ∧ h' = H := by
 unfold Z8 at hE
 refine ACalls.of_wp (fn := Tryz.f3) (c := _) Tryz.tab_ok (fun _ _ => Tryz.call3 _ _) Tryz.func3 rfl (n := 24) rfl (rs := [.tmp 6]) rfl rfl ?_
 refine seqK fun K1 hK1 => ?_
 refine region ?_
 refine s0 (boxV rfl) rfl ?_
 refine s0 (boxV rfl) rfl ?_
 refine s0 assignA rfl ?_
 refine nil ?_
 refine hK1 _ ?_
 clear hK1 K1
 refine seqK fun K2 hK2 => ?_
 refine seqK fun K3 hK3 => ?_
 refine region ?_
 refine s0 (loadV (TK rfl) rfl rfl rfl) rfl ?_
 refine s0 (loadV (TK rfl) rfl rfl rfl) rfl ?_
 obtain ⟨x4, gx4, hE⟩ := bindO_some hE
 refine s0 (callP rfl rfl (fun H => Z10_walk gx4 H)) rfl ?_
 refine s0 (notB rfl) rfl ?_
 refine nil ?_
 refine hK3 _ ?_
 clear hK3 K3
 refine condE hE rfl (fun hc5 hE => ?_) (fun hc5 hE => ?_)
 ·refine seqK fun K6 hK6 => ?_
  refine region ?_
  obtain ⟨x7, gx7, hE⟩ := bindO_some hE
  refine s0 (callP rfl rfl (fun H => Z9_walk gx7 H)) rfl ?_
  refine s0 assignA rfl ?_
  refine nil ?_
  refine hK6 _ ?_
  clear hK6 K6
  refine AWp.ret ?_
  repeat (first | refine xBlock_ret ?_ | refine xThen_ret ?_)
  obtain rfl := Option.some.inj hE
  refine retQ.retF H rfl ⟨rfl, rfl⟩ ?_
  exact (fun _ _ h => h)
 refine AWp.skip ?_
 refine hK2 _ ?_
 clear hK2 K2
 refine seqK fun K8 hK8 => ?_
 refine AWp.draw rfl ?_
 refine DOps.s0 (loadV (TK rfl) rfl rfl rfl) rfl ?_
 refine DOps.s0 (loadV (TK rfl) rfl rfl rfl) rfl ?_
 refine DOps.s0 moveA rfl ?_
 obtain ⟨x9, gx9, hE⟩ := bindO_some hE
 refine DOps.s0 (callP rfl rfl (fun H => Z92_walk gx9 H)) rfl ?_
 refine DOps.s0 (loadV (TK rfl) rfl rfl rfl) rfl ?_
 refine DOps.s0 (loadV (TK rfl) rfl rfl rfl) rfl ?_
 refine DOps.s0 moveA rfl ?_
 obtain ⟨x10, gx10, hE⟩ := bindO_some hE
 refine DOps.s0 (callP rfl rfl (fun H => Z60_walk gx10 H)) rfl ?_
 obtain ⟨x11, gx11, hE⟩ := bindO_some hE
 refine DOps.s0 (callP rfl rfl (fun H => Z61_walk gx11 H)) rfl ?_
 refine DOps.s0 moveA rfl ?_
 obtain ⟨x12, gx12, hE⟩ := guardO_some hE
 refine DOps.gC rfl rfl (fun hC => callP rfl rfl (fun H => Z9_walk (gx12 hC) H)) rfl ?_
 refine DOps.s0 (pickAndA rfl rfl rfl) rfl ?_
 refine DOps.s0 assignA rfl ?_
 refine DOps.nil (by decide +kernel) ?_
 refine hK8 _ ?_
 clear hK8 K8
 refine AWp.ret ?_
 repeat (first | refine xBlock_ret ?_ | refine xThen_ret ?_)
 obtain rfl := Option.some.inj hE
 refine retQ.retF H rfl ⟨rfl, rfl⟩ ?_
 exact (fun _ _ h => h)
end Go.Proofs
