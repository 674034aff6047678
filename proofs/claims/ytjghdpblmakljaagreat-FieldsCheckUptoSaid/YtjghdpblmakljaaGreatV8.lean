import Derived.Test.YtjghdpblmakljaaGreatV7
set_option maxRecDepth 100000
set_option maxHeartbeats 2000000
set_option linter.unusedVariables false
set_option linter.unusedSimpArgs false
namespace Go.Proofs
open Go Go.Ab
open AOps Cert AWp
def Z79_j2  (s2_3 : (Sl Bs)) (s3_4 : (Sl Bs)) : Option ((Sl Bs) × (Sl Bs)) := some (s2_3, s3_4)
def Z79_j15 (s10_10 : Nat) (k_next_7 : (Sl Bs) → (Sl Bs) → Nat → Option ((Sl Bs) × (Sl Bs))) (s2_16 : (Sl Bs)) (s3_17 : (Sl Bs)) : Option ((Sl Bs) × (Sl Bs)) := k_next_7 s2_16 s3_17 (s10_10 + 1)
def Z79_j35 (s11_30 : Nat) (k_next_27 : (Sl Bs) → (Sl Bs) → Nat → Option ((Sl Bs) × (Sl Bs))) (s2_36 : (Sl Bs)) (s3_37 : (Sl Bs)) : Option ((Sl Bs) × (Sl Bs)) := k_next_27 s2_36 s3_37 (s11_30 + 1)
def Z79_l27 (a0 : TQuery) (a1 : (Sl TSel)) (s10_10 : Nat) (k_next_7 : (Sl Bs) → (Sl Bs) → Nat → Option ((Sl Bs) × (Sl Bs))) (k_rec_30 : TQuery → (Sl TSel) → (Sl Bs) → (Sl Bs) → Option ((Sl Bs) × (Sl Bs))) : Nat → (Sl Bs) → (Sl Bs) → Nat → Option ((Sl Bs) × (Sl Bs))
 | 0, _, _, _ => none
 | n27 + 1, s2_28, s3_29, s11_30 => bif (decide (((s11_30 : Nat) : Int) < ((a0.FFrags.l.length : Nat) : Int))) then ((a0.FFrags.l[s11_30]?).bind fun x39 => (a1.l[s10_10]?).bind fun x40 => guardO (((x39.FName == x40.FName))) (a1.l[s10_10]?) TSel.zero fun x41 => guardO (((x39.FName == x40.FName))) (Z75 s3_29 x41.FName) false fun x42 => bif (((x39.FName == x40.FName)) && (!x42)) then ((a1.l[s10_10]?).bind fun x45 => (appC 16 s3_29 (⟨false, [x45.FName]⟩ : Sl Bs)).bind fun x46 => (a0.FFrags.l[s11_30]?).bind fun x47 => (k_rec_30 a0 x47.FSels s2_28 x46).bind fun x48 => Z79_j35 s11_30 ((Z79_l27 a0 a1 s10_10 k_next_7 k_rec_30 n27)) x48.1 x48.2) else (Z79_j35 s11_30 ((Z79_l27 a0 a1 s10_10 k_next_7 k_rec_30 n27)) s2_28 s3_29)) else (Z79_j15 s10_10 k_next_7 s2_28 s3_29)
def Z79_l7 (a0 : TQuery) (a1 : (Sl TSel)) (k_rec_30 : TQuery → (Sl TSel) → (Sl Bs) → (Sl Bs) → Option ((Sl Bs) × (Sl Bs))) : Nat → (Sl Bs) → (Sl Bs) → Nat → Option ((Sl Bs) × (Sl Bs))
 | 0, _, _, _ => none
 | n7 + 1, s2_8, s3_9, s10_10 => bif (decide (((s10_10 : Nat) : Int) < ((a1.l.length : Nat) : Int))) then ((a1.l[s10_10]?).bind fun x19 => bif (decide (x19.FKind = (3 : Int))) then ((a1.l[s10_10]?).bind fun x22 => (k_rec_30 a0 x22.FSels s2_8 s3_9).bind fun x23 => Z79_j15 s10_10 ((Z79_l7 a0 a1 k_rec_30 n7)) x23.1 x23.2) else (bif (decide (x19.FKind = (2 : Int))) then (Z79_l27 a0 a1 s10_10 ((Z79_l7 a0 a1 k_rec_30 n7)) k_rec_30 (a0.FFrags.l.length + 1) s2_8 s3_9 0) else ((a1.l[s10_10]?).bind fun x50 => (Z68 x50).bind fun x51 => (Z75 s2_8 x51).bind fun x52 => bif (!x52) then ((a1.l[s10_10]?).bind fun x54 => (Z68 x54).bind fun x55 => (appC 16 s2_8 (⟨false, [x55]⟩ : Sl Bs)).bind fun x56 => Z79_j15 s10_10 ((Z79_l7 a0 a1 k_rec_30 n7)) x56 s3_9) else (Z79_j15 s10_10 ((Z79_l7 a0 a1 k_rec_30 n7)) s2_8 s3_9)))) else (Z79_j2   s2_8 s3_9)
def Z79_n : Nat → TQuery → (Sl TSel) → (Sl Bs) → (Sl Bs) → Option ((Sl Bs) × (Sl Bs))
 | 0, _, _, _, _ => none
 | n + 1, a0, a1, a2, a3 => Z79_l7 a0 a1 (Z79_n n) (a1.l.length + 1) a2 a3 0
theorem Z79_step (n : Nat) (ih_30 : ∀ {a0 : TQuery} {a1 : (Sl TSel)} {a2 : (Sl Bs)} {a3 : (Sl Bs)} {w1 : Option Nat} {g2 : Nat} {g3 : Nat} {r : ((Sl Bs) × (Sl Bs))}, Z79_n n a0 a1 a2 a3 = some r → ∀ (H : Heap) (hg2 : H g2 = some (.tok 1 a2.l.length)) (hg3 : H g3 = some (.tok 1 a3.l.length)) (ne_g3_g2 : g3 ≠ g2), ACalls Tryz.prog 30 [.agg (TQuery.c a0), .d (Sl.d 7 TSel.c w1 a1), .d (Sl.d 1 strE (some g2) a2), .d (Sl.d 1 strE (some g3) a3)] H fun v h' => v = .tup [.d (Sl.d 1 strE (some g2) r.1), .d (Sl.d 1 strE (some g3) r.2)] ∧ h' = ((H.set g2 (some (.tok 1 r.1.l.length))).set g3 (some (.tok 1 r.2.l.length)))) : ∀ {a0 : TQuery} {a1 : (Sl TSel)} {a2 : (Sl Bs)} {a3 : (Sl Bs)} {w1 : Option Nat} {g2 : Nat} {g3 : Nat} {r : ((Sl Bs) × (Sl Bs))}, Z79_n (n + 1) a0 a1 a2 a3 = some r → ∀ (H : Heap) (hg2 : H g2 = some (.tok 1 a2.l.length)) (hg3 : H g3 = some (.tok 1 a3.l.length)) (ne_g3_g2 : g3 ≠ g2), ACalls Tryz.prog 30 [.agg (TQuery.c a0), .d (Sl.d 7 TSel.c w1 a1), .d (Sl.d 1 strE (some g2) a2), .d (Sl.d 1 strE (some g3) a3)] H fun v h' => v = .tup [.d (Sl.d 1 strE (some g2) r.1), .d (Sl.d 1 strE (some g3) r.2)] ∧ h' = ((H.set g2 (some (.tok 1 r.1.l.length))).set g3 (some (.tok 1 r.2.l.length))) := by
 intro a0 a1 a2 a3 w1 g2 g3 r hE H hg2 hg3 ne_g3_g2
 rw [Z79_n] at hE
 refine ACalls.of_wp (fn := Tryz.f30) (c := _) Tryz.tab_ok (fun _ _ => Tryz.call30 _ _) Tryz.func30 rfl (n := 107) rfl (rs := [.tmp 8, .tmp 9]) rfl rfl ?_
 refine AWp.heqA (h' := ((H.set g2 (some (.tok 1 a2.l.length))).set g3 (some (.tok 1 a3.l.length)))) (by funext n_; simp only [Heap.set]; (repeat' split) <;> simp_all) ?_
 refine seqK fun K1 hK1 => ?_
 refine region ?_
 refine s0 (boxV rfl) rfl ?_
 refine s0 assignA rfl ?_
 refine s0 assignA rfl ?_
 refine nil ?_
 refine hK1 _ ?_
 clear hK1 K1
 refine seqJH KeepsT.nil (fun (z : (Sl Bs) × (Sl Bs)) => [(2, .a (.d (Sl.d 1 strE (some g2) z.1))), (3, .a (.d (Sl.d 1 strE (some g3) z.2)))]) (fun z => ((H.set g2 (some (.tok 1 z.1.l.length))).set g3 (some (.tok 1 z.2.l.length)))) (fun z => Z79_j2 z.1 z.2 = some r) ?_ ?_
 ·intro K2 hK2
  refine seqK fun K6 hK6 => ?_
  refine region ?_
  refine s0 assignA rfl ?_
  refine nil ?_
  refine hK6 _ ?_
  clear hK6 K6
  refine block ?_
  refine loopH (KeepsT.A (k := 1) (KeepsT.A (k := 4) KeepsT.nil)) (fun (z : Nat × (Sl Bs) × (Sl Bs) × Nat) => [(2, .a (.d (Sl.d 1 strE (some g2) z.2.1))), (3, .a (.d (Sl.d 1 strE (some g3) z.2.2.1))), (10, .a (.d (.int .i64 ((z.2.2.2 : Nat) : Int))))]) (fun z => ((H.set g2 (some (.tok 1 z.2.1.l.length))).set g3 (some (.tok 1 z.2.2.1.l.length)))) (fun z => z.1) (fun z => Z79_l7 a0 a1 (Z79_n n) z.1 z.2.1 z.2.2.1 z.2.2.2 = some r) ((a1.l.length + 1), a2, a3, 0) hE Weak.toA ?_
  rintro ⟨n7, s2_8, s3_9, s10_10⟩ hE K7 hK7
  try dsimp only at hE
  cases n7 with
  | zero => cases hE
  | succ n7 =>
    rw [Z79_l7] at hE
    refine seqK fun K11 hK11 => ?_
    refine seqK fun K12 hK12 => ?_
    refine region ?_
    refine s0 moveA rfl ?_
    refine s0 moveA rfl ?_
    refine sLen (f := TSel.c) (s := a1) (TK rfl) rfl rfl rfl rfl fun hL13 => ?_
    refine s0 (binI rfl rfl rfl) rfl ?_
    refine nil ?_
    refine hK12 _ ?_
    clear hK12 K12
    refine condE hE rfl (fun hc14 hE => ?_) (fun hc14 hE => ?_)
    ·try dsimp only at hc14
     have hf14 := of_decide_eq_true hc14
     refine AWp.skip ?_
     refine hK11 _ ?_
     clear hK11 K11
     refine seqJH (KeepsT.A (k := 1) (KeepsT.A (k := 4) (KeepsT.A (k := 10) KeepsT.nil))) (fun (z : (Sl Bs) × (Sl Bs)) => [(2, .a (.d (Sl.d 1 strE (some g2) z.1))), (3, .a (.d (Sl.d 1 strE (some g3) z.2)))]) (fun z => ((H.set g2 (some (.tok 1 z.1.l.length))).set g3 (some (.tok 1 z.2.l.length)))) (fun z => Z79_j15 s10_10 ((Z79_l7 a0 a1 (Z79_n n) n7)) z.1 z.2 = some r) ?_ ?_
     ·intro K15 hK15
      refine block ?_
      refine seqK fun K18 hK18 => ?_
      refine region ?_
      refine s0 moveA rfl ?_
      refine s0 moveA rfl ?_
      obtain ⟨x19, gx19, hE⟩ := bindO_some hE
      refine s0 (idxMn (f := TSel.c) (n := s10_10) (TK rfl) rfl (TK rfl) rfl rfl rfl gx19) rfl ?_
      refine s0 (fieldVA (TK rfl) rfl rfl (TK rfl) rfl rfl) rfl ?_
      refine s0 (loadV (TK rfl) rfl rfl rfl) rfl ?_
      refine nil ?_
      refine hK18 _ ?_
      clear hK18 K18
      refine block ?_
      refine seqK fun K20 hK20 => ?_
      refine region ?_
      refine s0 (binI rfl rfl rfl) rfl ?_
      refine s0 assignA rfl ?_
      refine nil ?_
      refine hK20 _ ?_
      clear hK20 K20
      refine condE hE rfl (fun hc21 hE => ?_) (fun hc21 hE => ?_)
      ·refine AWp.draw rfl ?_
       refine DOps.s0 (loadV (TK rfl) rfl rfl rfl) rfl ?_
       refine DOps.s0 moveA rfl ?_
       refine DOps.s0 moveA rfl ?_
       obtain ⟨x22, gx22, hE⟩ := bindO_some hE
       refine DOps.s0 (idxMn (f := TSel.c) (n := s10_10) (TK rfl) rfl (TK rfl) rfl rfl rfl gx22) rfl ?_
       refine DOps.s0 (fieldVA (TK rfl) rfl rfl (TK rfl) rfl rfl) rfl ?_
       refine DOps.s0 (loadV (TK rfl) rfl rfl (congrArg (fun x => some (A.d x)) (TSel.FSelsD_eq _))) rfl ?_
       refine DOps.s0 moveA rfl ?_
       refine DOps.s0 moveA rfl ?_
       obtain ⟨x23, gx23, hE⟩ := bindO_some hE
       refine DOps.sH (callH rfl rfl (ih_30 gx23 _ hpG hpG (by assumption))) rfl ?_
       refine DOps.heq (h' := ((H.set g2 (some (.tok 1 x23.1.l.length))).set g3 (some (.tok 1 x23.2.l.length)))) (by first | rfl | (rw [Heap.set_set]; rfl) | (funext n_; simp only [Heap.set]; (repeat' split) <;> first | rfl | (exfalso; simp_all; done) | (simp_all; done))) ?_
       refine DOps.s0 moveA rfl ?_
       refine DOps.s0 (extract rfl rfl) rfl ?_
       refine DOps.s0 (extract rfl rfl) rfl ?_
       refine DOps.s0 assignA rfl ?_
       refine DOps.s0 assignA rfl ?_
       refine DOps.nil (by decide +kernel) ?_
       exact hK15 _ (x23.1, x23.2) Weak.toA hE
      refine seqK fun K24 hK24 => ?_
      refine region ?_
      refine s0 (binI rfl rfl rfl) rfl ?_
      refine s0 assignA rfl ?_
      refine nil ?_
      refine hK24 _ ?_
      clear hK24 K24
      refine condE hE rfl (fun hc25 hE => ?_) (fun hc25 hE => ?_)
      ·refine seqK fun K26 hK26 => ?_
       refine region ?_
       refine s0 assignA rfl ?_
       refine nil ?_
       refine hK26 _ ?_
       clear hK26 K26
       refine block ?_
       refine loopH (KeepsT.A (k := 1) (KeepsT.A (k := 4) (KeepsT.A (k := 10) KeepsT.nil))) (fun (z : Nat × (Sl Bs) × (Sl Bs) × Nat) => [(2, .a (.d (Sl.d 1 strE (some g2) z.2.1))), (3, .a (.d (Sl.d 1 strE (some g3) z.2.2.1))), (11, .a (.d (.int .i64 ((z.2.2.2 : Nat) : Int))))]) (fun z => ((H.set g2 (some (.tok 1 z.2.1.l.length))).set g3 (some (.tok 1 z.2.2.1.l.length)))) (fun z => z.1) (fun z => Z79_l27 a0 a1 s10_10 ((Z79_l7 a0 a1 (Z79_n n) n7)) (Z79_n n) z.1 z.2.1 z.2.2.1 z.2.2.2 = some r) ((a0.FFrags.l.length + 1), s2_8, s3_9, 0) hE Weak.toA ?_
       rintro ⟨n27, s2_28, s3_29, s11_30⟩ hE K27 hK27
       try dsimp only at hE
       cases n27 with
       | zero => cases hE
       | succ n27 =>
         rw [Z79_l27] at hE
         refine seqK fun K31 hK31 => ?_
         refine seqK fun K32 hK32 => ?_
         refine region ?_
         refine s0 moveA rfl ?_
         refine s0 (fieldVA (TK rfl) rfl rfl (TK rfl) rfl rfl) rfl ?_
         refine s0 (loadV (TK rfl) rfl rfl rfl) rfl ?_
         refine sLen (f := TFrag.c) (s := a0.FFrags) (TK rfl) rfl rfl rfl rfl fun hL33 => ?_
         refine s0 (binI rfl rfl rfl) rfl ?_
         refine nil ?_
         refine hK32 _ ?_
         clear hK32 K32
         refine condE hE rfl (fun hc34 hE => ?_) (fun hc34 hE => ?_)
         ·try dsimp only at hc34
          have hf34 := of_decide_eq_true hc34
          refine AWp.skip ?_
          refine hK31 _ ?_
          clear hK31 K31
          refine seqJH (KeepsT.A (k := 1) (KeepsT.A (k := 4) (KeepsT.A (k := 10) (KeepsT.A (k := 11) KeepsT.nil)))) (fun (z : (Sl Bs) × (Sl Bs)) => [(2, .a (.d (Sl.d 1 strE (some g2) z.1))), (3, .a (.d (Sl.d 1 strE (some g3) z.2)))]) (fun z => ((H.set g2 (some (.tok 1 z.1.l.length))).set g3 (some (.tok 1 z.2.l.length)))) (fun z => Z79_j35 s11_30 ((Z79_l27 a0 a1 s10_10 ((Z79_l7 a0 a1 (Z79_n n) n7)) (Z79_n n) n27)) z.1 z.2 = some r) ?_ ?_
          ·intro K35 hK35
           refine block ?_
           refine seqK fun K38 hK38 => ?_
           refine AWp.draw rfl ?_
           refine DOps.s0 (fieldVA (TK rfl) rfl rfl (TK rfl) rfl rfl) rfl ?_
           refine DOps.s0 (loadV (TK rfl) rfl rfl rfl) rfl ?_
           refine DOps.s0 moveA rfl ?_
           obtain ⟨x39, gx39, hE⟩ := bindO_some hE
           refine DOps.s0 (idxMn (f := TFrag.c) (n := s11_30) (TK rfl) rfl (TK rfl) rfl rfl rfl gx39) rfl ?_
           refine DOps.s0 (fieldVA (TK rfl) rfl rfl (TK rfl) rfl rfl) rfl ?_
           refine DOps.s0 (loadV (TK rfl) rfl rfl rfl) rfl ?_
           refine DOps.s0 moveA rfl ?_
           refine DOps.s0 moveA rfl ?_
           obtain ⟨x40, gx40, hE⟩ := bindO_some hE
           refine DOps.s0 (idxMn (f := TSel.c) (n := s10_10) (TK rfl) rfl (TK rfl) rfl rfl rfl gx40) rfl ?_
           refine DOps.s0 (fieldVA (TK rfl) rfl rfl (TK rfl) rfl rfl) rfl ?_
           refine DOps.s0 (loadV (TK rfl) rfl rfl rfl) rfl ?_
           refine DOps.s0 (binS rfl rfl rfl) rfl ?_
           refine DOps.s0 moveA rfl ?_
           refine DOps.gC rfl rfl (fun hC => moveA) rfl ?_
           refine DOps.gC rfl rfl (fun hC => moveA) rfl ?_
           refine DOps.gC rfl rfl (fun hC => moveA) rfl ?_
           obtain ⟨x41, gx41, hE⟩ := guardO_some hE
           refine DOps.gC rfl rfl (fun hC => ungdA (k := 76) rfl (ungdA (k := 77) rfl (idxMn (f := TSel.c) (n := s10_10) (TK rfl) rfl (TK rfl) rfl rfl rfl (gx41 hC)))) rfl ?_
           refine DOps.gC rfl rfl (fun hC => ungdA (k := 78) rfl (fieldVA (TK rfl) rfl rfl (TK rfl) rfl rfl)) rfl ?_
           refine DOps.gC rfl rfl (fun hC => ungdA (k := 79) rfl (loadV (TK rfl) rfl rfl rfl)) rfl ?_
           obtain ⟨x42, gx42, hE⟩ := guardO_some hE
           refine DOps.gC rfl rfl (fun hC => ungdA (k := 75) rfl (ungdA (k := 80) rfl (callP rfl rfl (fun H => Z75_walk (gx42 hC) H)))) rfl ?_
           refine DOps.gC rfl rfl (fun hC => ungdA (k := 81) rfl (notB rfl)) rfl ?_
           refine DOps.s0 (pickAndA rfl rfl rfl) rfl ?_
           refine DOps.nil (by decide +kernel) ?_
           refine hK38 _ ?_
           clear hK38 K38
           refine condE hE rfl (fun hc43 hE => ?_) (fun hc43 hE => ?_)
           ·refine seqK fun K44 hK44 => ?_
            refine region ?_
            refine s0 moveA rfl ?_
            refine s0 moveA rfl ?_
            refine s0 moveA rfl ?_
            obtain ⟨x45, gx45, hE⟩ := bindO_some hE
            refine s0 (idxMn (f := TSel.c) (n := s10_10) (TK rfl) rfl (TK rfl) rfl rfl rfl gx45) rfl ?_
            refine s0 (fieldVA (TK rfl) rfl rfl (TK rfl) rfl rfl) rfl ?_
            refine s0 (loadV (TK rfl) rfl rfl rfl) rfl ?_
            refine s0 (buildSlice (TK rfl) rfl (TK rfl) rfl rfl rfl rfl rfl rfl) rfl ?_
            obtain ⟨x46, gx46, hE⟩ := bindO_some hE
            refine sH (appM (f := strE) (TK rfl) rfl (TK rfl) (TK rfl) ⟨_, rfl⟩ rfl rfl (by decide) rfl rfl rfl rfl hpG rfl gx46) rfl ?_
            refine AOps.heq (h' := ((H.set g2 (some (.tok 1 s2_28.l.length))).set g3 (some (.tok 1 x46.l.length)))) (by first | rfl | (rw [Heap.set_set]; rfl) | (funext n_; simp only [Heap.set]; (repeat' split) <;> first | rfl | (exfalso; simp_all; done) | (simp_all; done))) ?_
            refine s0 assignA rfl ?_
            refine nil ?_
            refine hK44 _ ?_
            clear hK44 K44
            refine AWp.draw rfl ?_
            refine DOps.s0 (loadV (TK rfl) rfl rfl rfl) rfl ?_
            refine DOps.s0 (fieldVA (TK rfl) rfl rfl (TK rfl) rfl rfl) rfl ?_
            refine DOps.s0 (loadV (TK rfl) rfl rfl rfl) rfl ?_
            refine DOps.s0 moveA rfl ?_
            obtain ⟨x47, gx47, hE⟩ := bindO_some hE
            refine DOps.s0 (idxMn (f := TFrag.c) (n := s11_30) (TK rfl) rfl (TK rfl) rfl rfl rfl gx47) rfl ?_
            refine DOps.s0 (fieldVA (TK rfl) rfl rfl (TK rfl) rfl rfl) rfl ?_
            refine DOps.s0 (loadV (TK rfl) rfl rfl rfl) rfl ?_
            refine DOps.s0 moveA rfl ?_
            refine DOps.s0 moveA rfl ?_
            obtain ⟨x48, gx48, hE⟩ := bindO_some hE
            refine DOps.sH (callH rfl rfl (ih_30 gx48 _ hpG hpG (by assumption))) rfl ?_
            refine DOps.heq (h' := ((H.set g2 (some (.tok 1 x48.1.l.length))).set g3 (some (.tok 1 x48.2.l.length)))) (by first | rfl | (rw [Heap.set_set]; rfl) | (funext n_; simp only [Heap.set]; (repeat' split) <;> first | rfl | (exfalso; simp_all; done) | (simp_all; done))) ?_
            refine DOps.s0 moveA rfl ?_
            refine DOps.s0 (extract rfl rfl) rfl ?_
            refine DOps.s0 (extract rfl rfl) rfl ?_
            refine DOps.s0 assignA rfl ?_
            refine DOps.s0 assignA rfl ?_
            refine DOps.nil (by decide +kernel) ?_
            exact hK35 _ (x48.1, x48.2) Weak.toA hE
           refine AWp.skip ?_
           exact hK35 _ (s2_28, s3_29) Weak.toA hE
          rintro ⟨s2_36, s3_37⟩ hE
          try dsimp only at hE
          unfold Z79_j35 at hE
          refine region ?_
          refine s0 moveA rfl ?_
          refine s0 (addIA rfl rfl) rfl ?_
          refine s0 assignA rfl ?_
          refine nil ?_
          exact hK27 _ (n27, s2_36, s3_37, (s11_30 + 1)) Weak.toA hE (Nat.lt_succ_self _)
         refine AWp.exit ?_
         exact hK15 _ (s2_28, s3_29) Weak.toA hE
      refine seqK fun K49 hK49 => ?_
      refine region ?_
      refine s0 moveA rfl ?_
      refine s0 moveA rfl ?_
      refine s0 moveA rfl ?_
      obtain ⟨x50, gx50, hE⟩ := bindO_some hE
      refine s0 (idxMn (f := TSel.c) (n := s10_10) (TK rfl) rfl (TK rfl) rfl rfl rfl gx50) rfl ?_
      refine s0 (loadV (TK rfl) rfl rfl rfl) rfl ?_
      obtain ⟨x51, gx51, hE⟩ := bindO_some hE
      refine s0 (callP rfl rfl (fun H => Z68_walk gx51 H)) rfl ?_
      obtain ⟨x52, gx52, hE⟩ := bindO_some hE
      refine s0 (callP rfl rfl (fun H => Z75_walk gx52 H)) rfl ?_
      refine s0 (notB rfl) rfl ?_
      refine nil ?_
      refine hK49 _ ?_
      clear hK49 K49
      refine condE hE rfl (fun hc53 hE => ?_) (fun hc53 hE => ?_)
      ·refine region ?_
       refine s0 moveA rfl ?_
       refine s0 moveA rfl ?_
       refine s0 moveA rfl ?_
       obtain ⟨x54, gx54, hE⟩ := bindO_some hE
       refine s0 (idxMn (f := TSel.c) (n := s10_10) (TK rfl) rfl (TK rfl) rfl rfl rfl gx54) rfl ?_
       refine s0 (loadV (TK rfl) rfl rfl rfl) rfl ?_
       obtain ⟨x55, gx55, hE⟩ := bindO_some hE
       refine s0 (callP rfl rfl (fun H => Z68_walk gx55 H)) rfl ?_
       refine s0 (buildSlice (TK rfl) rfl (TK rfl) rfl rfl rfl rfl rfl rfl) rfl ?_
       obtain ⟨x56, gx56, hE⟩ := bindO_some hE
       refine sH (appM (f := strE) (TK rfl) rfl (TK rfl) (TK rfl) ⟨_, rfl⟩ rfl rfl (by decide) rfl rfl rfl rfl hpG rfl gx56) rfl ?_
       refine AOps.heq (h' := ((H.set g2 (some (.tok 1 x56.l.length))).set g3 (some (.tok 1 s3_9.l.length)))) (by first | rfl | (rw [Heap.set_set]; rfl) | (funext n_; simp only [Heap.set]; (repeat' split) <;> first | rfl | (exfalso; simp_all; done) | (simp_all; done))) ?_
       refine s0 assignA rfl ?_
       refine nil ?_
       exact hK15 _ (x56, s3_9) Weak.toA hE
      refine AWp.skip ?_
      exact hK15 _ (s2_8, s3_9) Weak.toA hE
     rintro ⟨s2_16, s3_17⟩ hE
     try dsimp only at hE
     unfold Z79_j15 at hE
     refine region ?_
     refine s0 moveA rfl ?_
     refine s0 (addIA rfl rfl) rfl ?_
     refine s0 assignA rfl ?_
     refine nil ?_
     exact hK7 _ (n7, s2_16, s3_17, (s10_10 + 1)) Weak.toA hE (Nat.lt_succ_self _)
    refine AWp.exit ?_
    exact hK2 _ (s2_8, s3_9) Weak.toA hE
 rintro ⟨s2_3, s3_4⟩ hE
 try dsimp only at hE
 unfold Z79_j2 at hE
 refine seqK fun K5 hK5 => ?_
 refine region ?_
 refine s0 moveA rfl ?_
 refine s0 moveA rfl ?_
 refine s0 assignA rfl ?_
 refine s0 assignA rfl ?_
 refine nil ?_
 refine hK5 _ ?_
 clear hK5 K5
 refine AWp.ret ?_
 repeat (first | refine xBlock_ret ?_ | refine xThen_ret ?_)
 obtain rfl := Option.some.inj hE
 refine retQ.retF ((H.set g2 (some (.tok 1 s2_3.l.length))).set g3 (some (.tok 1 s3_4.l.length))) rfl ⟨rfl, rfl⟩ ?_
 exact (fun _ _ h => h)
theorem Z79_all : ∀ (n : Nat), (∀ {a0 : TQuery} {a1 : (Sl TSel)} {a2 : (Sl Bs)} {a3 : (Sl Bs)} {w1 : Option Nat} {g2 : Nat} {g3 : Nat} {r : ((Sl Bs) × (Sl Bs))}, Z79_n n a0 a1 a2 a3 = some r → ∀ (H : Heap) (hg2 : H g2 = some (.tok 1 a2.l.length)) (hg3 : H g3 = some (.tok 1 a3.l.length)) (ne_g3_g2 : g3 ≠ g2), ACalls Tryz.prog 30 [.agg (TQuery.c a0), .d (Sl.d 7 TSel.c w1 a1), .d (Sl.d 1 strE (some g2) a2), .d (Sl.d 1 strE (some g3) a3)] H fun v h' => v = .tup [.d (Sl.d 1 strE (some g2) r.1), .d (Sl.d 1 strE (some g3) r.2)] ∧ h' = ((H.set g2 (some (.tok 1 r.1.l.length))).set g3 (some (.tok 1 r.2.l.length))))
 | 0 => fun hE => by first | cases hE | (rw [Z79_n] at hE; cases hE)
 | n + 1 => Z79_step n (Z79_all n)
def Z79 (a0 : TQuery) (a1 : (Sl TSel)) (a2 : (Sl Bs)) (a3 : (Sl Bs)) : Option ((Sl Bs) × (Sl Bs)) := Z79_n F0 a0 a1 a2 a3
theorem Z79_walk {a0 : TQuery} {a1 : (Sl TSel)} {a2 : (Sl Bs)} {a3 : (Sl Bs)} {w1 : Option Nat} {g2 : Nat} {g3 : Nat} {r : ((Sl Bs) × (Sl Bs))} (hE : Z79 a0 a1 a2 a3 = some r) (H : Heap) (hg2 : H g2 = some (.tok 1 a2.l.length)) (hg3 : H g3 = some (.tok 1 a3.l.length)) (ne_g3_g2 : g3 ≠ g2) : ACalls Tryz.prog 30 [.agg (TQuery.c a0), .d (Sl.d 7 TSel.c w1 a1), .d (Sl.d 1 strE (some g2) a2), .d (Sl.d 1 strE (some g3) a3)] H fun v h' => v = .tup [.d (Sl.d 1 strE (some g2) r.1), .d (Sl.d 1 strE (some g3) r.2)] ∧ h' = ((H.set g2 (some (.tok 1 r.1.l.length))).set g3 (some (.tok 1 r.2.l.length))) := (Z79_all F0) hE H hg2 hg3 ne_g3_g2
def Z66 (a0 : Bs) : Option Bool := some (((((a0 == ([73, 110, 116] : Bs))) || ((a0 == ([83, 116, 114, 105, 110, 103] : Bs)))) || ((a0 == ([66, 111, 111, 108, 101, 97, 110] : Bs)))) || ((a0 == ([73, 68] : Bs))))
theorem Z66_walk {a0 : Bs}   {r : Bool} (hE : Z66 a0 = some r) (H : Heap)  : ACalls Tryz.prog 104 [.d (.str a0)] H fun v h' => v = .a (.d (.bool r)) ∧ h' = H := by
 unfold Z66 at hE
 refine ACalls.of_wp (fn := Tryz.f104) (c := _) Tryz.tab_ok (fun _ _ => Tryz.call104 _ _) Tryz.func104 rfl (n := 17) rfl (rs := [.tmp 2]) rfl rfl ?_
 refine seqK fun K1 hK1 => ?_
 refine region ?_
 refine s0 assignA rfl ?_
 refine nil ?_
 refine hK1 _ ?_
 clear hK1 K1
 refine seqK fun K2 hK2 => ?_
 refine region ?_
 refine s0 moveA rfl ?_
 refine s0 (binS rfl rfl rfl) rfl ?_
 refine s0 moveA rfl ?_
 refine gC rfl rfl (fun hC => moveA) rfl ?_
 refine gC rfl rfl (fun hC => ungdA (k := 6) rfl (binS rfl rfl rfl)) rfl ?_
 refine s0 (pickOrA rfl rfl rfl) rfl ?_
 refine s0 moveA rfl ?_
 refine gC rfl rfl (fun hC => moveA) rfl ?_
 refine gC rfl rfl (fun hC => ungdA (k := 10) rfl (binS rfl rfl rfl)) rfl ?_
 refine s0 (pickOrA rfl rfl rfl) rfl ?_
 refine s0 moveA rfl ?_
 refine gC rfl rfl (fun hC => moveA) rfl ?_
 refine gC rfl rfl (fun hC => ungdA (k := 14) rfl (binS rfl rfl rfl)) rfl ?_
 refine s0 (pickOrA rfl rfl rfl) rfl ?_
 refine s0 assignA rfl ?_
 refine nil ?_
 refine hK2 _ ?_
 clear hK2 K2
 refine AWp.ret ?_
 repeat (first | refine xBlock_ret ?_ | refine xThen_ret ?_)
 obtain rfl := Option.some.inj hE
 refine retQ.retF H rfl ⟨rfl, rfl⟩ ?_
 exact (fun _ _ h => h)
def Z57 (a0 : TDoc) (a1 : Bs) : Option Bool := (Z60 a0 a1).bind fun x3 => (Z66 a1).bind fun x5 => some (((!x5) && x3.2) && (((decide (x3.1.FKind = (1 : Int))) || (decide (x3.1.FKind = (2 : Int)))) || (decide (x3.1.FKind = (3 : Int)))))
theorem Z57_walk {a0 : TDoc} {a1 : Bs}   {r : Bool} (hE : Z57 a0 a1 = some r) (H : Heap)  : ACalls Tryz.prog 64 [.agg (TDoc.c a0), .d (.str a1)] H fun v h' => v = .a (.d (.bool r)) ∧ h' = H := by
 unfold Z57 at hE
 refine ACalls.of_wp (fn := Tryz.f64) (c := _) Tryz.tab_ok (fun _ _ => Tryz.call64 _ _) Tryz.func64 rfl (n := 34) rfl (rs := [.tmp 4]) rfl rfl ?_
 refine seqK fun K1 hK1 => ?_
 refine region ?_
 refine s0 (boxV rfl) rfl ?_
 refine s0 assignA rfl ?_
 refine nil ?_
 refine hK1 _ ?_
 clear hK1 K1
 refine seqK fun K2 hK2 => ?_
 refine region ?_
 refine s0 (loadV (TK rfl) rfl rfl rfl) rfl ?_
 refine s0 moveA rfl ?_
 obtain ⟨x3, gx3, hE⟩ := bindO_some hE
 refine s0 (callP rfl rfl (fun H => Z60_walk gx3 H)) rfl ?_
 refine s0 moveA rfl ?_
 refine s0 (extract rfl rfl) rfl ?_
 refine s0 (extract rfl rfl) rfl ?_
 refine sL (allocLA (TK rfl) rfl) rfl ?_
 refine sLn (storeLFA (TK rfl) rfl rfl rfl rfl rfl) ?_
 refine s0 assignA rfl ?_
 refine nil ?_
 refine hK2 _ ?_
 clear hK2 K2
 refine freezeA 5 _ rfl (Keeps.c (k := 1) (by conv => lhs; whnf) (by rfl) (Keeps.c (k := 6) (by conv => lhs; whnf) (by rfl) Keeps.nil)) ?_
 refine seqK fun K4 hK4 => ?_
 refine region ?_
 refine s0 moveA rfl ?_
 obtain ⟨x5, gx5, hE⟩ := bindO_some hE
 refine s0 (callP rfl rfl (fun H => Z66_walk gx5 H)) rfl ?_
 refine s0 (notB rfl) rfl ?_
 refine s0 moveA rfl ?_
 refine gC rfl rfl (fun hC => moveA) rfl ?_
 refine s0 (pickAndA rfl rfl rfl) rfl ?_
 refine s0 moveA rfl ?_
 refine gC rfl rfl (fun hC => fieldVA (TK rfl) rfl rfl (TK rfl) rfl rfl) rfl ?_
 refine gC rfl rfl (fun hC => ungdA (k := 20) rfl (loadV (TK rfl) rfl rfl rfl)) rfl ?_
 refine gC rfl rfl (fun hC => ungdA (k := 21) rfl (binI rfl rfl rfl)) rfl ?_
 refine gC rfl rfl (fun hC => ungdA (k := 22) rfl moveA) rfl ?_
 refine gC rfl rfl (fun hC => fieldVA (TK rfl) rfl rfl (TK rfl) rfl rfl) rfl ?_
 refine gC rfl rfl (fun hC => ungdA (k := 24) rfl (loadV (TK rfl) rfl rfl rfl)) rfl ?_
 refine gC rfl rfl (fun hC => ungdA (k := 25) rfl (binI rfl rfl rfl)) rfl ?_
 refine gC rfl rfl (fun hC => ungdA (k := 23) rfl (pickOrA rfl rfl rfl)) rfl ?_
 refine gC rfl rfl (fun hC => ungdA (k := 27) rfl moveA) rfl ?_
 refine gC rfl rfl (fun hC => fieldVA (TK rfl) rfl rfl (TK rfl) rfl rfl) rfl ?_
 refine gC rfl rfl (fun hC => ungdA (k := 29) rfl (loadV (TK rfl) rfl rfl rfl)) rfl ?_
 refine gC rfl rfl (fun hC => ungdA (k := 30) rfl (binI rfl rfl rfl)) rfl ?_
 refine gC rfl rfl (fun hC => ungdA (k := 28) rfl (pickOrA rfl rfl rfl)) rfl ?_
 refine s0 (pickAndA rfl rfl rfl) rfl ?_
 refine s0 assignA rfl ?_
 refine nil ?_
 refine hK4 _ ?_
 clear hK4 K4
 refine AWp.ret ?_
 repeat (first | refine xBlock_ret ?_ | refine xThen_ret ?_)
 obtain rfl := Option.some.inj hE
 refine retQ.retF H rfl ⟨rfl, rfl⟩ ?_
 exact (fun _ _ h => h)
def Z76 (a0 : TDoc) (a1 : Bs) : Option Bs := (Z57 a0 a1).bind fun x4 => bif x4 then (some a1) else (some ([] : Bs))
theorem Z76_walk {a0 : TDoc} {a1 : Bs}   {r : Bs} (hE : Z76 a0 a1 = some r) (H : Heap)  : ACalls Tryz.prog 32 [.agg (TDoc.c a0), .d (.str a1)] H fun v h' => v = .a (.d (.str r)) ∧ h' = H := by
 unfold Z76 at hE
 refine ACalls.of_wp (fn := Tryz.f32) (c := _) Tryz.tab_ok (fun _ _ => Tryz.call32 _ _) Tryz.func32 rfl (n := 9) rfl (rs := [.tmp 4]) rfl rfl ?_
 refine seqK fun K1 hK1 => ?_
 refine region ?_
 refine s0 (boxV rfl) rfl ?_
 refine s0 assignA rfl ?_
 refine nil ?_
 refine hK1 _ ?_
 clear hK1 K1
 refine seqK fun K2 hK2 => ?_
 refine seqK fun K3 hK3 => ?_
 refine region ?_
 refine s0 (loadV (TK rfl) rfl rfl rfl) rfl ?_
 refine s0 moveA rfl ?_
 obtain ⟨x4, gx4, hE⟩ := bindO_some hE
 refine s0 (callP rfl rfl (fun H => Z57_walk gx4 H)) rfl ?_
 refine nil ?_
 refine hK3 _ ?_
 clear hK3 K3
 refine condE hE rfl (fun hc5 hE => ?_) (fun hc5 hE => ?_)
 ·refine seqK fun K6 hK6 => ?_
  refine region ?_
  refine s0 moveA rfl ?_
  refine s0 assignA rfl ?_
  refine nil ?_
  refine hK6 _ ?_
  clear hK6 K6
  refine AWp.ret ?_
  repeat (first | refine xBlock_ret ?_ | refine xThen_ret ?_)
  obtain rfl := Option.some.inj hE
  refine retQ.retF H rfl ⟨rfl, rfl⟩ ?_
  exact (fun _ _ h => h)
 refine AWp.skip ?_
 refine hK2 _ ?_
 clear hK2 K2
 refine seqK fun K7 hK7 => ?_
 refine region ?_
 refine s0 assignA rfl ?_
 refine nil ?_
 refine hK7 _ ?_
 clear hK7 K7
 refine AWp.ret ?_
 repeat (first | refine xBlock_ret ?_ | refine xThen_ret ?_)
 obtain rfl := Option.some.inj hE
 refine retQ.retF H rfl ⟨rfl, rfl⟩ ?_
 exact (fun _ _ h => h)
def Z77 (a0 : Bs) (a1 : Bs) : Option TInput := (Z32 a1).bind fun x3 => (Z33 x3).bind fun x4 => some (TInput.mk a0 x4 false TValue.zero (Sl.nil : Sl TDir))
theorem Z77_walk {a0 : Bs} {a1 : Bs}   {r : TInput} (hE : Z77 a0 a1 = some r) (H : Heap)  : ACalls Tryz.prog 124 [.d (.str a0), .d (.str a1)] H fun v h' => v = .a (.agg (TInput.c r)) ∧ h' = H := by
 unfold Z77 at hE
 refine ACalls.of_wp (fn := Tryz.f124) (c := _) Tryz.tab_ok (fun _ _ => Tryz.call124 _ _) Tryz.func124 rfl (n := 10) rfl (rs := [.cell 4 116]) rfl rfl ?_
 refine seqK fun K1 hK1 => ?_
 refine region ?_
 refine sL (allocLA (TK rfl) rfl) rfl ?_
 refine nil ?_
 refine hK1 _ ?_
 clear hK1 K1
 refine seqK fun K2 hK2 => ?_
 refine region ?_
 refine s0 moveA rfl ?_
 refine s0 moveA rfl ?_
 obtain ⟨x3, gx3, hE⟩ := bindO_some hE
 refine s0 (callP rfl rfl (fun H => Z32_walk gx3 H)) rfl ?_
 obtain ⟨x4, gx4, hE⟩ := bindO_some hE
 refine s0 (callP rfl rfl (fun H => Z33_walk gx4 H)) rfl ?_
 refine s0 (build Tryz.tab_ok rfl rfl rfl rfl rfl rfl) rfl ?_
 refine sLn (storeLFA (TK rfl) rfl rfl rfl rfl rfl) ?_
 refine nil ?_
 refine hK2 _ ?_
 clear hK2 K2
 refine AWp.ret ?_
 repeat (first | refine xBlock_ret ?_ | refine xThen_ret ?_)
 obtain rfl := Option.some.inj hE
 refine retQ.retF H rfl ⟨rfl, rfl⟩ ?_
 exact (fun _ _ h => h)
def Z70_j2   : Option ((Sl TInput) × Bool) := some ((Sl.nil : Sl TInput), false)
def Z70_j5 (a0 : Bs) (a1 : Int) (a2 : Bool)  (s9_6 : Bool) : Option ((Sl TInput) × Bool) := bif s9_6 then ((Z77 ([105, 102] : Bs) ([66, 111, 111, 108, 101, 97, 110] : Bs)).bind fun x9 => some ((⟨false, [x9]⟩ : Sl TInput), true)) else (bif ((a0 == ([100, 101, 102, 101, 114] : Bs))) then ((Z77 ([108, 97, 98, 101, 108] : Bs) ([83, 116, 114, 105, 110, 103] : Bs)).bind fun x13 => some ((⟨false, [x13]⟩ : Sl TInput), ((decide (a1 = (2 : Int))) || (decide (a1 = (3 : Int)))))) else (bif ((a0 == ([115, 116, 114, 101, 97, 109] : Bs))) then ((Z77 ([108, 97, 98, 101, 108] : Bs) ([83, 116, 114, 105, 110, 103] : Bs)).bind fun x17 => (Z77 ([105, 110, 105, 116, 105, 97, 108, 67, 111, 117, 110, 116] : Bs) ([73, 110, 116] : Bs)).bind fun x18 => some ((⟨false, [x17, x18]⟩ : Sl TInput), (((!decide (a1 = (2 : Int))) && (!decide (a1 = (3 : Int)))) && a2))) else (Z70_j2   )))
def Z70 (a0 : Bs) (a1 : Int) (a2 : Bool) : Option ((Sl TInput) × Bool) := bif ((a0 == ([115, 107, 105, 112] : Bs))) then (Z70_j5 a0 a1 a2  ((a0 == ([115, 107, 105, 112] : Bs)))) else (Z70_j5 a0 a1 a2  ((a0 == ([105, 110, 99, 108, 117, 100, 101] : Bs))))
theorem Z70_walk {a0 : Bs} {a1 : Int} {a2 : Bool}   {r : ((Sl TInput) × Bool)} (hE : Z70 a0 a1 a2 = some r) (H : Heap)  : ACalls Tryz.prog 97 [.d (.str a0), .d (.int .i64 a1), .d (.bool a2)] H fun v h' => v = .tup [.d (Sl.d 10 TInput.c none r.1), .d (.bool r.2)] ∧ h' = H := by
 unfold Z70 at hE
 refine ACalls.of_wp (fn := Tryz.f97) (c := _) Tryz.tab_ok (fun _ _ => Tryz.call97 _ _) Tryz.func97 rfl (n := 38) rfl (rs := [.tmp 6, .tmp 7]) rfl rfl ?_
 refine seqK fun K1 hK1 => ?_
 refine region ?_
 refine s0 (assignNil (k' := 10) rfl) rfl ?_
 refine s0 assignA rfl ?_
 refine nil ?_
 refine hK1 _ ?_
 clear hK1 K1
 refine seqJH KeepsT.nil (fun (z : Unit) => []) (fun z => H) (fun z => Z70_j2  = some r) ?_ ?_
 ·intro K2 hK2
  refine seqK fun K4 hK4 => ?_
  refine region ?_
  refine s0 moveA rfl ?_
  refine nil ?_
  refine hK4 _ ?_
  clear hK4 K4
  refine block ?_
  refine seqJH (KeepsT.A (k := 1) (KeepsT.A (k := 2) (KeepsT.A (k := 8) KeepsT.nil))) (fun (z : Bool) => [(9, .a (.d (.bool z)))]) (fun z => H) (fun z => Z70_j5 a0 a1 a2 z = some r) ?_ ?_
  ·intro K5 hK5
   refine seqK fun K19 hK19 => ?_
   refine region ?_
   refine s0 (binS rfl rfl rfl) rfl ?_
   refine s0 assignA rfl ?_
   refine nil ?_
   refine hK19 _ ?_
   clear hK19 K19
   refine condE hE rfl (fun hc20 hE => ?_) (fun hc20 hE => ?_)
   ·refine AWp.skip ?_
    exact hK5 _ ((a0 == ([115, 107, 105, 112] : Bs))) Weak.toA hE
   refine region ?_
   refine s0 (binS rfl rfl rfl) rfl ?_
   refine s0 assignA rfl ?_
   refine nil ?_
   exact hK5 _ ((a0 == ([105, 110, 99, 108, 117, 100, 101] : Bs))) Weak.toA hE
  rintro s9_6 hE
  try dsimp only at hE
  unfold Z70_j5 at hE
  refine condE hE rfl (fun hc7 hE => ?_) (fun hc7 hE => ?_)
  ·refine seqK fun K8 hK8 => ?_
   refine region ?_
   obtain ⟨x9, gx9, hE⟩ := bindO_some hE
   refine s0 (callP rfl rfl (fun H => Z77_walk gx9 H)) rfl ?_
   refine s0 (buildSlice (TK rfl) rfl (TK rfl) rfl rfl rfl rfl rfl rfl) rfl ?_
   refine s0 assignA rfl ?_
   refine s0 assignA rfl ?_
   refine nil ?_
   refine hK8 _ ?_
   clear hK8 K8
   refine AWp.ret ?_
   repeat (first | refine xBlock_ret ?_ | refine xThen_ret ?_)
   obtain rfl := Option.some.inj hE
   refine retQ.retF H rfl ⟨rfl, rfl⟩ ?_
   exact (fun _ _ h => h)
  refine seqK fun K10 hK10 => ?_
  refine region ?_
  refine s0 (binS rfl rfl rfl) rfl ?_
  refine s0 assignA rfl ?_
  refine nil ?_
  refine hK10 _ ?_
  clear hK10 K10
  refine condE hE rfl (fun hc11 hE => ?_) (fun hc11 hE => ?_)
  ·refine seqK fun K12 hK12 => ?_
   refine region ?_
   obtain ⟨x13, gx13, hE⟩ := bindO_some hE
   refine s0 (callP rfl rfl (fun H => Z77_walk gx13 H)) rfl ?_
   refine s0 (buildSlice (TK rfl) rfl (TK rfl) rfl rfl rfl rfl rfl rfl) rfl ?_
   refine s0 moveA rfl ?_
   refine s0 (binI rfl rfl rfl) rfl ?_
   refine s0 moveA rfl ?_
   refine gC rfl rfl (fun hC => moveA) rfl ?_
   refine gC rfl rfl (fun hC => ungdA (k := 21) rfl (binI rfl rfl rfl)) rfl ?_
   refine s0 (pickOrA rfl rfl rfl) rfl ?_
   refine s0 assignA rfl ?_
   refine s0 assignA rfl ?_
   refine nil ?_
   refine hK12 _ ?_
   clear hK12 K12
   refine AWp.ret ?_
   repeat (first | refine xBlock_ret ?_ | refine xThen_ret ?_)
   obtain rfl := Option.some.inj hE
   refine retQ.retF H rfl ⟨rfl, rfl⟩ ?_
   exact (fun _ _ h => h)
  refine seqK fun K14 hK14 => ?_
  refine region ?_
  refine s0 (binS rfl rfl rfl) rfl ?_
  refine s0 assignA rfl ?_
  refine nil ?_
  refine hK14 _ ?_
  clear hK14 K14
  refine condE hE rfl (fun hc15 hE => ?_) (fun hc15 hE => ?_)
  ·refine seqK fun K16 hK16 => ?_
   refine region ?_
   obtain ⟨x17, gx17, hE⟩ := bindO_some hE
   refine s0 (callP rfl rfl (fun H => Z77_walk gx17 H)) rfl ?_
   obtain ⟨x18, gx18, hE⟩ := bindO_some hE
   refine s0 (callP rfl rfl (fun H => Z77_walk gx18 H)) rfl ?_
   refine s0 (buildSlice (TK rfl) rfl (TK rfl) rfl rfl rfl rfl rfl rfl) rfl ?_
   refine s0 moveA rfl ?_
   refine s0 (binI rfl rfl rfl) rfl ?_
   refine s0 moveA rfl ?_
   refine gC rfl rfl (fun hC => moveA) rfl ?_
   refine gC rfl rfl (fun hC => ungdA (k := 32) rfl (binI rfl rfl rfl)) rfl ?_
   refine s0 (pickAndA rfl rfl rfl) rfl ?_
   refine s0 moveA rfl ?_
   refine gC rfl rfl (fun hC => moveA) rfl ?_
   refine s0 (pickAndA rfl rfl rfl) rfl ?_
   refine s0 assignA rfl ?_
   refine s0 assignA rfl ?_
   refine nil ?_
   refine hK16 _ ?_
   clear hK16 K16
   refine AWp.ret ?_
   repeat (first | refine xBlock_ret ?_ | refine xThen_ret ?_)
   obtain rfl := Option.some.inj hE
   refine retQ.retF H rfl ⟨rfl, rfl⟩ ?_
   exact (fun _ _ h => h)
  refine AWp.skip ?_
  exact hK2 _ () Weak.toA hE
 rintro _ hE
 try dsimp only at hE
 unfold Z70_j2 at hE
 refine seqK fun K3 hK3 => ?_
 refine region ?_
 refine s0 (assignNil (k' := 10) rfl) rfl ?_
 refine s0 assignA rfl ?_
 refine nil ?_
 refine hK3 _ ?_
 clear hK3 K3
 refine AWp.ret ?_
 repeat (first | refine xBlock_ret ?_ | refine xThen_ret ?_)
 obtain rfl := Option.some.inj hE
 refine retQ.retF H rfl ⟨rfl, rfl⟩ ?_
 exact (fun _ _ h => h)
def Z61_j2  (y3_l0 : TInput) : Option (TInput × Bool) := some ((TInput.mk ([] : Bs) TRef.zero false TValue.zero (Sl.nil : Sl TDir)), false)
def Z61_l6 (a0 : (Sl TInput)) (a1 : Bs)  : Nat → Nat → TInput → Option (TInput × Bool)
 | 0, _, _ => none
 | n6 + 1, s6_7, y8_l0 => bif (decide (((s6_7 : Nat) : Int) < ((a0.l.length : Nat) : Int))) then ((a0.l[s6_7]?).bind fun x15 => bif ((x15.FName == a1)) then ((a0.l[s6_7]?).bind fun x18 => some (x18, true)) else ((Z61_l6 a0 a1 n6) (s6_7 + 1) y8_l0)) else (Z61_j2   y8_l0)
def Z61 (a0 : (Sl TInput)) (a1 : Bs) : Option (TInput × Bool) := Z61_l6 a0 a1 (a0.l.length + 1) 0 TInput.zero
theorem Z61_walk {a0 : (Sl TInput)} {a1 : Bs} {w0 : Option Nat}  {r : (TInput × Bool)} (hE : Z61 a0 a1 = some r) (H : Heap)  : ACalls Tryz.prog 125 [.d (Sl.d 10 TInput.c w0 a0), .d (.str a1)] H fun v h' => v = .tup [.agg (TInput.c r.1), .d (.bool r.2)] ∧ h' = H := by
 unfold Z61 at hE
 refine ACalls.of_wp (fn := Tryz.f125) (c := _) Tryz.tab_ok (fun _ _ => Tryz.call125 _ _) Tryz.func125 rfl (n := 25) rfl (rs := [.cell 4 116, .tmp 5]) rfl rfl ?_
 refine seqK fun K1 hK1 => ?_
 refine region ?_
 refine sL (allocLA (TK rfl) rfl) rfl ?_
 refine s0 assignA rfl ?_
 refine nil ?_
 refine hK1 _ ?_
 clear hK1 K1
 refine seqJ (KeepsT.A (k := 4) KeepsT.nil) (fun (z : TInput) => []) (fun z => [TInput.c z]) (fun z => H) (fun z => Z61_j2 z = some r) ?_ ?_
 ·intro K2 hK2
  refine seqK fun K5 hK5 => ?_
  refine region ?_
  refine s0 assignA rfl ?_
  refine nil ?_
  refine hK5 _ ?_
  clear hK5 K5
  refine block ?_
  refine loopO (KeepsT.A (k := 0) (KeepsT.A (k := 1) (KeepsT.A (k := 4) KeepsT.nil))) (fun (z : Nat × Nat × TInput) => [(6, .a (.d (.int .i64 ((z.2.1 : Nat) : Int))))]) (fun z => [TInput.c z.2.2]) (fun z => H) (fun z => z.1) (fun z => Z61_l6 a0 a1 z.1 z.2.1 z.2.2 = some r) ((a0.l.length + 1), 0, TInput.zero) hE Weak.toA ?_
  rintro ⟨n6, s6_7, y8_l0⟩ hE K6 hK6
  try dsimp only at hE
  cases n6 with
  | zero => cases hE
  | succ n6 =>
    rw [Z61_l6] at hE
    refine seqK fun K9 hK9 => ?_
    refine seqK fun K10 hK10 => ?_
    refine region ?_
    refine s0 moveA rfl ?_
    refine s0 moveA rfl ?_
    refine sLen (f := TInput.c) (s := a0) (TK rfl) rfl rfl rfl rfl fun hL11 => ?_
    refine s0 (binI rfl rfl rfl) rfl ?_
    refine nil ?_
    refine hK10 _ ?_
    clear hK10 K10
    refine condE hE rfl (fun hc12 hE => ?_) (fun hc12 hE => ?_)
    ·try dsimp only at hc12
     have hf12 := of_decide_eq_true hc12
     refine AWp.skip ?_
     refine hK9 _ ?_
     clear hK9 K9
     refine seqK fun K13 hK13 => ?_
     refine block ?_
     refine seqK fun K14 hK14 => ?_
     refine region ?_
     refine s0 moveA rfl ?_
     refine s0 moveA rfl ?_
     obtain ⟨x15, gx15, hE⟩ := bindO_some hE
     refine s0 (idxMn (f := TInput.c) (n := s6_7) (TK rfl) rfl (TK rfl) rfl rfl rfl gx15) rfl ?_
     refine s0 (fieldVA (TK rfl) rfl rfl (TK rfl) rfl rfl) rfl ?_
     refine s0 (loadV (TK rfl) rfl rfl rfl) rfl ?_
     refine s0 moveA rfl ?_
     refine s0 (binS rfl rfl rfl) rfl ?_
     refine nil ?_
     refine hK14 _ ?_
     clear hK14 K14
     refine condE hE rfl (fun hc16 hE => ?_) (fun hc16 hE => ?_)
     ·refine seqK fun K17 hK17 => ?_
      refine region ?_
      refine s0 moveA rfl ?_
      refine s0 moveA rfl ?_
      obtain ⟨x18, gx18, hE⟩ := bindO_some hE
      refine s0 (idxMn (f := TInput.c) (n := s6_7) (TK rfl) rfl (TK rfl) rfl rfl rfl gx18) rfl ?_
      refine s0 (loadV (TK rfl) rfl rfl rfl) rfl ?_
      refine sLn (storeLFA (TK rfl) rfl rfl rfl rfl rfl) ?_
      refine s0 assignA rfl ?_
      refine nil ?_
      refine hK17 _ ?_
      clear hK17 K17
      refine AWp.ret ?_
      repeat (first | refine xBlock_ret ?_ | refine xThen_ret ?_)
      obtain rfl := Option.some.inj hE
      refine retQ.retF H rfl ⟨rfl, rfl⟩ ?_
      exact (fun _ _ h => h)
     refine AWp.skip ?_
     refine hK13 _ ?_
     clear hK13 K13
     refine region ?_
     refine s0 moveA rfl ?_
     refine s0 (addIA rfl rfl) rfl ?_
     refine s0 assignA rfl ?_
     refine nil ?_
     exact hK6 _ (n6, (s6_7 + 1), y8_l0) Weak.toA hE (Nat.lt_succ_self _)
    refine AWp.exit ?_
    exact hK2 _ y8_l0 Weak.toA hE
 rintro y3_l0 hE
 try dsimp only at hE
 unfold Z61_j2 at hE
 refine seqK fun K4 hK4 => ?_
 refine region ?_
 refine s0 (build Tryz.tab_ok rfl rfl rfl rfl rfl rfl) rfl ?_
 refine sLn (storeLFA (TK rfl) rfl rfl rfl rfl rfl) ?_
 refine s0 assignA rfl ?_
 refine nil ?_
 refine hK4 _ ?_
 clear hK4 K4
 refine AWp.ret ?_
 repeat (first | refine xBlock_ret ?_ | refine xThen_ret ?_)
 obtain rfl := Option.some.inj hE
 refine retQ.retF H rfl ⟨rfl, rfl⟩ ?_
 exact (fun _ _ h => h)
def Z74_j2   : Option Bool := some false
def Z74_l5 (a0 : (Sl TArg)) (a1 : Bs)  : Nat → Nat → Option Bool
 | 0, _ => none
 | n5 + 1, s5_6 => bif (decide (((s5_6 : Nat) : Int) < ((a0.l.length : Nat) : Int))) then ((a0.l[s5_6]?).bind fun x13 => bif ((x13.FName == a1)) then (some true) else ((Z74_l5 a0 a1 n5) (s5_6 + 1))) else (Z74_j2   )
def Z74 (a0 : (Sl TArg)) (a1 : Bs) : Option Bool := Z74_l5 a0 a1 (a0.l.length + 1) 0
theorem Z74_walk {a0 : (Sl TArg)} {a1 : Bs} {w0 : Option Nat}  {r : Bool} (hE : Z74 a0 a1 = some r) (H : Heap)  : ACalls Tryz.prog 126 [.d (Sl.d 6 TArg.c w0 a0), .d (.str a1)] H fun v h' => v = .a (.d (.bool r)) ∧ h' = H := by
 unfold Z74 at hE
 refine ACalls.of_wp (fn := Tryz.f126) (c := _) Tryz.tab_ok (fun _ _ => Tryz.call126 _ _) Tryz.func126 rfl (n := 19) rfl (rs := [.tmp 4]) rfl rfl ?_
 refine seqK fun K1 hK1 => ?_
 refine region ?_
 refine s0 assignA rfl ?_
 refine nil ?_
 refine hK1 _ ?_
 clear hK1 K1
 refine seqJH KeepsT.nil (fun (z : Unit) => []) (fun z => H) (fun z => Z74_j2  = some r) ?_ ?_
 ·intro K2 hK2
  refine seqK fun K4 hK4 => ?_
  refine region ?_
  refine s0 assignA rfl ?_
  refine nil ?_
  refine hK4 _ ?_
  clear hK4 K4
  refine block ?_
  refine loopH (KeepsT.A (k := 0) (KeepsT.A (k := 1) KeepsT.nil)) (fun (z : Nat × Nat) => [(5, .a (.d (.int .i64 ((z.2 : Nat) : Int))))]) (fun z => H) (fun z => z.1) (fun z => Z74_l5 a0 a1 z.1 z.2 = some r) ((a0.l.length + 1), 0) hE Weak.toA ?_
  rintro ⟨n5, s5_6⟩ hE K5 hK5
  try dsimp only at hE
  cases n5 with
  | zero => cases hE
  | succ n5 =>
    rw [Z74_l5] at hE
    refine seqK fun K7 hK7 => ?_
    refine seqK fun K8 hK8 => ?_
    refine region ?_
    refine s0 moveA rfl ?_
    refine s0 moveA rfl ?_
    refine sLen (f := TArg.c) (s := a0) (TK rfl) rfl rfl rfl rfl fun hL9 => ?_
    refine s0 (binI rfl rfl rfl) rfl ?_
    refine nil ?_
    refine hK8 _ ?_
    clear hK8 K8
    refine condE hE rfl (fun hc10 hE => ?_) (fun hc10 hE => ?_)
    ·try dsimp only at hc10
     have hf10 := of_decide_eq_true hc10
     refine AWp.skip ?_
     refine hK7 _ ?_
     clear hK7 K7
     refine seqK fun K11 hK11 => ?_
     refine block ?_
     refine seqK fun K12 hK12 => ?_
     refine region ?_
     refine s0 moveA rfl ?_
     refine s0 moveA rfl ?_
     obtain ⟨x13, gx13, hE⟩ := bindO_some hE
     refine s0 (idxMn (f := TArg.c) (n := s5_6) (TK rfl) rfl (TK rfl) rfl rfl rfl gx13) rfl ?_
     refine s0 (fieldVA (TK rfl) rfl rfl (TK rfl) rfl rfl) rfl ?_
     refine s0 (loadV (TK rfl) rfl rfl rfl) rfl ?_
     refine s0 moveA rfl ?_
     refine s0 (binS rfl rfl rfl) rfl ?_
     refine nil ?_
     refine hK12 _ ?_
     clear hK12 K12
     refine condE hE rfl (fun hc14 hE => ?_) (fun hc14 hE => ?_)
     ·refine seqK fun K15 hK15 => ?_
      refine region ?_
      refine s0 assignA rfl ?_
      refine nil ?_
      refine hK15 _ ?_
      clear hK15 K15
      refine AWp.ret ?_
      repeat (first | refine xBlock_ret ?_ | refine xThen_ret ?_)
      obtain rfl := Option.some.inj hE
      refine retQ.retF H rfl ⟨rfl, rfl⟩ ?_
      exact (fun _ _ h => h)
     refine AWp.skip ?_
     refine hK11 _ ?_
     clear hK11 K11
     refine region ?_
     refine s0 moveA rfl ?_
     refine s0 (addIA rfl rfl) rfl ?_
     refine s0 assignA rfl ?_
     refine nil ?_
     exact hK5 _ (n5, (s5_6 + 1)) Weak.toA hE (Nat.lt_succ_self _)
    refine AWp.exit ?_
    exact hK2 _ () Weak.toA hE
 rintro _ hE
 try dsimp only at hE
 unfold Z74_j2 at hE
 refine seqK fun K3 hK3 => ?_
 refine region ?_
 refine s0 assignA rfl ?_
 refine nil ?_
 refine hK3 _ ?_
 clear hK3 K3
 refine AWp.ret ?_
 repeat (first | refine xBlock_ret ?_ | refine xThen_ret ?_)
 obtain rfl := Option.some.inj hE
 refine retQ.retF H rfl ⟨rfl, rfl⟩ ?_
 exact (fun _ _ h => h)
def Z64 (a0 : TDoc) (a1 : Bs) : Option Bool := (Z60 a0 a1).bind fun x3 => (Z66 a1).bind fun x5 => some (x5 || (x3.2 && (decide (x3.1.FKind = (4 : Int)))))
theorem Z64_walk {a0 : TDoc} {a1 : Bs}   {r : Bool} (hE : Z64 a0 a1 = some r) (H : Heap)  : ACalls Tryz.prog 101 [.agg (TDoc.c a0), .d (.str a1)] H fun v h' => v = .a (.d (.bool r)) ∧ h' = H := by
 unfold Z64 at hE
 refine ACalls.of_wp (fn := Tryz.f101) (c := _) Tryz.tab_ok (fun _ _ => Tryz.call101 _ _) Tryz.func101 rfl (n := 23) rfl (rs := [.tmp 4]) rfl rfl ?_
 refine seqK fun K1 hK1 => ?_
 refine region ?_
 refine s0 (boxV rfl) rfl ?_
 refine s0 assignA rfl ?_
 refine nil ?_
 refine hK1 _ ?_
 clear hK1 K1
 refine seqK fun K2 hK2 => ?_
 refine region ?_
 refine s0 (loadV (TK rfl) rfl rfl rfl) rfl ?_
 refine s0 moveA rfl ?_
 obtain ⟨x3, gx3, hE⟩ := bindO_some hE
 refine s0 (callP rfl rfl (fun H => Z60_walk gx3 H)) rfl ?_
 refine s0 moveA rfl ?_
 refine s0 (extract rfl rfl) rfl ?_
 refine s0 (extract rfl rfl) rfl ?_
 refine sL (allocLA (TK rfl) rfl) rfl ?_
 refine sLn (storeLFA (TK rfl) rfl rfl rfl rfl rfl) ?_
 refine s0 assignA rfl ?_
 refine nil ?_
 refine hK2 _ ?_
 clear hK2 K2
 refine freezeA 5 _ rfl (Keeps.c (k := 1) (by conv => lhs; whnf) (by rfl) (Keeps.c (k := 6) (by conv => lhs; whnf) (by rfl) Keeps.nil)) ?_
 refine seqK fun K4 hK4 => ?_
 refine region ?_
 refine s0 moveA rfl ?_
 obtain ⟨x5, gx5, hE⟩ := bindO_some hE
 refine s0 (callP rfl rfl (fun H => Z66_walk gx5 H)) rfl ?_
 refine s0 moveA rfl ?_
 refine gC rfl rfl (fun hC => moveA) rfl ?_
 refine gC rfl rfl (fun hC => ungdA (k := 16) rfl moveA) rfl ?_
 refine gC rfl rfl (fun hC => fieldVA (TK rfl) rfl rfl (TK rfl) rfl rfl) rfl ?_
 refine gC rfl rfl (fun hC => ungdA (k := 18) rfl (loadV (TK rfl) rfl rfl rfl)) rfl ?_
 refine gC rfl rfl (fun hC => ungdA (k := 19) rfl (binI rfl rfl rfl)) rfl ?_
 refine gC rfl rfl (fun hC => ungdA (k := 17) rfl (pickAndA rfl rfl rfl)) rfl ?_
 refine s0 (pickOrA rfl rfl rfl) rfl ?_
 refine s0 assignA rfl ?_
 refine nil ?_
 refine hK4 _ ?_
 clear hK4 K4
 refine AWp.ret ?_
 repeat (first | refine xBlock_ret ?_ | refine xThen_ret ?_)
 obtain rfl := Option.some.inj hE
 refine retQ.retF H rfl ⟨rfl, rfl⟩ ?_
 exact (fun _ _ h => h)
end Go.Proofs

namespace Go.Proofs
open Go Go.Ab
open AOps Cert AWp
def Z62 (a0 : TDoc) (a1 : Bs) : Option Bool := (Z60 a0 a1).bind fun x3 => (Z64 a0 a1).bind fun x5 => some (x5 || (x3.2 && (decide (x3.1.FKind = (5 : Int)))))
theorem Z62_walk {a0 : TDoc} {a1 : Bs}   {r : Bool} (hE : Z62 a0 a1 = some r) (H : Heap)  : ACalls Tryz.prog 143 [.agg (TDoc.c a0), .d (.str a1)] H fun v h' => v = .a (.d (.bool r)) ∧ h' = H := by
 unfold Z62 at hE
 refine ACalls.of_wp (fn := Tryz.f143) (c := _) Tryz.tab_ok (fun _ _ => Tryz.call143 _ _) Tryz.func143 rfl (n := 24) rfl (rs := [.tmp 4]) rfl rfl ?_
 refine seqK fun K1 hK1 => ?_
 refine region ?_
 refine s0 (boxV rfl) rfl ?_
 refine s0 assignA rfl ?_
 refine nil ?_
 refine hK1 _ ?_
 clear hK1 K1
 refine seqK fun K2 hK2 => ?_
 refine region ?_
 refine s0 (loadV (TK rfl) rfl rfl rfl) rfl ?_
 refine s0 moveA rfl ?_
 obtain ⟨x3, gx3, hE⟩ := bindO_some hE
 refine s0 (callP rfl rfl (fun H => Z60_walk gx3 H)) rfl ?_
 refine s0 moveA rfl ?_
 refine s0 (extract rfl rfl) rfl ?_
 refine s0 (extract rfl rfl) rfl ?_
 refine sL (allocLA (TK rfl) rfl) rfl ?_
 refine sLn (storeLFA (TK rfl) rfl rfl rfl rfl rfl) ?_
 refine s0 assignA rfl ?_
 refine nil ?_
 refine hK2 _ ?_
 clear hK2 K2
 refine freezeA 5 _ rfl (Keeps.c (k := 1) (by conv => lhs; whnf) (by rfl) (Keeps.c (k := 2) (by conv => lhs; whnf) (by rfl) (Keeps.c (k := 6) (by conv => lhs; whnf) (by rfl) Keeps.nil))) ?_
 refine seqK fun K4 hK4 => ?_
 refine region ?_
 refine s0 (loadV (TK rfl) rfl rfl rfl) rfl ?_
 refine s0 moveA rfl ?_
 obtain ⟨x5, gx5, hE⟩ := bindO_some hE
 refine s0 (callP rfl rfl (fun H => Z64_walk gx5 H)) rfl ?_
 refine s0 moveA rfl ?_
 refine gC rfl rfl (fun hC => moveA) rfl ?_
 refine gC rfl rfl (fun hC => ungdA (k := 17) rfl moveA) rfl ?_
 refine gC rfl rfl (fun hC => fieldVA (TK rfl) rfl rfl (TK rfl) rfl rfl) rfl ?_
 refine gC rfl rfl (fun hC => ungdA (k := 19) rfl (loadV (TK rfl) rfl rfl rfl)) rfl ?_
 refine gC rfl rfl (fun hC => ungdA (k := 20) rfl (binI rfl rfl rfl)) rfl ?_
 refine gC rfl rfl (fun hC => ungdA (k := 18) rfl (pickAndA rfl rfl rfl)) rfl ?_
 refine s0 (pickOrA rfl rfl rfl) rfl ?_
 refine s0 assignA rfl ?_
 refine nil ?_
 refine hK4 _ ?_
 clear hK4 K4
 refine AWp.ret ?_
 repeat (first | refine xBlock_ret ?_ | refine xThen_ret ?_)
 obtain rfl := Option.some.inj hE
 refine retQ.retF H rfl ⟨rfl, rfl⟩ ?_
 exact (fun _ _ h => h)
def Z37 (a0 : TRef) : Option TRef := (partC a0.FWraps (some (1 : Int)) none).bind fun x3 => (appC 8 (⟨false, []⟩ : Sl Int) x3).bind fun x4 => some (TRef.mk a0.FName x4)
theorem Z37_walk {a0 : TRef}   {r : TRef} (hE : Z37 a0 = some r) (H : Heap)  : ACalls Tryz.prog 146 [.agg (TRef.c a0)] H fun v h' => v = .a (.agg (TRef.c r)) ∧ h' = H := by
 unfold Z37 at hE
 refine ACalls.of_wp (fn := Tryz.f146) (c := _) Tryz.tab_ok (fun _ _ => Tryz.call146 _ _) Tryz.func146 rfl (n := 11) rfl (rs := [.cell 2 55]) rfl rfl ?_
 refine seqK fun K1 hK1 => ?_
 refine region ?_
 refine s0 (boxV rfl) rfl ?_
 refine sL (allocLA (TK rfl) rfl) rfl ?_
 refine nil ?_
 refine hK1 _ ?_
 clear hK1 K1
 refine seqK fun K2 hK2 => ?_
 refine AWp.draw rfl ?_
 refine DOps.s0 (fieldVA (TK rfl) rfl rfl (TK rfl) rfl rfl) rfl ?_
 refine DOps.s0 (loadV (TK rfl) rfl rfl rfl) rfl ?_
 refine DOps.s0 (buildSliceF (TK rfl) rfl (TK rfl) rfl rfl rfl rfl rfl rfl) rfl ?_
 refine DOps.s0 (fieldVA (TK rfl) rfl rfl (TK rfl) rfl rfl) rfl ?_
 refine DOps.s0 (loadV (TK rfl) rfl rfl rfl) rfl ?_
 obtain ⟨x3, gx3, hE⟩ := bindO_some hE
 refine DOps.s0 (partM (f := (intE .i64)) (l := (some (1 : Int))) (r := none) (TK rfl) rfl (TK rfl) rfl rfl rfl trivial gx3) rfl ?_
 obtain ⟨x4, gx4, hE⟩ := bindO_some hE
 refine DOps.s0 (appFM (f := (intE .i64)) (TK rfl) rfl (TK rfl) (TK rfl) ⟨_, rfl⟩ rfl rfl (by decide) rfl rfl rfl (by intro q h; cases h <;> decide) rfl rfl gx4) rfl ?_
 refine DOps.s0 (build Tryz.tab_ok rfl rfl rfl rfl rfl rfl) rfl ?_
 refine DOps.sLn (storeLFA (TK rfl) rfl rfl rfl rfl rfl) ?_
 refine DOps.nil (by decide +kernel) ?_
 refine hK2 _ ?_
 clear hK2 K2
 refine AWp.ret ?_
 repeat (first | refine xBlock_ret ?_ | refine xThen_ret ?_)
 obtain rfl := Option.some.inj hE
 refine retQ.retF H rfl ⟨rfl, rfl⟩ ?_
 exact (fun _ _ h => h)
def Z34 (a0 : TRef) : Option TRef := (Z31 a0).bind fun x4 => bif x4 then ((Z37 a0).bind fun x7 => some x7) else ((appC 8 (⟨false, []⟩ : Sl Int) a0.FWraps).bind fun x9 => some (TRef.mk a0.FName x9))
theorem Z34_walk {a0 : TRef}   {r : TRef} (hE : Z34 a0 = some r) (H : Heap)  : ACalls Tryz.prog 129 [.agg (TRef.c a0)] H fun v h' => v = .a (.agg (TRef.c r)) ∧ h' = H := by
 unfold Z34 at hE
 refine ACalls.of_wp (fn := Tryz.f129) (c := _) Tryz.tab_ok (fun _ _ => Tryz.call129 _ _) Tryz.func129 rfl (n := 14) rfl (rs := [.cell 2 55]) rfl rfl ?_
 refine seqK fun K1 hK1 => ?_
 refine region ?_
 refine s0 (boxV rfl) rfl ?_
 refine sL (allocLA (TK rfl) rfl) rfl ?_
 refine nil ?_
 refine hK1 _ ?_
 clear hK1 K1
 refine seqK fun K2 hK2 => ?_
 refine seqK fun K3 hK3 => ?_
 refine region ?_
 refine s0 (loadV (TK rfl) rfl rfl rfl) rfl ?_
 obtain ⟨x4, gx4, hE⟩ := bindO_some hE
 refine s0 (callP rfl rfl (fun H => Z31_walk gx4 H)) rfl ?_
 refine nil ?_
 refine hK3 _ ?_
 clear hK3 K3
 refine condE hE rfl (fun hc5 hE => ?_) (fun hc5 hE => ?_)
 ·refine seqK fun K6 hK6 => ?_
  refine region ?_
  refine s0 (loadV (TK rfl) rfl rfl rfl) rfl ?_
  obtain ⟨x7, gx7, hE⟩ := bindO_some hE
  refine s0 (callP rfl rfl (fun H => Z37_walk gx7 H)) rfl ?_
  refine sLn (storeLFA (TK rfl) rfl rfl rfl rfl rfl) ?_
  refine nil ?_
  refine hK6 _ ?_
  clear hK6 K6
  refine AWp.ret ?_
  repeat (first | refine xBlock_ret ?_ | refine xThen_ret ?_)
  obtain rfl := Option.some.inj hE
  refine retQ.retF H rfl ⟨rfl, rfl⟩ ?_
  exact (fun _ _ h => h)
 refine AWp.skip ?_
 refine hK2 _ ?_
 clear hK2 K2
 refine seqK fun K8 hK8 => ?_
 refine AWp.draw rfl ?_
 refine DOps.s0 (fieldVA (TK rfl) rfl rfl (TK rfl) rfl rfl) rfl ?_
 refine DOps.s0 (loadV (TK rfl) rfl rfl rfl) rfl ?_
 refine DOps.s0 (buildSliceF (TK rfl) rfl (TK rfl) rfl rfl rfl rfl rfl rfl) rfl ?_
 refine DOps.s0 (fieldVA (TK rfl) rfl rfl (TK rfl) rfl rfl) rfl ?_
 refine DOps.s0 (loadV (TK rfl) rfl rfl rfl) rfl ?_
 obtain ⟨x9, gx9, hE⟩ := bindO_some hE
 refine DOps.s0 (appFM (f := (intE .i64)) (TK rfl) rfl (TK rfl) (TK rfl) ⟨_, rfl⟩ rfl rfl (by decide) rfl rfl rfl (by intro q h; cases h <;> decide) rfl rfl gx9) rfl ?_
 refine DOps.s0 (build Tryz.tab_ok rfl rfl rfl rfl rfl rfl) rfl ?_
 refine DOps.sLn (storeLFA (TK rfl) rfl rfl rfl rfl rfl) ?_
 refine DOps.nil (by decide +kernel) ?_
 refine hK8 _ ?_
 clear hK8 K8
 refine AWp.ret ?_
 repeat (first | refine xBlock_ret ?_ | refine xThen_ret ?_)
 obtain rfl := Option.some.inj hE
 refine retQ.retF H rfl ⟨rfl, rfl⟩ ?_
 exact (fun _ _ h => h)
def Z30 (a0 : TRef) : Option Bool := (Z34 a0).bind fun x3 => guardO ((decide ((0 : Int) < ((x3.FWraps.l.length : Nat) : Int)))) (x3.FWraps.l[0]?) (0 : Int) fun x6 => some ((decide ((0 : Int) < ((x3.FWraps.l.length : Nat) : Int))) && (decide (x6 = (2 : Int))))
theorem Z30_walk {a0 : TRef}   {r : Bool} (hE : Z30 a0 = some r) (H : Heap)  : ACalls Tryz.prog 103 [.agg (TRef.c a0)] H fun v h' => v = .a (.d (.bool r)) ∧ h' = H := by
 unfold Z30 at hE
 refine ACalls.of_wp (fn := Tryz.f103) (c := _) Tryz.tab_ok (fun _ _ => Tryz.call103 _ _) Tryz.func103 rfl (n := 17) rfl (rs := [.tmp 2]) rfl rfl ?_
 refine seqK fun K1 hK1 => ?_
 refine region ?_
 refine s0 (boxV rfl) rfl ?_
 refine s0 assignA rfl ?_
 refine nil ?_
 refine hK1 _ ?_
 clear hK1 K1
 refine seqK fun K2 hK2 => ?_
 refine region ?_
 refine s0 (loadV (TK rfl) rfl rfl rfl) rfl ?_
 obtain ⟨x3, gx3, hE⟩ := bindO_some hE
 refine s0 (callP rfl rfl (fun H => Z34_walk gx3 H)) rfl ?_
 refine sL (allocLA (TK rfl) rfl) rfl ?_
 refine sLn (storeLFA (TK rfl) rfl rfl rfl rfl rfl) ?_
 refine nil ?_
 refine hK2 _ ?_
 clear hK2 K2
 refine freezeA 3 _ rfl Keeps.nil ?_
 refine seqK fun K4 hK4 => ?_
 refine region ?_
 refine s0 (fieldVA (TK rfl) rfl rfl (TK rfl) rfl rfl) rfl ?_
 refine s0 (loadV (TK rfl) rfl rfl rfl) rfl ?_
 refine sLen (f := (intE .i64)) (s := x3.FWraps) (TK rfl) rfl rfl rfl rfl fun hL5 => ?_
 refine s0 (binI rfl rfl rfl) rfl ?_
 refine s0 moveA rfl ?_
 refine gC rfl rfl (fun hC => fieldVA (TK rfl) rfl rfl (TK rfl) rfl rfl) rfl ?_
 refine gC rfl rfl (fun hC => ungdA (k := 11) rfl (loadV (TK rfl) rfl rfl rfl)) rfl ?_
 obtain ⟨x6, gx6, hE⟩ := guardO_some hE
 refine gC rfl rfl (fun hC => ungdA (k := 12) rfl (idxMn (f := (intE .i64)) (n := 0) (TK rfl) rfl (TK rfl) rfl rfl rfl (gx6 hC))) rfl ?_
 refine gC rfl rfl (fun hC => ungdA (k := 13) rfl (loadV (TK rfl) rfl rfl rfl)) rfl ?_
 refine gC rfl rfl (fun hC => ungdA (k := 14) rfl (binI rfl rfl rfl)) rfl ?_
 refine s0 (pickAndA rfl rfl rfl) rfl ?_
 refine s0 assignA rfl ?_
 refine nil ?_
 refine hK4 _ ?_
 clear hK4 K4
 refine AWp.ret ?_
 repeat (first | refine xBlock_ret ?_ | refine xThen_ret ?_)
 obtain rfl := Option.some.inj hE
 refine retQ.retF H rfl ⟨rfl, rfl⟩ ?_
 exact (fun _ _ h => h)
def Z29 (a0 : TRef) : Option (TRef × Bool) := (Z30 a0).bind fun x4 => bif (!x4) then (some ((TRef.mk ([] : Bs) (Sl.nil : Sl Int)), false)) else ((Z34 a0).bind fun x8 => (Z37 x8).bind fun x9 => some (x9, true))
theorem Z29_walk {a0 : TRef}   {r : (TRef × Bool)} (hE : Z29 a0 = some r) (H : Heap)  : ACalls Tryz.prog 144 [.agg (TRef.c a0)] H fun v h' => v = .tup [.agg (TRef.c r.1), .d (.bool r.2)] ∧ h' = H := by
 unfold Z29 at hE
 refine ACalls.of_wp (fn := Tryz.f144) (c := _) Tryz.tab_ok (fun _ _ => Tryz.call144 _ _) Tryz.func144 rfl (n := 11) rfl (rs := [.cell 2 55, .tmp 3]) rfl rfl ?_
 refine seqK fun K1 hK1 => ?_
 refine region ?_
 refine s0 (boxV rfl) rfl ?_
 refine sL (allocLA (TK rfl) rfl) rfl ?_
 refine s0 assignA rfl ?_
 refine nil ?_
 refine hK1 _ ?_
 clear hK1 K1
 refine seqK fun K2 hK2 => ?_
 refine seqK fun K3 hK3 => ?_
 refine region ?_
 refine s0 (loadV (TK rfl) rfl rfl rfl) rfl ?_
 obtain ⟨x4, gx4, hE⟩ := bindO_some hE
 refine s0 (callP rfl rfl (fun H => Z30_walk gx4 H)) rfl ?_
 refine s0 (notB rfl) rfl ?_
 refine nil ?_
 refine hK3 _ ?_
 clear hK3 K3
 refine condE hE rfl (fun hc5 hE => ?_) (fun hc5 hE => ?_)
 ·refine seqK fun K6 hK6 => ?_
  refine region ?_
  refine s0 (build Tryz.tab_ok rfl rfl rfl rfl rfl rfl) rfl ?_
  refine sLn (storeLFA (TK rfl) rfl rfl rfl rfl rfl) ?_
  refine s0 assignA rfl ?_
  refine nil ?_
  refine hK6 _ ?_
  clear hK6 K6
  refine AWp.ret ?_
  repeat (first | refine xBlock_ret ?_ | refine xThen_ret ?_)
  obtain rfl := Option.some.inj hE
  refine retQ.retF H rfl ⟨rfl, rfl⟩ ?_
  exact (fun _ _ h => h)
 refine AWp.skip ?_
 refine hK2 _ ?_
 clear hK2 K2
 refine seqK fun K7 hK7 => ?_
 refine region ?_
 refine s0 (loadV (TK rfl) rfl rfl rfl) rfl ?_
 obtain ⟨x8, gx8, hE⟩ := bindO_some hE
 refine s0 (callP rfl rfl (fun H => Z34_walk gx8 H)) rfl ?_
 obtain ⟨x9, gx9, hE⟩ := bindO_some hE
 refine s0 (callP rfl rfl (fun H => Z37_walk gx9 H)) rfl ?_
 refine sLn (storeLFA (TK rfl) rfl rfl rfl rfl rfl) ?_
 refine s0 assignA rfl ?_
 refine nil ?_
 refine hK7 _ ?_
 clear hK7 K7
 refine AWp.ret ?_
 repeat (first | refine xBlock_ret ?_ | refine xThen_ret ?_)
 obtain rfl := Option.some.inj hE
 refine retQ.retF H rfl ⟨rfl, rfl⟩ ?_
 exact (fun _ _ h => h)
end Go.Proofs

namespace Go.Proofs
open Go Go.Ab
open AOps Cert AWp
def r14_Fits_j28   : Option Bool := some true
def r14_Fits_l31 (a0 : TDoc) (a2 : TValue) (x17 : (TRef × Bool)) (k_rec_127 : TDoc → TRef → TValue → Option Bool) : Nat → Nat → Option Bool
 | 0, _ => none
 | n31 + 1, s9_32 => bif (decide (((s9_32 : Nat) : Int) < ((a2.FItems.l.length : Nat) : Int))) then ((a2.FItems.l[s9_32]?).bind fun x39 => (k_rec_127 a0 x17.1 x39).bind fun x40 => bif (!x40) then (some false) else ((r14_Fits_l31 a0 a2 x17 k_rec_127 n31) (s9_32 + 1))) else (r14_Fits_j28   )
def r14_named_j23   : Option Bool := some false
def r14_named_l26 (a2 : TValue) (x17 : (TDef × Bool))  : Nat → Nat → Option Bool
 | 0, _ => none
 | n26 + 1, s9_27 => bif (decide (((s9_27 : Nat) : Int) < ((x17.1.FMembers.l.length : Nat) : Int))) then (guardO ((decide (a2.FKind = (4 : Int)))) (x17.1.FMembers.l[s9_27]?) TMember.zero fun x34 => bif ((decide (a2.FKind = (4 : Int))) && ((x34.FName == a2.FText))) then (some true) else ((r14_named_l26 a2 x17 n26) (s9_27 + 1))) else (r14_named_j23   )
def Z78_j7   : Option Bool := some true
def Z78_j16 (s10_11 : Nat) (k_next_10 : Nat → Option Bool)  : Option Bool := k_next_10 (s10_11 + 1)
def Z78_j18 (a1 : TDef) (s10_11 : Nat) (k_next_10 : Nat → Option Bool) (s11_19 : Bool) : Option Bool := guardO ((!s11_19)) (a1.FInputs.l[s10_11]?) TInput.zero fun x21 => guardO (((!s11_19) && (!x21.FHas))) (a1.FInputs.l[s10_11]?) TInput.zero fun x22 => guardO (((!s11_19) && (!x21.FHas))) (Z31 x22.FType) false fun x23 => bif (((!s11_19) && (!x21.FHas)) && x23) then (some false) else (Z78_j16 s10_11 k_next_10 )
def Z78_l27 (a1 : TDef) (a2 : TValue) (s10_11 : Nat) (k_next_10 : Nat → Option Bool) : Nat → Bool → Nat → Option Bool
 | 0, _, _ => none
 | n27 + 1, s11_28, s12_29 => bif (decide (((s12_29 : Nat) : Int) < ((a2.FKeys.l.length : Nat) : Int))) then (guardO (!s11_28) (a2.FKeys.l[s12_29]?) ([] : Bs) fun x35 => guardO (!s11_28) (a1.FInputs.l[s10_11]?) TInput.zero fun x36 => (Z78_l27 a1 a2 s10_11 k_next_10 n27) (s11_28 || ((x35 == x36.FName))) (s12_29 + 1)) else (Z78_j18 a1 s10_11 k_next_10 s11_28)
def Z78_l10 (a1 : TDef) (a2 : TValue)  : Nat → Nat → Option Bool
 | 0, _ => none
 | n10 + 1, s10_11 => bif (decide (((s10_11 : Nat) : Int) < ((a1.FInputs.l.length : Nat) : Int))) then (Z78_l27 a1 a2 s10_11 ((Z78_l10 a1 a2 n10)) (a2.FKeys.l.length + 1) false 0) else (Z78_j7   )
def Z78_j6 (a1 : TDef) (a2 : TValue)   : Option Bool := Z78_l10 a1 a2 (a1.FInputs.l.length + 1) 0
def Z78_l38 (a0 : TDoc) (a1 : TDef) (a2 : TValue) (k_rec_127 : TDoc → TRef → TValue → Option Bool) : Nat → Nat → Option Bool
 | 0, _ => none
 | n38 + 1, s7_39 => bif ((decide (((s7_39 : Nat) : Int) < ((a2.FKeys.l.length : Nat) : Int))) && (decide (((s7_39 : Nat) : Int) < ((a2.FItems.l.length : Nat) : Int)))) then ((a2.FKeys.l[s7_39]?).bind fun x46 => (Z61 a1.FInputs x46).bind fun x47 => guardO (!(!x47.2)) (a2.FItems.l[s7_39]?) TValue.zero fun x49 => guardO (!(!x47.2)) (k_rec_127 a0 x47.1.FType x49) false fun x50 => bif ((!x47.2) || (!x50)) then (some false) else ((Z78_l38 a0 a1 a2 k_rec_127 n38) (s7_39 + 1))) else (Z78_j6 a1 a2  )
mutual
def r14_Fits_n : Nat → TDoc → TRef → TValue → Option Bool
 | 0, _, _, _ => none
 | n + 1, a0, a1, a2 => bif (decide (a2.FKind = (7 : Int))) then (some true) else ((Z62 a0 a1.FName).bind fun x8 => bif (!x8) then (some false) else (bif (decide (a2.FKind = (0 : Int))) then ((Z31 a1).bind fun x15 => some (!x15)) else ((Z29 a1).bind fun x17 => bif (!x17.2) then (((r14_named_n n) a0 a1.FName a2).bind fun x22 => some x22) else (bif (!decide (a2.FKind = (5 : Int))) then (((r14_Fits_n n) a0 x17.1 a2).bind fun x27 => some x27) else (r14_Fits_l31 a0 a2 x17 (r14_Fits_n n) (a2.FItems.l.length + 1) 0)))))
def r14_named_n : Nat → TDoc → Bs → TValue → Option Bool
 | 0, _, _, _ => none
 | n + 1, a0, a1, a2 => bif ((a1 == ([73, 110, 116] : Bs))) then (some (((decide (a2.FKind = (2 : Int))) && (decide ((-2147483648 : Int) ≤ a2.FInt))) && (decide (a2.FInt < (2147483648 : Int))))) else (bif ((a1 == ([83, 116, 114, 105, 110, 103] : Bs))) then (some (decide (a2.FKind = (3 : Int)))) else (bif ((a1 == ([66, 111, 111, 108, 101, 97, 110] : Bs))) then (some (decide (a2.FKind = (1 : Int)))) else (bif ((a1 == ([73, 68] : Bs))) then (some ((decide (a2.FKind = (3 : Int))) || (decide (a2.FKind = (2 : Int))))) else ((Z60 a0 a1).bind fun x17 => bif (decide (x17.1.FKind = (5 : Int))) then (((Z78_n n) a0 x17.1 a2).bind fun x22 => some x22) else (r14_named_l26 a2 x17 (x17.1.FMembers.l.length + 1) 0)))))
def Z78_n : Nat → TDoc → TDef → TValue → Option Bool
 | 0, _, _, _ => none
 | n + 1, a0, a1, a2 => bif (!decide (a2.FKind = (6 : Int))) then (some false) else (Z78_l38 a0 a1 a2 (r14_Fits_n n) (a2.FKeys.l.length + 1) 0)
end
theorem r14_Fits_step (n : Nat) (ih_127 : ∀ {a0 : TDoc} {a1 : TRef} {a2 : TValue}   {r : Bool}, r14_Fits_n n a0 a1 a2 = some r → ∀ (H : Heap), ACalls Tryz.prog 127 [.agg (TDoc.c a0), .agg (TRef.c a1), .agg (TValue.c a2)] H fun v h' => v = .a (.d (.bool r)) ∧ h' = H) (ih_145 : ∀ {a0 : TDoc} {a1 : Bs} {a2 : TValue}   {r : Bool}, r14_named_n n a0 a1 a2 = some r → ∀ (H : Heap), ACalls Tryz.prog 145 [.agg (TDoc.c a0), .d (.str a1), .agg (TValue.c a2)] H fun v h' => v = .a (.d (.bool r)) ∧ h' = H) (ih_153 : ∀ {a0 : TDoc} {a1 : TDef} {a2 : TValue}   {r : Bool}, Z78_n n a0 a1 a2 = some r → ∀ (H : Heap), ACalls Tryz.prog 153 [.agg (TDoc.c a0), .agg (TDef.c a1), .agg (TValue.c a2)] H fun v h' => v = .a (.d (.bool r)) ∧ h' = H) : ∀ {a0 : TDoc} {a1 : TRef} {a2 : TValue}   {r : Bool}, r14_Fits_n (n + 1) a0 a1 a2 = some r → ∀ (H : Heap), ACalls Tryz.prog 127 [.agg (TDoc.c a0), .agg (TRef.c a1), .agg (TValue.c a2)] H fun v h' => v = .a (.d (.bool r)) ∧ h' = H := by
 intro a0 a1 a2   r hE H 
 rw [r14_Fits_n] at hE
 refine ACalls.of_wp (fn := Tryz.f127) (c := _) Tryz.tab_ok (fun _ _ => Tryz.call127 _ _) Tryz.func127 rfl (n := 59) rfl (rs := [.tmp 6]) rfl rfl ?_
 refine seqK fun K1 hK1 => ?_
 refine region ?_
 refine s0 (boxV rfl) rfl ?_
 refine s0 (boxV rfl) rfl ?_
 refine s0 (boxV rfl) rfl ?_
 refine s0 assignA rfl ?_
 refine nil ?_
 refine hK1 _ ?_
 clear hK1 K1
 refine seqK fun K2 hK2 => ?_
 refine seqK fun K3 hK3 => ?_
 refine region ?_
 refine s0 (fieldVA (TK rfl) rfl rfl (TK rfl) rfl rfl) rfl ?_
 refine s0 (loadV (TK rfl) rfl rfl rfl) rfl ?_
 refine s0 (binI rfl rfl rfl) rfl ?_
 refine nil ?_
 refine hK3 _ ?_
 clear hK3 K3
 refine condE hE rfl (fun hc4 hE => ?_) (fun hc4 hE => ?_)
 ·refine seqK fun K5 hK5 => ?_
  refine region ?_
  refine s0 assignA rfl ?_
  refine nil ?_
  refine hK5 _ ?_
  clear hK5 K5
  refine AWp.ret ?_
  repeat (first | refine xBlock_ret ?_ | refine xThen_ret ?_)
  obtain rfl := Option.some.inj hE
  refine retQ.retF H rfl ⟨rfl, rfl⟩ ?_
  exact (fun _ _ h => h)
 refine AWp.skip ?_
 refine hK2 _ ?_
 clear hK2 K2
 refine seqK fun K6 hK6 => ?_
 refine seqK fun K7 hK7 => ?_
 refine region ?_
 refine s0 (loadV (TK rfl) rfl rfl rfl) rfl ?_
 refine s0 (fieldVA (TK rfl) rfl rfl (TK rfl) rfl rfl) rfl ?_
 refine s0 (loadV (TK rfl) rfl rfl rfl) rfl ?_
 obtain ⟨x8, gx8, hE⟩ := bindO_some hE
 refine s0 (callP rfl rfl (fun H => Z62_walk gx8 H)) rfl ?_
 refine s0 (notB rfl) rfl ?_
 refine nil ?_
 refine hK7 _ ?_
 clear hK7 K7
 refine condE hE rfl (fun hc9 hE => ?_) (fun hc9 hE => ?_)
 ·refine seqK fun K10 hK10 => ?_
  refine region ?_
  refine s0 assignA rfl ?_
  refine nil ?_
  refine hK10 _ ?_
  clear hK10 K10
  refine AWp.ret ?_
  repeat (first | refine xBlock_ret ?_ | refine xThen_ret ?_)
  obtain rfl := Option.some.inj hE
  refine retQ.retF H rfl ⟨rfl, rfl⟩ ?_
  exact (fun _ _ h => h)
 refine AWp.skip ?_
 refine hK6 _ ?_
 clear hK6 K6
 refine seqK fun K11 hK11 => ?_
 refine seqK fun K12 hK12 => ?_
 refine region ?_
 refine s0 (fieldVA (TK rfl) rfl rfl (TK rfl) rfl rfl) rfl ?_
 refine s0 (loadV (TK rfl) rfl rfl rfl) rfl ?_
 refine s0 (binI rfl rfl rfl) rfl ?_
 refine nil ?_
 refine hK12 _ ?_
 clear hK12 K12
 refine condE hE rfl (fun hc13 hE => ?_) (fun hc13 hE => ?_)
 ·refine seqK fun K14 hK14 => ?_
  refine region ?_
  refine s0 (loadV (TK rfl) rfl rfl rfl) rfl ?_
  obtain ⟨x15, gx15, hE⟩ := bindO_some hE
  refine s0 (callP rfl rfl (fun H => Z31_walk gx15 H)) rfl ?_
  refine s0 (notB rfl) rfl ?_
  refine s0 assignA rfl ?_
  refine nil ?_
  refine hK14 _ ?_
  clear hK14 K14
  refine AWp.ret ?_
  repeat (first | refine xBlock_ret ?_ | refine xThen_ret ?_)
  obtain rfl := Option.some.inj hE
  refine retQ.retF H rfl ⟨rfl, rfl⟩ ?_
  exact (fun _ _ h => h)
 refine AWp.skip ?_
 refine hK11 _ ?_
 clear hK11 K11
 refine seqK fun K16 hK16 => ?_
 refine region ?_
 refine s0 (loadV (TK rfl) rfl rfl rfl) rfl ?_
 obtain ⟨x17, gx17, hE⟩ := bindO_some hE
 refine s0 (callP rfl rfl (fun H => Z29_walk gx17 H)) rfl ?_
 refine s0 moveA rfl ?_
 refine s0 (extract rfl rfl) rfl ?_
 refine s0 (extract rfl rfl) rfl ?_
 refine sL (allocLA (TK rfl) rfl) rfl ?_
 refine sLn (storeLFA (TK rfl) rfl rfl rfl rfl rfl) ?_
 refine s0 assignA rfl ?_
 refine nil ?_
 refine hK16 _ ?_
 clear hK16 K16
 refine freezeA 7 _ rfl (Keeps.c (k := 3) (by conv => lhs; whnf) (by rfl) (Keeps.c (k := 4) (by conv => lhs; whnf) (by rfl) (Keeps.c (k := 5) (by conv => lhs; whnf) (by rfl) (Keeps.c (k := 8) (by conv => lhs; whnf) (by rfl) Keeps.nil)))) ?_
 refine seqK fun K18 hK18 => ?_
 refine seqK fun K19 hK19 => ?_
 refine region ?_
 refine s0 moveA rfl ?_
 refine s0 (notB rfl) rfl ?_
 refine nil ?_
 refine hK19 _ ?_
 clear hK19 K19
 refine condE hE rfl (fun hc20 hE => ?_) (fun hc20 hE => ?_)
 ·refine seqK fun K21 hK21 => ?_
  refine region ?_
  refine s0 (loadV (TK rfl) rfl rfl rfl) rfl ?_
  refine s0 (fieldVA (TK rfl) rfl rfl (TK rfl) rfl rfl) rfl ?_
  refine s0 (loadV (TK rfl) rfl rfl rfl) rfl ?_
  refine s0 (loadV (TK rfl) rfl rfl rfl) rfl ?_
  obtain ⟨x22, gx22, hE⟩ := bindO_some hE
  refine s0 (callP rfl rfl (fun H => ih_145 gx22 H)) rfl ?_
  refine s0 assignA rfl ?_
  refine nil ?_
  refine hK21 _ ?_
  clear hK21 K21
  refine AWp.ret ?_
  repeat (first | refine xBlock_ret ?_ | refine xThen_ret ?_)
  obtain rfl := Option.some.inj hE
  refine retQ.retF H rfl ⟨rfl, rfl⟩ ?_
  exact (fun _ _ h => h)
 refine AWp.skip ?_
 refine hK18 _ ?_
 clear hK18 K18
 refine seqK fun K23 hK23 => ?_
 refine seqK fun K24 hK24 => ?_
 refine region ?_
 refine s0 (fieldVA (TK rfl) rfl rfl (TK rfl) rfl rfl) rfl ?_
 refine s0 (loadV (TK rfl) rfl rfl rfl) rfl ?_
 refine s0 (binI rfl rfl rfl) rfl ?_
 refine nil ?_
 refine hK24 _ ?_
 clear hK24 K24
 refine condE hE rfl (fun hc25 hE => ?_) (fun hc25 hE => ?_)
 ·refine seqK fun K26 hK26 => ?_
  refine region ?_
  refine s0 (loadV (TK rfl) rfl rfl rfl) rfl ?_
  refine s0 (loadV (TK rfl) rfl rfl rfl) rfl ?_
  refine s0 (loadV (TK rfl) rfl rfl rfl) rfl ?_
  obtain ⟨x27, gx27, hE⟩ := bindO_some hE
  refine s0 (callP rfl rfl (fun H => ih_127 gx27 H)) rfl ?_
  refine s0 assignA rfl ?_
  refine nil ?_
  refine hK26 _ ?_
  clear hK26 K26
  refine AWp.ret ?_
  repeat (first | refine xBlock_ret ?_ | refine xThen_ret ?_)
  obtain rfl := Option.some.inj hE
  refine retQ.retF H rfl ⟨rfl, rfl⟩ ?_
  exact (fun _ _ h => h)
 refine AWp.skip ?_
 refine hK23 _ ?_
 clear hK23 K23
 refine seqJH KeepsT.nil (fun (z : Unit) => []) (fun z => H) (fun z => r14_Fits_j28  = some r) ?_ ?_
 ·intro K28 hK28
  refine seqK fun K30 hK30 => ?_
  refine region ?_
  refine s0 assignA rfl ?_
  refine nil ?_
  refine hK30 _ ?_
  clear hK30 K30
  refine block ?_
  refine loopH (KeepsT.A (k := 3) (KeepsT.A (k := 5) (KeepsT.A (k := 7) KeepsT.nil))) (fun (z : Nat × Nat) => [(9, .a (.d (.int .i64 ((z.2 : Nat) : Int))))]) (fun z => H) (fun z => z.1) (fun z => r14_Fits_l31 a0 a2 x17 (r14_Fits_n n) z.1 z.2 = some r) ((a2.FItems.l.length + 1), 0) hE Weak.toA ?_
  rintro ⟨n31, s9_32⟩ hE K31 hK31
  try dsimp only at hE
  cases n31 with
  | zero => cases hE
  | succ n31 =>
    rw [r14_Fits_l31] at hE
    refine seqK fun K33 hK33 => ?_
    refine seqK fun K34 hK34 => ?_
    refine region ?_
    refine s0 moveA rfl ?_
    refine s0 (fieldVA (TK rfl) rfl rfl (TK rfl) rfl rfl) rfl ?_
    refine s0 (loadV (TK rfl) rfl rfl (congrArg (fun x => some (A.d x)) (TValue.FItemsD_eq _))) rfl ?_
    refine sLen (f := TValue.c) (s := a2.FItems) (TK rfl) rfl rfl rfl rfl fun hL35 => ?_
    refine s0 (binI rfl rfl rfl) rfl ?_
    refine nil ?_
    refine hK34 _ ?_
    clear hK34 K34
    refine condE hE rfl (fun hc36 hE => ?_) (fun hc36 hE => ?_)
    ·try dsimp only at hc36
     have hf36 := of_decide_eq_true hc36
     refine AWp.skip ?_
     refine hK33 _ ?_
     clear hK33 K33
     refine seqK fun K37 hK37 => ?_
     refine block ?_
     refine seqK fun K38 hK38 => ?_
     refine AWp.draw rfl ?_
     refine DOps.s0 (loadV (TK rfl) rfl rfl rfl) rfl ?_
     refine DOps.s0 (loadV (TK rfl) rfl rfl rfl) rfl ?_
     refine DOps.s0 (fieldVA (TK rfl) rfl rfl (TK rfl) rfl rfl) rfl ?_
     refine DOps.s0 (loadV (TK rfl) rfl rfl (congrArg (fun x => some (A.d x)) (TValue.FItemsD_eq _))) rfl ?_
     refine DOps.s0 moveA rfl ?_
     obtain ⟨x39, gx39, hE⟩ := bindO_some hE
     refine DOps.s0 (idxMn (f := TValue.c) (n := s9_32) (TK rfl) rfl (TK rfl) rfl rfl rfl gx39) rfl ?_
     refine DOps.s0 (loadV (TK rfl) rfl rfl rfl) rfl ?_
     obtain ⟨x40, gx40, hE⟩ := bindO_some hE
     refine DOps.s0 (callP rfl rfl (fun H => ih_127 gx40 H)) rfl ?_
     refine DOps.s0 (notB rfl) rfl ?_
     refine DOps.nil (by decide +kernel) ?_
     refine hK38 _ ?_
     clear hK38 K38
     refine condE hE rfl (fun hc41 hE => ?_) (fun hc41 hE => ?_)
     ·refine seqK fun K42 hK42 => ?_
      refine region ?_
      refine s0 assignA rfl ?_
      refine nil ?_
      refine hK42 _ ?_
      clear hK42 K42
      refine AWp.ret ?_
      repeat (first | refine xBlock_ret ?_ | refine xThen_ret ?_)
      obtain rfl := Option.some.inj hE
      refine retQ.retF H rfl ⟨rfl, rfl⟩ ?_
      exact (fun _ _ h => h)
     refine AWp.skip ?_
     refine hK37 _ ?_
     clear hK37 K37
     refine region ?_
     refine s0 moveA rfl ?_
     refine s0 (addIA rfl rfl) rfl ?_
     refine s0 assignA rfl ?_
     refine nil ?_
     exact hK31 _ (n31, (s9_32 + 1)) Weak.toA hE (Nat.lt_succ_self _)
    refine AWp.exit ?_
    exact hK28 _ () Weak.toA hE
 rintro _ hE
 try dsimp only at hE
 unfold r14_Fits_j28 at hE
 refine seqK fun K29 hK29 => ?_
 refine region ?_
 refine s0 assignA rfl ?_
 refine nil ?_
 refine hK29 _ ?_
 clear hK29 K29
 refine AWp.ret ?_
 repeat (first | refine xBlock_ret ?_ | refine xThen_ret ?_)
 obtain rfl := Option.some.inj hE
 refine retQ.retF H rfl ⟨rfl, rfl⟩ ?_
 exact (fun _ _ h => h)
theorem r14_named_step (n : Nat) (ih_127 : ∀ {a0 : TDoc} {a1 : TRef} {a2 : TValue}   {r : Bool}, r14_Fits_n n a0 a1 a2 = some r → ∀ (H : Heap), ACalls Tryz.prog 127 [.agg (TDoc.c a0), .agg (TRef.c a1), .agg (TValue.c a2)] H fun v h' => v = .a (.d (.bool r)) ∧ h' = H) (ih_145 : ∀ {a0 : TDoc} {a1 : Bs} {a2 : TValue}   {r : Bool}, r14_named_n n a0 a1 a2 = some r → ∀ (H : Heap), ACalls Tryz.prog 145 [.agg (TDoc.c a0), .d (.str a1), .agg (TValue.c a2)] H fun v h' => v = .a (.d (.bool r)) ∧ h' = H) (ih_153 : ∀ {a0 : TDoc} {a1 : TDef} {a2 : TValue}   {r : Bool}, Z78_n n a0 a1 a2 = some r → ∀ (H : Heap), ACalls Tryz.prog 153 [.agg (TDoc.c a0), .agg (TDef.c a1), .agg (TValue.c a2)] H fun v h' => v = .a (.d (.bool r)) ∧ h' = H) : ∀ {a0 : TDoc} {a1 : Bs} {a2 : TValue}   {r : Bool}, r14_named_n (n + 1) a0 a1 a2 = some r → ∀ (H : Heap), ACalls Tryz.prog 145 [.agg (TDoc.c a0), .d (.str a1), .agg (TValue.c a2)] H fun v h' => v = .a (.d (.bool r)) ∧ h' = H := by
 intro a0 a1 a2   r hE H 
 rw [r14_named_n] at hE
 refine ACalls.of_wp (fn := Tryz.f145) (c := _) Tryz.tab_ok (fun _ _ => Tryz.call145 _ _) Tryz.func145 rfl (n := 80) rfl (rs := [.tmp 6]) rfl rfl ?_
 refine seqK fun K1 hK1 => ?_
 refine region ?_
 refine s0 (boxV rfl) rfl ?_
 refine s0 (boxV rfl) rfl ?_
 refine s0 assignA rfl ?_
 refine nil ?_
 refine hK1 _ ?_
 clear hK1 K1
 refine seqK fun K2 hK2 => ?_
 refine seqK fun K3 hK3 => ?_
 refine region ?_
 refine s0 moveA rfl ?_
 refine nil ?_
 refine hK3 _ ?_
 clear hK3 K3
 refine block ?_
 refine seqK fun K4 hK4 => ?_
 refine region ?_
 refine s0 (binS rfl rfl rfl) rfl ?_
 refine s0 assignA rfl ?_
 refine nil ?_
 refine hK4 _ ?_
 clear hK4 K4
 refine condE hE rfl (fun hc5 hE => ?_) (fun hc5 hE => ?_)
 ·refine seqK fun K6 hK6 => ?_
  refine region ?_
  refine s0 (fieldVA (TK rfl) rfl rfl (TK rfl) rfl rfl) rfl ?_
  refine s0 (loadV (TK rfl) rfl rfl rfl) rfl ?_
  refine s0 (binI rfl rfl rfl) rfl ?_
  refine s0 moveA rfl ?_
  refine gC rfl rfl (fun hC => fieldVA (TK rfl) rfl rfl (TK rfl) rfl rfl) rfl ?_
  refine gC rfl rfl (fun hC => ungdA (k := 17) rfl (loadV (TK rfl) rfl rfl rfl)) rfl ?_
  refine gC rfl rfl (fun hC => ungdA (k := 18) rfl (binI rfl rfl rfl)) rfl ?_
  refine s0 (pickAndA rfl rfl rfl) rfl ?_
  refine s0 moveA rfl ?_
  refine gC rfl rfl (fun hC => fieldVA (TK rfl) rfl rfl (TK rfl) rfl rfl) rfl ?_
  refine gC rfl rfl (fun hC => ungdA (k := 22) rfl (loadV (TK rfl) rfl rfl rfl)) rfl ?_
  refine gC rfl rfl (fun hC => ungdA (k := 23) rfl (binI rfl rfl rfl)) rfl ?_
  refine s0 (pickAndA rfl rfl rfl) rfl ?_
  refine s0 assignA rfl ?_
  refine nil ?_
  refine hK6 _ ?_
  clear hK6 K6
  refine AWp.ret ?_
  repeat (first | refine xBlock_ret ?_ | refine xThen_ret ?_)
  obtain rfl := Option.some.inj hE
  refine retQ.retF H rfl ⟨rfl, rfl⟩ ?_
  exact (fun _ _ h => h)
 refine seqK fun K7 hK7 => ?_
 refine region ?_
 refine s0 (binS rfl rfl rfl) rfl ?_
 refine s0 assignA rfl ?_
 refine nil ?_
 refine hK7 _ ?_
 clear hK7 K7
 refine condE hE rfl (fun hc8 hE => ?_) (fun hc8 hE => ?_)
 ·refine seqK fun K9 hK9 => ?_
  refine region ?_
  refine s0 (fieldVA (TK rfl) rfl rfl (TK rfl) rfl rfl) rfl ?_
  refine s0 (loadV (TK rfl) rfl rfl rfl) rfl ?_
  refine s0 (binI rfl rfl rfl) rfl ?_
  refine s0 assignA rfl ?_
  refine nil ?_
  refine hK9 _ ?_
  clear hK9 K9
  refine AWp.ret ?_
  repeat (first | refine xBlock_ret ?_ | refine xThen_ret ?_)
  obtain rfl := Option.some.inj hE
  refine retQ.retF H rfl ⟨rfl, rfl⟩ ?_
  exact (fun _ _ h => h)
 refine seqK fun K10 hK10 => ?_
 refine region ?_
 refine s0 (binS rfl rfl rfl) rfl ?_
 refine s0 assignA rfl ?_
 refine nil ?_
 refine hK10 _ ?_
 clear hK10 K10
 refine condE hE rfl (fun hc11 hE => ?_) (fun hc11 hE => ?_)
 ·refine seqK fun K12 hK12 => ?_
  refine region ?_
  refine s0 (fieldVA (TK rfl) rfl rfl (TK rfl) rfl rfl) rfl ?_
  refine s0 (loadV (TK rfl) rfl rfl rfl) rfl ?_
  refine s0 (binI rfl rfl rfl) rfl ?_
  refine s0 assignA rfl ?_
  refine nil ?_
  refine hK12 _ ?_
  clear hK12 K12
  refine AWp.ret ?_
  repeat (first | refine xBlock_ret ?_ | refine xThen_ret ?_)
  obtain rfl := Option.some.inj hE
  refine retQ.retF H rfl ⟨rfl, rfl⟩ ?_
  exact (fun _ _ h => h)
 refine seqK fun K13 hK13 => ?_
 refine region ?_
 refine s0 (binS rfl rfl rfl) rfl ?_
 refine s0 assignA rfl ?_
 refine nil ?_
 refine hK13 _ ?_
 clear hK13 K13
 refine condE hE rfl (fun hc14 hE => ?_) (fun hc14 hE => ?_)
 ·refine seqK fun K15 hK15 => ?_
  refine region ?_
  refine s0 (fieldVA (TK rfl) rfl rfl (TK rfl) rfl rfl) rfl ?_
  refine s0 (loadV (TK rfl) rfl rfl rfl) rfl ?_
  refine s0 (binI rfl rfl rfl) rfl ?_
  refine s0 moveA rfl ?_
  refine gC rfl rfl (fun hC => fieldVA (TK rfl) rfl rfl (TK rfl) rfl rfl) rfl ?_
  refine gC rfl rfl (fun hC => ungdA (k := 42) rfl (loadV (TK rfl) rfl rfl rfl)) rfl ?_
  refine gC rfl rfl (fun hC => ungdA (k := 43) rfl (binI rfl rfl rfl)) rfl ?_
  refine s0 (pickOrA rfl rfl rfl) rfl ?_
  refine s0 assignA rfl ?_
  refine nil ?_
  refine hK15 _ ?_
  clear hK15 K15
  refine AWp.ret ?_
  repeat (first | refine xBlock_ret ?_ | refine xThen_ret ?_)
  obtain rfl := Option.some.inj hE
  refine retQ.retF H rfl ⟨rfl, rfl⟩ ?_
  exact (fun _ _ h => h)
 refine AWp.skip ?_
 refine hK2 _ ?_
 clear hK2 K2
 refine seqK fun K16 hK16 => ?_
 refine region ?_
 refine s0 (loadV (TK rfl) rfl rfl rfl) rfl ?_
 refine s0 moveA rfl ?_
 obtain ⟨x17, gx17, hE⟩ := bindO_some hE
 refine s0 (callP rfl rfl (fun H => Z60_walk gx17 H)) rfl ?_
 refine s0 moveA rfl ?_
 refine s0 (extract rfl rfl) rfl ?_
 refine s0 (extract rfl rfl) rfl ?_
 refine sL (allocLA (TK rfl) rfl) rfl ?_
 refine sLn (storeLFA (TK rfl) rfl rfl rfl rfl rfl) ?_
 refine s0 assignA rfl ?_
 refine nil ?_
 refine hK16 _ ?_
 clear hK16 K16
 refine freezeA 7 _ rfl (Keeps.c (k := 3) (by conv => lhs; whnf) (by rfl) (Keeps.c (k := 5) (by conv => lhs; whnf) (by rfl) Keeps.nil)) ?_
 refine seqK fun K18 hK18 => ?_
 refine seqK fun K19 hK19 => ?_
 refine region ?_
 refine s0 (fieldVA (TK rfl) rfl rfl (TK rfl) rfl rfl) rfl ?_
 refine s0 (loadV (TK rfl) rfl rfl rfl) rfl ?_
 refine s0 (binI rfl rfl rfl) rfl ?_
 refine nil ?_
 refine hK19 _ ?_
 clear hK19 K19
 refine condE hE rfl (fun hc20 hE => ?_) (fun hc20 hE => ?_)
 ·refine seqK fun K21 hK21 => ?_
  refine region ?_
  refine s0 (loadV (TK rfl) rfl rfl rfl) rfl ?_
  refine s0 (loadV (TK rfl) rfl rfl rfl) rfl ?_
  refine s0 (loadV (TK rfl) rfl rfl rfl) rfl ?_
  obtain ⟨x22, gx22, hE⟩ := bindO_some hE
  refine s0 (callP rfl rfl (fun H => ih_153 gx22 H)) rfl ?_
  refine s0 assignA rfl ?_
  refine nil ?_
  refine hK21 _ ?_
  clear hK21 K21
  refine AWp.ret ?_
  repeat (first | refine xBlock_ret ?_ | refine xThen_ret ?_)
  obtain rfl := Option.some.inj hE
  refine retQ.retF H rfl ⟨rfl, rfl⟩ ?_
  exact (fun _ _ h => h)
 refine AWp.skip ?_
 refine hK18 _ ?_
 clear hK18 K18
 refine seqJH KeepsT.nil (fun (z : Unit) => []) (fun z => H) (fun z => r14_named_j23  = some r) ?_ ?_
 ·intro K23 hK23
  refine seqK fun K25 hK25 => ?_
  refine region ?_
  refine s0 assignA rfl ?_
  refine nil ?_
  refine hK25 _ ?_
  clear hK25 K25
  refine block ?_
  refine loopH (KeepsT.A (k := 5) (KeepsT.A (k := 7) KeepsT.nil)) (fun (z : Nat × Nat) => [(9, .a (.d (.int .i64 ((z.2 : Nat) : Int))))]) (fun z => H) (fun z => z.1) (fun z => r14_named_l26 a2 x17 z.1 z.2 = some r) ((x17.1.FMembers.l.length + 1), 0) hE Weak.toA ?_
  rintro ⟨n26, s9_27⟩ hE K26 hK26
  try dsimp only at hE
  cases n26 with
  | zero => cases hE
  | succ n26 =>
    rw [r14_named_l26] at hE
    refine seqK fun K28 hK28 => ?_
    refine seqK fun K29 hK29 => ?_
    refine region ?_
    refine s0 moveA rfl ?_
    refine s0 (fieldVA (TK rfl) rfl rfl (TK rfl) rfl rfl) rfl ?_
    refine s0 (loadV (TK rfl) rfl rfl rfl) rfl ?_
    refine sLen (f := TMember.c) (s := x17.1.FMembers) (TK rfl) rfl rfl rfl rfl fun hL30 => ?_
    refine s0 (binI rfl rfl rfl) rfl ?_
    refine nil ?_
    refine hK29 _ ?_
    clear hK29 K29
    refine condE hE rfl (fun hc31 hE => ?_) (fun hc31 hE => ?_)
    ·try dsimp only at hc31
     have hf31 := of_decide_eq_true hc31
     refine AWp.skip ?_
     refine hK28 _ ?_
     clear hK28 K28
     refine seqK fun K32 hK32 => ?_
     refine block ?_
     refine seqK fun K33 hK33 => ?_
     refine AWp.draw rfl ?_
     refine DOps.s0 (fieldVA (TK rfl) rfl rfl (TK rfl) rfl rfl) rfl ?_
     refine DOps.s0 (loadV (TK rfl) rfl rfl rfl) rfl ?_
     refine DOps.s0 (binI rfl rfl rfl) rfl ?_
     refine DOps.s0 moveA rfl ?_
     refine DOps.gC rfl rfl (fun hC => fieldVA (TK rfl) rfl rfl (TK rfl) rfl rfl) rfl ?_
     refine DOps.gC rfl rfl (fun hC => ungdA (k := 70) rfl (loadV (TK rfl) rfl rfl rfl)) rfl ?_
     refine DOps.gC rfl rfl (fun hC => moveA) rfl ?_
     obtain ⟨x34, gx34, hE⟩ := guardO_some hE
     refine DOps.gC rfl rfl (fun hC => ungdA (k := 71) rfl (ungdA (k := 72) rfl (idxMn (f := TMember.c) (n := s9_27) (TK rfl) rfl (TK rfl) rfl rfl rfl (gx34 hC)))) rfl ?_
     refine DOps.gC rfl rfl (fun hC => ungdA (k := 73) rfl (fieldVA (TK rfl) rfl rfl (TK rfl) rfl rfl)) rfl ?_
     refine DOps.gC rfl rfl (fun hC => ungdA (k := 74) rfl (loadV (TK rfl) rfl rfl rfl)) rfl ?_
     refine DOps.gC rfl rfl (fun hC => fieldVA (TK rfl) rfl rfl (TK rfl) rfl rfl) rfl ?_
     refine DOps.gC rfl rfl (fun hC => ungdA (k := 76) rfl (loadV (TK rfl) rfl rfl rfl)) rfl ?_
     refine DOps.gC rfl rfl (fun hC => ungdA (k := 75) rfl (ungdA (k := 77) rfl (binS rfl rfl rfl))) rfl ?_
     refine DOps.s0 (pickAndA rfl rfl rfl) rfl ?_
     refine DOps.nil (by decide +kernel) ?_
     refine hK33 _ ?_
     clear hK33 K33
     refine condE hE rfl (fun hc35 hE => ?_) (fun hc35 hE => ?_)
     ·refine seqK fun K36 hK36 => ?_
      refine region ?_
      refine s0 assignA rfl ?_
      refine nil ?_
      refine hK36 _ ?_
      clear hK36 K36
      refine AWp.ret ?_
      repeat (first | refine xBlock_ret ?_ | refine xThen_ret ?_)
      obtain rfl := Option.some.inj hE
      refine retQ.retF H rfl ⟨rfl, rfl⟩ ?_
      exact (fun _ _ h => h)
     refine AWp.skip ?_
     refine hK32 _ ?_
     clear hK32 K32
     refine region ?_
     refine s0 moveA rfl ?_
     refine s0 (addIA rfl rfl) rfl ?_
     refine s0 assignA rfl ?_
     refine nil ?_
     exact hK26 _ (n26, (s9_27 + 1)) Weak.toA hE (Nat.lt_succ_self _)
    refine AWp.exit ?_
    exact hK23 _ () Weak.toA hE
 rintro _ hE
 try dsimp only at hE
 unfold r14_named_j23 at hE
 refine seqK fun K24 hK24 => ?_
 refine region ?_
 refine s0 assignA rfl ?_
 refine nil ?_
 refine hK24 _ ?_
 clear hK24 K24
 refine AWp.ret ?_
 repeat (first | refine xBlock_ret ?_ | refine xThen_ret ?_)
 obtain rfl := Option.some.inj hE
 refine retQ.retF H rfl ⟨rfl, rfl⟩ ?_
 exact (fun _ _ h => h)
theorem Z78_step (n : Nat) (ih_127 : ∀ {a0 : TDoc} {a1 : TRef} {a2 : TValue}   {r : Bool}, r14_Fits_n n a0 a1 a2 = some r → ∀ (H : Heap), ACalls Tryz.prog 127 [.agg (TDoc.c a0), .agg (TRef.c a1), .agg (TValue.c a2)] H fun v h' => v = .a (.d (.bool r)) ∧ h' = H) (ih_145 : ∀ {a0 : TDoc} {a1 : Bs} {a2 : TValue}   {r : Bool}, r14_named_n n a0 a1 a2 = some r → ∀ (H : Heap), ACalls Tryz.prog 145 [.agg (TDoc.c a0), .d (.str a1), .agg (TValue.c a2)] H fun v h' => v = .a (.d (.bool r)) ∧ h' = H) (ih_153 : ∀ {a0 : TDoc} {a1 : TDef} {a2 : TValue}   {r : Bool}, Z78_n n a0 a1 a2 = some r → ∀ (H : Heap), ACalls Tryz.prog 153 [.agg (TDoc.c a0), .agg (TDef.c a1), .agg (TValue.c a2)] H fun v h' => v = .a (.d (.bool r)) ∧ h' = H) : ∀ {a0 : TDoc} {a1 : TDef} {a2 : TValue}   {r : Bool}, Z78_n (n + 1) a0 a1 a2 = some r → ∀ (H : Heap), ACalls Tryz.prog 153 [.agg (TDoc.c a0), .agg (TDef.c a1), .agg (TValue.c a2)] H fun v h' => v = .a (.d (.bool r)) ∧ h' = H := by
 intro a0 a1 a2   r hE H 
 rw [Z78_n] at hE
 refine ACalls.of_wp (fn := Tryz.f153) (c := _) Tryz.tab_ok (fun _ _ => Tryz.call153 _ _) Tryz.func153 rfl (n := 104) rfl (rs := [.tmp 6]) rfl rfl ?_
 refine seqK fun K1 hK1 => ?_
 refine region ?_
 refine s0 (boxV rfl) rfl ?_
 refine s0 (boxV rfl) rfl ?_
 refine s0 (boxV rfl) rfl ?_
 refine s0 assignA rfl ?_
 refine nil ?_
 refine hK1 _ ?_
 clear hK1 K1
 refine seqK fun K2 hK2 => ?_
 refine seqK fun K3 hK3 => ?_
 refine region ?_
 refine s0 (fieldVA (TK rfl) rfl rfl (TK rfl) rfl rfl) rfl ?_
 refine s0 (loadV (TK rfl) rfl rfl rfl) rfl ?_
 refine s0 (binI rfl rfl rfl) rfl ?_
 refine nil ?_
 refine hK3 _ ?_
 clear hK3 K3
 refine condE hE rfl (fun hc4 hE => ?_) (fun hc4 hE => ?_)
 ·refine seqK fun K5 hK5 => ?_
  refine region ?_
  refine s0 assignA rfl ?_
  refine nil ?_
  refine hK5 _ ?_
  clear hK5 K5
  refine AWp.ret ?_
  repeat (first | refine xBlock_ret ?_ | refine xThen_ret ?_)
  obtain rfl := Option.some.inj hE
  refine retQ.retF H rfl ⟨rfl, rfl⟩ ?_
  exact (fun _ _ h => h)
 refine AWp.skip ?_
 refine hK2 _ ?_
 clear hK2 K2
 refine seqJH (KeepsT.A (k := 4) (KeepsT.A (k := 5) KeepsT.nil)) (fun (z : Unit) => []) (fun z => H) (fun z => Z78_j6 a1 a2  = some r) ?_ ?_
 ·intro K6 hK6
  refine seqK fun K37 hK37 => ?_
  refine region ?_
  refine s0 assignA rfl ?_
  refine nil ?_
  refine hK37 _ ?_
  clear hK37 K37
  refine block ?_
  refine loopH (KeepsT.A (k := 3) (KeepsT.A (k := 4) (KeepsT.A (k := 5) KeepsT.nil))) (fun (z : Nat × Nat) => [(7, .a (.d (.int .i64 ((z.2 : Nat) : Int))))]) (fun z => H) (fun z => z.1) (fun z => Z78_l38 a0 a1 a2 (r14_Fits_n n) z.1 z.2 = some r) ((a2.FKeys.l.length + 1), 0) hE Weak.toA ?_
  rintro ⟨n38, s7_39⟩ hE K38 hK38
  try dsimp only at hE
  cases n38 with
  | zero => cases hE
  | succ n38 =>
    rw [Z78_l38] at hE
    refine seqK fun K40 hK40 => ?_
    refine seqK fun K41 hK41 => ?_
    refine region ?_
    refine s0 moveA rfl ?_
    refine s0 (fieldVA (TK rfl) rfl rfl (TK rfl) rfl rfl) rfl ?_
    refine s0 (loadV (TK rfl) rfl rfl rfl) rfl ?_
    refine sLen (f := strE) (s := a2.FKeys) (TK rfl) rfl rfl rfl rfl fun hL42 => ?_
    refine s0 (binI rfl rfl rfl) rfl ?_
    refine s0 moveA rfl ?_
    refine gC rfl rfl (fun hC => moveA) rfl ?_
    refine gC rfl rfl (fun hC => fieldVA (TK rfl) rfl rfl (TK rfl) rfl rfl) rfl ?_
    refine gC rfl rfl (fun hC => ungdA (k := 23) rfl (loadV (TK rfl) rfl rfl (congrArg (fun x => some (A.d x)) (TValue.FItemsD_eq _)))) rfl ?_
    refine gC rfl rfl (fun hC => ungdA (k := 24) rfl (lenM' (f := TValue.c) (s := a2.FItems) (TK rfl) rfl rfl rfl)) rfl ?_
    refine gC rfl rfl (fun hC => ungdA (k := 22) rfl (ungdA (k := 25) rfl (binI rfl rfl rfl))) rfl ?_
    refine s0 (pickAndA rfl rfl rfl) rfl ?_
    refine nil ?_
    refine hK41 _ ?_
    clear hK41 K41
    refine condE hE rfl (fun hc43 hE => ?_) (fun hc43 hE => ?_)
    ·try dsimp only at hc43
     have hf43 := of_decide_eq_true (and_left hc43)
     refine AWp.skip ?_
     refine hK40 _ ?_
     clear hK40 K40
     refine seqK fun K44 hK44 => ?_
     refine block ?_
     refine seqK fun K45 hK45 => ?_
     refine AWp.draw rfl ?_
     refine DOps.s0 (fieldVA (TK rfl) rfl rfl (TK rfl) rfl rfl) rfl ?_
     refine DOps.s0 (loadV (TK rfl) rfl rfl rfl) rfl ?_
     refine DOps.s0 (fieldVA (TK rfl) rfl rfl (TK rfl) rfl rfl) rfl ?_
     refine DOps.s0 (loadV (TK rfl) rfl rfl rfl) rfl ?_
     refine DOps.s0 moveA rfl ?_
     obtain ⟨x46, gx46, hE⟩ := bindO_some hE
     refine DOps.s0 (idxMn (f := strE) (n := s7_39) (TK rfl) rfl (TK rfl) rfl rfl rfl gx46) rfl ?_
     refine DOps.s0 (loadV (TK rfl) rfl rfl rfl) rfl ?_
     obtain ⟨x47, gx47, hE⟩ := bindO_some hE
     refine DOps.s0 (callP rfl rfl (fun H => Z61_walk gx47 H)) rfl ?_
     refine DOps.s0 moveA rfl ?_
     refine DOps.s0 (extract rfl rfl) rfl ?_
     refine DOps.s0 (extract rfl rfl) rfl ?_
     refine DOps.sL (allocLA (TK rfl) rfl) rfl ?_
     refine DOps.sLn (storeLFA (TK rfl) rfl rfl rfl rfl rfl) ?_
     refine DOps.s0 assignA rfl ?_
     refine DOps.nil (by decide +kernel) ?_
     refine hK45 _ ?_
     clear hK45 K45
     refine freezeA 8 _ rfl (Keeps.c (k := 3) (by conv => lhs; whnf) (by rfl) (Keeps.c (k := 4) (by conv => lhs; whnf) (by rfl) (Keeps.c (k := 5) (by conv => lhs; whnf) (by rfl) (Keeps.c (k := 7) (by conv => lhs; whnf) (by rfl) (Keeps.c (k := 9) (by conv => lhs; whnf) (by rfl) Keeps.nil))))) ?_
     refine seqK fun K48 hK48 => ?_
     refine AWp.draw rfl ?_
     refine DOps.s0 moveA rfl ?_
     refine DOps.s0 (notB rfl) rfl ?_
     refine DOps.s0 moveA rfl ?_
     refine DOps.gC rfl rfl (fun hC => loadV (TK rfl) rfl rfl rfl) rfl ?_
     refine DOps.gC rfl rfl (fun hC => fieldVA (TK rfl) rfl rfl (TK rfl) rfl rfl) rfl ?_
     refine DOps.gC rfl rfl (fun hC => ungdA (k := 45) rfl (loadV (TK rfl) rfl rfl rfl)) rfl ?_
     refine DOps.gC rfl rfl (fun hC => fieldVA (TK rfl) rfl rfl (TK rfl) rfl rfl) rfl ?_
     refine DOps.gC rfl rfl (fun hC => ungdA (k := 47) rfl (loadV (TK rfl) rfl rfl (congrArg (fun x => some (A.d x)) (TValue.FItemsD_eq _)))) rfl ?_
     refine DOps.gC rfl rfl (fun hC => moveA) rfl ?_
     obtain ⟨x49, gx49, hE⟩ := guardO_some hE
     refine DOps.gC rfl rfl (fun hC => ungdA (k := 48) rfl (ungdA (k := 49) rfl (idxMn (f := TValue.c) (n := s7_39) (TK rfl) rfl (TK rfl) rfl rfl rfl (gx49 hC)))) rfl ?_
     refine DOps.gC rfl rfl (fun hC => ungdA (k := 50) rfl (loadV (TK rfl) rfl rfl rfl)) rfl ?_
     obtain ⟨x50, gx50, hE⟩ := guardO_some hE
     refine DOps.gC rfl rfl (fun hC => ungdA (k := 44) rfl (ungdA (k := 46) rfl (ungdA (k := 51) rfl (callP rfl rfl (fun H => ih_127 (gx50 hC) H))))) rfl ?_
     refine DOps.gC rfl rfl (fun hC => ungdA (k := 52) rfl (notB rfl)) rfl ?_
     refine DOps.s0 (pickOrA rfl rfl rfl) rfl ?_
     refine DOps.nil (by decide +kernel) ?_
     refine hK48 _ ?_
     clear hK48 K48
     refine condE hE rfl (fun hc51 hE => ?_) (fun hc51 hE => ?_)
     ·refine seqK fun K52 hK52 => ?_
      refine region ?_
      refine s0 assignA rfl ?_
      refine nil ?_
      refine hK52 _ ?_
      clear hK52 K52
      refine AWp.ret ?_
      repeat (first | refine xBlock_ret ?_ | refine xThen_ret ?_)
      obtain rfl := Option.some.inj hE
      refine retQ.retF H rfl ⟨rfl, rfl⟩ ?_
      exact (fun _ _ h => h)
     refine AWp.skip ?_
     refine hK44 _ ?_
     clear hK44 K44
     refine region ?_
     refine s0 moveA rfl ?_
     refine s0 (addIA rfl rfl) rfl ?_
     refine s0 assignA rfl ?_
     refine nil ?_
     exact hK38 _ (n38, (s7_39 + 1)) Weak.toA hE (Nat.lt_succ_self _)
    refine AWp.exit ?_
    exact hK6 _ () Weak.toA hE
 rintro _ hE
 try dsimp only at hE
 unfold Z78_j6 at hE
 refine seqJH KeepsT.nil (fun (z : Unit) => []) (fun z => H) (fun z => Z78_j7  = some r) ?_ ?_
 ·intro K7 hK7
  refine seqK fun K9 hK9 => ?_
  refine region ?_
  refine s0 assignA rfl ?_
  refine nil ?_
  refine hK9 _ ?_
  clear hK9 K9
  refine block ?_
  refine loopH (KeepsT.A (k := 4) (KeepsT.A (k := 5) KeepsT.nil)) (fun (z : Nat × Nat) => [(10, .a (.d (.int .i64 ((z.2 : Nat) : Int))))]) (fun z => H) (fun z => z.1) (fun z => Z78_l10 a1 a2 z.1 z.2 = some r) ((a1.FInputs.l.length + 1), 0) hE Weak.toA ?_
  rintro ⟨n10, s10_11⟩ hE K10 hK10
  try dsimp only at hE
  cases n10 with
  | zero => cases hE
  | succ n10 =>
    rw [Z78_l10] at hE
    refine seqK fun K12 hK12 => ?_
    refine seqK fun K13 hK13 => ?_
    refine region ?_
    refine s0 moveA rfl ?_
    refine s0 (fieldVA (TK rfl) rfl rfl (TK rfl) rfl rfl) rfl ?_
    refine s0 (loadV (TK rfl) rfl rfl rfl) rfl ?_
    refine sLen (f := TInput.c) (s := a1.FInputs) (TK rfl) rfl rfl rfl rfl fun hL14 => ?_
    refine s0 (binI rfl rfl rfl) rfl ?_
    refine nil ?_
    refine hK13 _ ?_
    clear hK13 K13
    refine condE hE rfl (fun hc15 hE => ?_) (fun hc15 hE => ?_)
    ·try dsimp only at hc15
     have hf15 := of_decide_eq_true hc15
     refine AWp.skip ?_
     refine hK12 _ ?_
     clear hK12 K12
     refine seqJH (KeepsT.A (k := 4) (KeepsT.A (k := 5) (KeepsT.A (k := 10) KeepsT.nil))) (fun (z : Unit) => []) (fun z => H) (fun z => Z78_j16 s10_11 ((Z78_l10 a1 a2 n10))  = some r) ?_ ?_
     ·intro K16 hK16
      refine block ?_
      refine seqK fun K17 hK17 => ?_
      refine region ?_
      refine s0 assignA rfl ?_
      refine nil ?_
      refine hK17 _ ?_
      clear hK17 K17
      refine seqJH (KeepsT.A (k := 4) (KeepsT.A (k := 5) (KeepsT.A (k := 10) KeepsT.nil))) (fun (z : Bool) => [(11, .a (.d (.bool z)))]) (fun z => H) (fun z => Z78_j18 a1 s10_11 ((Z78_l10 a1 a2 n10)) z = some r) ?_ ?_
      ·intro K18 hK18
       refine seqK fun K26 hK26 => ?_
       refine region ?_
       refine s0 assignA rfl ?_
       refine nil ?_
       refine hK26 _ ?_
       clear hK26 K26
       refine block ?_
       refine loopH (KeepsT.A (k := 4) (KeepsT.A (k := 5) (KeepsT.A (k := 10) KeepsT.nil))) (fun (z : Nat × Bool × Nat) => [(11, .a (.d (.bool z.2.1))), (12, .a (.d (.int .i64 ((z.2.2 : Nat) : Int))))]) (fun z => H) (fun z => z.1) (fun z => Z78_l27 a1 a2 s10_11 ((Z78_l10 a1 a2 n10)) z.1 z.2.1 z.2.2 = some r) ((a2.FKeys.l.length + 1), false, 0) hE Weak.toA ?_
       rintro ⟨n27, s11_28, s12_29⟩ hE K27 hK27
       try dsimp only at hE
       cases n27 with
       | zero => cases hE
       | succ n27 =>
         rw [Z78_l27] at hE
         refine seqK fun K30 hK30 => ?_
         refine seqK fun K31 hK31 => ?_
         refine region ?_
         refine s0 moveA rfl ?_
         refine s0 (fieldVA (TK rfl) rfl rfl (TK rfl) rfl rfl) rfl ?_
         refine s0 (loadV (TK rfl) rfl rfl rfl) rfl ?_
         refine sLen (f := strE) (s := a2.FKeys) (TK rfl) rfl rfl rfl rfl fun hL32 => ?_
         refine s0 (binI rfl rfl rfl) rfl ?_
         refine nil ?_
         refine hK31 _ ?_
         clear hK31 K31
         refine condE hE rfl (fun hc33 hE => ?_) (fun hc33 hE => ?_)
         ·try dsimp only at hc33
          have hf33 := of_decide_eq_true hc33
          refine AWp.skip ?_
          refine hK30 _ ?_
          clear hK30 K30
          refine seqK fun K34 hK34 => ?_
          refine block ?_
          refine AWp.draw rfl ?_
          refine DOps.s0 moveA rfl ?_
          refine DOps.s0 moveA rfl ?_
          refine DOps.gC rfl rfl (fun hC => fieldVA (TK rfl) rfl rfl (TK rfl) rfl rfl) rfl ?_
          refine DOps.gC rfl rfl (fun hC => ungdA (k := 71) rfl (loadV (TK rfl) rfl rfl rfl)) rfl ?_
          refine DOps.gC rfl rfl (fun hC => moveA) rfl ?_
          obtain ⟨x35, gx35, hE⟩ := guardO_some hE
          refine DOps.gC rfl rfl (fun hC => ungdA (k := 72) rfl (ungdA (k := 73) rfl (idxMn (f := strE) (n := s12_29) (TK rfl) rfl (TK rfl) rfl rfl rfl (gx35 hC)))) rfl ?_
          refine DOps.gC rfl rfl (fun hC => ungdA (k := 74) rfl (loadV (TK rfl) rfl rfl rfl)) rfl ?_
          refine DOps.gC rfl rfl (fun hC => fieldVA (TK rfl) rfl rfl (TK rfl) rfl rfl) rfl ?_
          refine DOps.gC rfl rfl (fun hC => ungdA (k := 76) rfl (loadV (TK rfl) rfl rfl rfl)) rfl ?_
          refine DOps.gC rfl rfl (fun hC => moveA) rfl ?_
          obtain ⟨x36, gx36, hE⟩ := guardO_some hE
          refine DOps.gC rfl rfl (fun hC => ungdA (k := 77) rfl (ungdA (k := 78) rfl (idxMn (f := TInput.c) (n := s10_11) (TK rfl) rfl (TK rfl) rfl rfl rfl (gx36 hC)))) rfl ?_
          refine DOps.gC rfl rfl (fun hC => ungdA (k := 79) rfl (fieldVA (TK rfl) rfl rfl (TK rfl) rfl rfl)) rfl ?_
          refine DOps.gC rfl rfl (fun hC => ungdA (k := 80) rfl (loadV (TK rfl) rfl rfl rfl)) rfl ?_
          refine DOps.gC rfl rfl (fun hC => ungdA (k := 75) rfl (ungdA (k := 81) rfl (binS rfl rfl rfl))) rfl ?_
          refine DOps.s0 (pickOrA rfl rfl rfl) rfl ?_
          refine DOps.s0 assignA rfl ?_
          refine DOps.nil (by decide +kernel) ?_
          refine hK34 _ ?_
          clear hK34 K34
          refine region ?_
          refine s0 moveA rfl ?_
          refine s0 (addIA rfl rfl) rfl ?_
          refine s0 assignA rfl ?_
          refine nil ?_
          exact hK27 _ (n27, (s11_28 || ((x35 == x36.FName))), (s12_29 + 1)) Weak.toA hE (Nat.lt_succ_self _)
         refine AWp.exit ?_
         exact hK18 _ s11_28 Weak.toA hE
      rintro s11_19 hE
      try dsimp only at hE
      unfold Z78_j18 at hE
      refine seqK fun K20 hK20 => ?_
      refine region ?_
      refine s0 moveA rfl ?_
      refine s0 (notB rfl) rfl ?_
      refine s0 moveA rfl ?_
      refine gC rfl rfl (fun hC => fieldVA (TK rfl) rfl rfl (TK rfl) rfl rfl) rfl ?_
      refine gC rfl rfl (fun hC => ungdA (k := 87) rfl (loadV (TK rfl) rfl rfl rfl)) rfl ?_
      refine gC rfl rfl (fun hC => moveA) rfl ?_
      obtain ⟨x21, gx21, hE⟩ := guardO_some hE
      refine gC rfl rfl (fun hC => ungdA (k := 88) rfl (ungdA (k := 89) rfl (idxMn (f := TInput.c) (n := s10_11) (TK rfl) rfl (TK rfl) rfl rfl rfl (gx21 hC)))) rfl ?_
      refine gC rfl rfl (fun hC => ungdA (k := 90) rfl (fieldVA (TK rfl) rfl rfl (TK rfl) rfl rfl)) rfl ?_
      refine gC rfl rfl (fun hC => ungdA (k := 91) rfl (loadV (TK rfl) rfl rfl rfl)) rfl ?_
      refine gC rfl rfl (fun hC => ungdA (k := 92) rfl (notB rfl)) rfl ?_
      refine s0 (pickAndA rfl rfl rfl) rfl ?_
      refine s0 moveA rfl ?_
      refine gC rfl rfl (fun hC => fieldVA (TK rfl) rfl rfl (TK rfl) rfl rfl) rfl ?_
      refine gC rfl rfl (fun hC => ungdA (k := 96) rfl (loadV (TK rfl) rfl rfl rfl)) rfl ?_
      refine gC rfl rfl (fun hC => moveA) rfl ?_
      obtain ⟨x22, gx22, hE⟩ := guardO_some hE
      refine gC rfl rfl (fun hC => ungdA (k := 97) rfl (ungdA (k := 98) rfl (idxMn (f := TInput.c) (n := s10_11) (TK rfl) rfl (TK rfl) rfl rfl rfl (gx22 hC)))) rfl ?_
      refine gC rfl rfl (fun hC => ungdA (k := 99) rfl (fieldVA (TK rfl) rfl rfl (TK rfl) rfl rfl)) rfl ?_
      refine gC rfl rfl (fun hC => ungdA (k := 100) rfl (loadV (TK rfl) rfl rfl rfl)) rfl ?_
      obtain ⟨x23, gx23, hE⟩ := guardO_some hE
      refine gC rfl rfl (fun hC => ungdA (k := 101) rfl (callP rfl rfl (fun H => Z31_walk (gx23 hC) H))) rfl ?_
      refine s0 (pickAndA rfl rfl rfl) rfl ?_
      refine nil ?_
      refine hK20 _ ?_
      clear hK20 K20
      refine condE hE rfl (fun hc24 hE => ?_) (fun hc24 hE => ?_)
      ·refine seqK fun K25 hK25 => ?_
       refine region ?_
       refine s0 assignA rfl ?_
       refine nil ?_
       refine hK25 _ ?_
       clear hK25 K25
       refine AWp.ret ?_
       repeat (first | refine xBlock_ret ?_ | refine xThen_ret ?_)
       obtain rfl := Option.some.inj hE
       refine retQ.retF H rfl ⟨rfl, rfl⟩ ?_
       exact (fun _ _ h => h)
      refine AWp.skip ?_
      exact hK16 _ () Weak.toA hE
     rintro _ hE
     try dsimp only at hE
     unfold Z78_j16 at hE
     refine region ?_
     refine s0 moveA rfl ?_
     refine s0 (addIA rfl rfl) rfl ?_
     refine s0 assignA rfl ?_
     refine nil ?_
     exact hK10 _ (n10, (s10_11 + 1)) Weak.toA hE (Nat.lt_succ_self _)
    refine AWp.exit ?_
    exact hK7 _ () Weak.toA hE
 rintro _ hE
 try dsimp only at hE
 unfold Z78_j7 at hE
 refine seqK fun K8 hK8 => ?_
 refine region ?_
 refine s0 assignA rfl ?_
 refine nil ?_
 refine hK8 _ ?_
 clear hK8 K8
 refine AWp.ret ?_
 repeat (first | refine xBlock_ret ?_ | refine xThen_ret ?_)
 obtain rfl := Option.some.inj hE
 refine retQ.retF H rfl ⟨rfl, rfl⟩ ?_
 exact (fun _ _ h => h)
theorem r14_Fits_all : ∀ (n : Nat), (∀ {a0 : TDoc} {a1 : TRef} {a2 : TValue}   {r : Bool}, r14_Fits_n n a0 a1 a2 = some r → ∀ (H : Heap), ACalls Tryz.prog 127 [.agg (TDoc.c a0), .agg (TRef.c a1), .agg (TValue.c a2)] H fun v h' => v = .a (.d (.bool r)) ∧ h' = H) ∧ (∀ {a0 : TDoc} {a1 : Bs} {a2 : TValue}   {r : Bool}, r14_named_n n a0 a1 a2 = some r → ∀ (H : Heap), ACalls Tryz.prog 145 [.agg (TDoc.c a0), .d (.str a1), .agg (TValue.c a2)] H fun v h' => v = .a (.d (.bool r)) ∧ h' = H) ∧ (∀ {a0 : TDoc} {a1 : TDef} {a2 : TValue}   {r : Bool}, Z78_n n a0 a1 a2 = some r → ∀ (H : Heap), ACalls Tryz.prog 153 [.agg (TDoc.c a0), .agg (TDef.c a1), .agg (TValue.c a2)] H fun v h' => v = .a (.d (.bool r)) ∧ h' = H)
 | 0 => ⟨fun hE => by first | cases hE | (rw [r14_Fits_n] at hE; cases hE), fun hE => by first | cases hE | (rw [r14_named_n] at hE; cases hE), fun hE => by first | cases hE | (rw [Z78_n] at hE; cases hE)⟩
 | n + 1 => ⟨r14_Fits_step n (r14_Fits_all n).1 (r14_Fits_all n).2.1 (r14_Fits_all n).2.2, r14_named_step n (r14_Fits_all n).1 (r14_Fits_all n).2.1 (r14_Fits_all n).2.2, Z78_step n (r14_Fits_all n).1 (r14_Fits_all n).2.1 (r14_Fits_all n).2.2⟩
def r14_Fits (a0 : TDoc) (a1 : TRef) (a2 : TValue) : Option Bool := r14_Fits_n F0 a0 a1 a2
theorem r14_Fits_walk {a0 : TDoc} {a1 : TRef} {a2 : TValue}   {r : Bool} (hE : r14_Fits a0 a1 a2 = some r) (H : Heap)  : ACalls Tryz.prog 127 [.agg (TDoc.c a0), .agg (TRef.c a1), .agg (TValue.c a2)] H fun v h' => v = .a (.d (.bool r)) ∧ h' = H := (r14_Fits_all F0).1 hE H 
end Go.Proofs
