import Derived.Test.YtimiconoebjfbaaDoorV4
set_option maxRecDepth 100000
set_option maxHeartbeats 2000000
set_option linter.unusedVariables false
set_option linter.unusedSimpArgs false
namespace Go.Proofs
open Go Go.Ab
open AOps Cert AWp
def Z15_j2  (s2_3 : (Sl Bs)) (s3_4 : (Sl Bs)) : Option ((Sl Bs) × (Sl Bs)) := some (s2_3, s3_4)
def Z15_j15 (s10_10 : Nat) (k_next_7 : (Sl Bs) → (Sl Bs) → Nat → Option ((Sl Bs) × (Sl Bs))) (s2_16 : (Sl Bs)) (s3_17 : (Sl Bs)) : Option ((Sl Bs) × (Sl Bs)) := k_next_7 s2_16 s3_17 (s10_10 + 1)
def Z15_j25 (a0 : TQuery) (s10_10 : Nat) (s2_23 : (Sl Bs)) (k_next_7 : (Sl Bs) → (Sl Bs) → Nat → Option ((Sl Bs) × (Sl Bs))) (k_rec_18 : TQuery → (Sl TSel) → (Sl Bs) → (Sl Bs) → Option ((Sl Bs) × (Sl Bs))) (s3_26 : (Sl Bs)) (s15_27 : (Sl TSel)) : Option ((Sl Bs) × (Sl Bs)) := (k_rec_18 a0 s15_27 s2_23 s3_26).bind fun x29 => Z15_j15 s10_10 k_next_7 x29.1 x29.2
def Z15_j22 (a0 : TQuery) (s3_9 : (Sl Bs)) (s10_10 : Nat) (x19 : TSel) (k_next_7 : (Sl Bs) → (Sl Bs) → Nat → Option ((Sl Bs) × (Sl Bs))) (k_rec_18 : TQuery → (Sl TSel) → (Sl Bs) → (Sl Bs) → Option ((Sl Bs) × (Sl Bs))) (s2_23 : (Sl Bs)) : Option ((Sl Bs) × (Sl Bs)) := bif (decide (x19.FKind = (2 : Int))) then ((Z8 a0 x19.FName).bind fun x34 => guardO (!(!x34.2)) (Z13 s3_9 x19.FName) false fun x37 => bif ((!x34.2) || x37) then (Z15_j15 s10_10 k_next_7 s2_23 s3_9) else ((appC 16 s3_9 (⟨false, [x19.FName]⟩ : Sl Bs)).bind fun x40 => Z15_j25 a0 s10_10 s2_23 k_next_7 k_rec_18 x40 x34.1.FSels)) else (Z15_j25 a0 s10_10 s2_23 k_next_7 k_rec_18 s3_9 x19.FSels)
def Z15_j49 (s13_44 : Nat) (k_next_42 : (Sl Bs) → Nat → Option ((Sl Bs) × (Sl Bs))) (s2_50 : (Sl Bs)) : Option ((Sl Bs) × (Sl Bs)) := k_next_42 s2_50 (s13_44 + 1)
def Z15_l52 (x19 : TSel) (s13_44 : Nat) (k_next_42 : (Sl Bs) → Nat → Option ((Sl Bs) × (Sl Bs))) : Nat → (Sl Bs) → Nat → Option ((Sl Bs) × (Sl Bs))
 | 0, _, _ => none
 | n52 + 1, s2_53, s14_54 => (x19.FDirs.l[s13_44]?).bind fun x57 => bif (decide (((s14_54 : Nat) : Int) < ((x57.FArgs.l.length : Nat) : Int))) then ((x19.FDirs.l[s13_44]?).bind fun x61 => (x61.FArgs.l[s14_54]?).bind fun x62 => (Z14 x62.FValue s2_53).bind fun x63 => (Z15_l52 x19 s13_44 k_next_42 n52) x63 (s14_54 + 1)) else (Z15_j49 s13_44 k_next_42 s2_53)
def Z15_l42 (a0 : TQuery) (s3_9 : (Sl Bs)) (s10_10 : Nat) (x19 : TSel) (k_next_7 : (Sl Bs) → (Sl Bs) → Nat → Option ((Sl Bs) × (Sl Bs))) (k_rec_18 : TQuery → (Sl TSel) → (Sl Bs) → (Sl Bs) → Option ((Sl Bs) × (Sl Bs))) : Nat → (Sl Bs) → Nat → Option ((Sl Bs) × (Sl Bs))
 | 0, _, _ => none
 | n42 + 1, s2_43, s13_44 => bif (decide (((s13_44 : Nat) : Int) < ((x19.FDirs.l.length : Nat) : Int))) then (Z15_l52 x19 s13_44 ((Z15_l42 a0 s3_9 s10_10 x19 k_next_7 k_rec_18 n42)) (Option.elim (x19.FDirs.l[s13_44]?) 1 (fun x57 => x57.FArgs.l.length + 1)) s2_43 0) else (Z15_j22 a0 s3_9 s10_10 x19 k_next_7 k_rec_18 s2_43)
def Z15_j20 (a0 : TQuery) (s3_9 : (Sl Bs)) (s10_10 : Nat) (x19 : TSel) (k_next_7 : (Sl Bs) → (Sl Bs) → Nat → Option ((Sl Bs) × (Sl Bs))) (k_rec_18 : TQuery → (Sl TSel) → (Sl Bs) → (Sl Bs) → Option ((Sl Bs) × (Sl Bs))) (s2_21 : (Sl Bs)) : Option ((Sl Bs) × (Sl Bs)) := Z15_l42 a0 s3_9 s10_10 x19 k_next_7 k_rec_18 (x19.FDirs.l.length + 1) s2_21 0
def Z15_l65 (a0 : TQuery) (s3_9 : (Sl Bs)) (s10_10 : Nat) (x19 : TSel) (k_next_7 : (Sl Bs) → (Sl Bs) → Nat → Option ((Sl Bs) × (Sl Bs))) (k_rec_18 : TQuery → (Sl TSel) → (Sl Bs) → (Sl Bs) → Option ((Sl Bs) × (Sl Bs))) : Nat → (Sl Bs) → Nat → Option ((Sl Bs) × (Sl Bs))
 | 0, _, _ => none
 | n65 + 1, s2_66, s12_67 => bif (decide (((s12_67 : Nat) : Int) < ((x19.FArgs.l.length : Nat) : Int))) then ((x19.FArgs.l[s12_67]?).bind fun x73 => (Z14 x73.FValue s2_66).bind fun x74 => (Z15_l65 a0 s3_9 s10_10 x19 k_next_7 k_rec_18 n65) x74 (s12_67 + 1)) else (Z15_j20 a0 s3_9 s10_10 x19 k_next_7 k_rec_18 s2_66)
def Z15_l7 (a0 : TQuery) (a1 : (Sl TSel)) (k_rec_18 : TQuery → (Sl TSel) → (Sl Bs) → (Sl Bs) → Option ((Sl Bs) × (Sl Bs))) : Nat → (Sl Bs) → (Sl Bs) → Nat → Option ((Sl Bs) × (Sl Bs))
 | 0, _, _, _ => none
 | n7 + 1, s2_8, s3_9, s10_10 => bif (decide (((s10_10 : Nat) : Int) < ((a1.l.length : Nat) : Int))) then ((a1.l[s10_10]?).bind fun x19 => Z15_l65 a0 s3_9 s10_10 x19 ((Z15_l7 a0 a1 k_rec_18 n7)) k_rec_18 (x19.FArgs.l.length + 1) s2_8 0) else (Z15_j2   s2_8 s3_9)
def Z15_n : Nat → TQuery → (Sl TSel) → (Sl Bs) → (Sl Bs) → Option ((Sl Bs) × (Sl Bs))
 | 0, _, _, _, _ => none
 | n + 1, a0, a1, a2, a3 => Z15_l7 a0 a1 (Z15_n n) (a1.l.length + 1) a2 a3 0
theorem Z15_step (n : Nat) (ih_18 : ∀ {a0 : TQuery} {a1 : (Sl TSel)} {a2 : (Sl Bs)} {a3 : (Sl Bs)} {w1 : Option Nat} {g2 : Nat} {g3 : Nat} {r : ((Sl Bs) × (Sl Bs))}, Z15_n n a0 a1 a2 a3 = some r → ∀ (H : Heap) (hg2 : H g2 = some (.tok 1 a2.l.length)) (hg3 : H g3 = some (.tok 1 a3.l.length)) (ne_g3_g2 : g3 ≠ g2), ACalls Tryd.prog 18 [.agg (TQuery.c a0), .d (Sl.d 7 TSel.c w1 a1), .d (Sl.d 1 strE (some g2) a2), .d (Sl.d 1 strE (some g3) a3)] H fun v h' => v = .tup [.d (Sl.d 1 strE (some g2) r.1), .d (Sl.d 1 strE (some g3) r.2)] ∧ h' = ((H.set g2 (some (.tok 1 r.1.l.length))).set g3 (some (.tok 1 r.2.l.length)))) : ∀ {a0 : TQuery} {a1 : (Sl TSel)} {a2 : (Sl Bs)} {a3 : (Sl Bs)} {w1 : Option Nat} {g2 : Nat} {g3 : Nat} {r : ((Sl Bs) × (Sl Bs))}, Z15_n (n + 1) a0 a1 a2 a3 = some r → ∀ (H : Heap) (hg2 : H g2 = some (.tok 1 a2.l.length)) (hg3 : H g3 = some (.tok 1 a3.l.length)) (ne_g3_g2 : g3 ≠ g2), ACalls Tryd.prog 18 [.agg (TQuery.c a0), .d (Sl.d 7 TSel.c w1 a1), .d (Sl.d 1 strE (some g2) a2), .d (Sl.d 1 strE (some g3) a3)] H fun v h' => v = .tup [.d (Sl.d 1 strE (some g2) r.1), .d (Sl.d 1 strE (some g3) r.2)] ∧ h' = ((H.set g2 (some (.tok 1 r.1.l.length))).set g3 (some (.tok 1 r.2.l.length))) := by
 intro a0 a1 a2 a3 w1 g2 g3 r hE H hg2 hg3 ne_g3_g2
 rw [Z15_n] at hE
 refine ACalls.of_wp (fn := Tryd.f18) (c := _) Tryd.tab_ok (fun _ _ => Tryd.call18 _ _) Tryd.func18 rfl (n := 114) rfl (rs := [.tmp 8, .tmp 9]) rfl rfl ?_
 refine AWp.heqA (h' := ((H.set g2 (some (.tok 1 a2.l.length))).set g3 (some (.tok 1 a3.l.length)))) (by funext n_; simp only [Heap.set]; (repeat' split) <;> simp_all) ?_
 refine seqK fun K1 hK1 => ?_
 refine region ?_
 refine s0 (boxV rfl) rfl ?_
 refine s0 assignA rfl ?_
 refine s0 assignA rfl ?_
 refine nil ?_
 refine hK1 _ ?_
 clear hK1 K1
 refine seqJH KeepsT.nil (fun (z : (Sl Bs) × (Sl Bs)) => [(2, .a (.d (Sl.d 1 strE (some g2) z.1))), (3, .a (.d (Sl.d 1 strE (some g3) z.2)))]) (fun z => ((H.set g2 (some (.tok 1 z.1.l.length))).set g3 (some (.tok 1 z.2.l.length)))) (fun z => Z15_j2 z.1 z.2 = some r) ?_ ?_
 ·intro K2 hK2
  refine seqK fun K6 hK6 => ?_
  refine region ?_
  refine s0 assignA rfl ?_
  refine nil ?_
  refine hK6 _ ?_
  clear hK6 K6
  refine block ?_
  refine loopH (KeepsT.A (k := 1) (KeepsT.A (k := 4) KeepsT.nil)) (fun (z : Nat × (Sl Bs) × (Sl Bs) × Nat) => [(2, .a (.d (Sl.d 1 strE (some g2) z.2.1))), (3, .a (.d (Sl.d 1 strE (some g3) z.2.2.1))), (10, .a (.d (.int .i64 ((z.2.2.2 : Nat) : Int))))]) (fun z => ((H.set g2 (some (.tok 1 z.2.1.l.length))).set g3 (some (.tok 1 z.2.2.1.l.length)))) (fun z => z.1) (fun z => Z15_l7 a0 a1 (Z15_n n) z.1 z.2.1 z.2.2.1 z.2.2.2 = some r) ((a1.l.length + 1), a2, a3, 0) hE Weak.toA ?_
  rintro ⟨n7, s2_8, s3_9, s10_10⟩ hE K7 hK7
  try dsimp only at hE
  cases n7 with
  | zero => cases hE
  | succ n7 =>
    rw [Z15_l7] at hE
    refine seqK fun K11 hK11 => ?_
    refine seqK fun K12 hK12 => ?_
    refine region ?_
    refine s0 moveA rfl ?_
    refine s0 moveA rfl ?_
    refine sLen (f := TSel.c) (s := a1) (TK rfl) rfl rfl rfl rfl fun hL13 => ?_
    refine s0 (binI rfl rfl rfl) rfl ?_
    refine nil ?_
    refine hK12 _ ?_
    clear hK12 K12
    refine condE hE rfl (fun hc14 hE => ?_) (fun hc14 hE => ?_)
    ·try dsimp only at hc14
     have hf14 := of_decide_eq_true hc14
     refine AWp.skip ?_
     refine hK11 _ ?_
     clear hK11 K11
     refine seqJH (KeepsT.A (k := 1) (KeepsT.A (k := 4) (KeepsT.A (k := 10) KeepsT.nil))) (fun (z : (Sl Bs) × (Sl Bs)) => [(2, .a (.d (Sl.d 1 strE (some g2) z.1))), (3, .a (.d (Sl.d 1 strE (some g3) z.2)))]) (fun z => ((H.set g2 (some (.tok 1 z.1.l.length))).set g3 (some (.tok 1 z.2.l.length)))) (fun z => Z15_j15 s10_10 ((Z15_l7 a0 a1 (Z15_n n) n7)) z.1 z.2 = some r) ?_ ?_
     ·intro K15 hK15
      refine block ?_
      refine seqK fun K18 hK18 => ?_
      refine region ?_
      refine s0 moveA rfl ?_
      refine s0 moveA rfl ?_
      obtain ⟨x19, gx19, hE⟩ := bindO_some hE
      refine s0 (idxMn (f := TSel.c) (n := s10_10) (TK rfl) rfl (TK rfl) rfl rfl rfl gx19) rfl ?_
      refine s0 (loadV (TK rfl) rfl rfl rfl) rfl ?_
      refine sL (allocLA (TK rfl) rfl) rfl ?_
      refine sLn (storeLFA (TK rfl) rfl rfl rfl rfl rfl) ?_
      refine nil ?_
      refine hK18 _ ?_
      clear hK18 K18
      refine freezeA 11 _ rfl (Keeps.c (k := 1) (by conv => lhs; whnf) (by rfl) (Keeps.c (k := 2) (by conv => lhs; whnf) (by rfl) (Keeps.c (k := 3) (by conv => lhs; whnf) (by rfl) (Keeps.c (k := 4) (by conv => lhs; whnf) (by rfl) (Keeps.c (k := 10) (by conv => lhs; whnf) (by rfl) Keeps.nil))))) ?_
      refine seqJH (KeepsT.A (k := 1) (KeepsT.A (k := 3) (KeepsT.A (k := 4) (KeepsT.A (k := 10) (KeepsT.A (k := 11) KeepsT.nil))))) (fun (z : (Sl Bs)) => [(2, .a (.d (Sl.d 1 strE (some g2) z)))]) (fun z => ((H.set g2 (some (.tok 1 z.l.length))).set g3 (some (.tok 1 s3_9.l.length)))) (fun z => Z15_j20 a0 s3_9 s10_10 x19 ((Z15_l7 a0 a1 (Z15_n n) n7)) (Z15_n n) z = some r) ?_ ?_
      ·intro K20 hK20
       refine seqK fun K64 hK64 => ?_
       refine region ?_
       refine s0 assignA rfl ?_
       refine nil ?_
       refine hK64 _ ?_
       clear hK64 K64
       refine block ?_
       refine loopH (KeepsT.A (k := 1) (KeepsT.A (k := 3) (KeepsT.A (k := 4) (KeepsT.A (k := 10) (KeepsT.A (k := 11) KeepsT.nil))))) (fun (z : Nat × (Sl Bs) × Nat) => [(2, .a (.d (Sl.d 1 strE (some g2) z.2.1))), (12, .a (.d (.int .i64 ((z.2.2 : Nat) : Int))))]) (fun z => ((H.set g2 (some (.tok 1 z.2.1.l.length))).set g3 (some (.tok 1 s3_9.l.length)))) (fun z => z.1) (fun z => Z15_l65 a0 s3_9 s10_10 x19 ((Z15_l7 a0 a1 (Z15_n n) n7)) (Z15_n n) z.1 z.2.1 z.2.2 = some r) ((x19.FArgs.l.length + 1), s2_8, 0) hE Weak.toA ?_
       rintro ⟨n65, s2_66, s12_67⟩ hE K65 hK65
       try dsimp only at hE
       cases n65 with
       | zero => cases hE
       | succ n65 =>
         rw [Z15_l65] at hE
         refine seqK fun K68 hK68 => ?_
         refine seqK fun K69 hK69 => ?_
         refine region ?_
         refine s0 moveA rfl ?_
         refine s0 (fieldVA (TK rfl) rfl rfl (TK rfl) rfl rfl) rfl ?_
         refine s0 (loadV (TK rfl) rfl rfl rfl) rfl ?_
         refine sLen (f := TArg.c) (s := x19.FArgs) (TK rfl) rfl rfl rfl rfl fun hL70 => ?_
         refine s0 (binI rfl rfl rfl) rfl ?_
         refine nil ?_
         refine hK69 _ ?_
         clear hK69 K69
         refine condE hE rfl (fun hc71 hE => ?_) (fun hc71 hE => ?_)
         ·try dsimp only at hc71
          have hf71 := of_decide_eq_true hc71
          refine AWp.skip ?_
          refine hK68 _ ?_
          clear hK68 K68
          refine seqK fun K72 hK72 => ?_
          refine block ?_
          refine region ?_
          refine s0 (fieldVA (TK rfl) rfl rfl (TK rfl) rfl rfl) rfl ?_
          refine s0 (loadV (TK rfl) rfl rfl rfl) rfl ?_
          refine s0 moveA rfl ?_
          obtain ⟨x73, gx73, hE⟩ := bindO_some hE
          refine s0 (idxMn (f := TArg.c) (n := s12_67) (TK rfl) rfl (TK rfl) rfl rfl rfl gx73) rfl ?_
          refine s0 (fieldVA (TK rfl) rfl rfl (TK rfl) rfl rfl) rfl ?_
          refine s0 (loadV (TK rfl) rfl rfl rfl) rfl ?_
          refine s0 moveA rfl ?_
          obtain ⟨x74, gx74, hE⟩ := bindO_some hE
          refine sH (callH rfl rfl (Z14_walk gx74 _ hpG)) rfl ?_
          refine AOps.heq (h' := ((H.set g2 (some (.tok 1 x74.l.length))).set g3 (some (.tok 1 s3_9.l.length)))) (by first | rfl | (rw [Heap.set_set]; rfl) | (funext n_; simp only [Heap.set]; (repeat' split) <;> first | rfl | (exfalso; simp_all; done) | (simp_all; done))) ?_
          refine s0 assignA rfl ?_
          refine nil ?_
          refine hK72 _ ?_
          clear hK72 K72
          refine region ?_
          refine s0 moveA rfl ?_
          refine s0 (addIA rfl rfl) rfl ?_
          refine s0 assignA rfl ?_
          refine nil ?_
          exact hK65 _ (n65, x74, (s12_67 + 1)) Weak.toA hE (Nat.lt_succ_self _)
         refine AWp.exit ?_
         exact hK20 _ s2_66 Weak.toA hE
      rintro s2_21 hE
      try dsimp only at hE
      unfold Z15_j20 at hE
      refine seqJH (KeepsT.A (k := 1) (KeepsT.A (k := 3) (KeepsT.A (k := 4) (KeepsT.A (k := 10) (KeepsT.A (k := 11) KeepsT.nil))))) (fun (z : (Sl Bs)) => [(2, .a (.d (Sl.d 1 strE (some g2) z)))]) (fun z => ((H.set g2 (some (.tok 1 z.l.length))).set g3 (some (.tok 1 s3_9.l.length)))) (fun z => Z15_j22 a0 s3_9 s10_10 x19 ((Z15_l7 a0 a1 (Z15_n n) n7)) (Z15_n n) z = some r) ?_ ?_
      ·intro K22 hK22
       refine seqK fun K41 hK41 => ?_
       refine region ?_
       refine s0 assignA rfl ?_
       refine nil ?_
       refine hK41 _ ?_
       clear hK41 K41
       refine block ?_
       refine loopH (KeepsT.A (k := 1) (KeepsT.A (k := 3) (KeepsT.A (k := 4) (KeepsT.A (k := 10) (KeepsT.A (k := 11) KeepsT.nil))))) (fun (z : Nat × (Sl Bs) × Nat) => [(2, .a (.d (Sl.d 1 strE (some g2) z.2.1))), (13, .a (.d (.int .i64 ((z.2.2 : Nat) : Int))))]) (fun z => ((H.set g2 (some (.tok 1 z.2.1.l.length))).set g3 (some (.tok 1 s3_9.l.length)))) (fun z => z.1) (fun z => Z15_l42 a0 s3_9 s10_10 x19 ((Z15_l7 a0 a1 (Z15_n n) n7)) (Z15_n n) z.1 z.2.1 z.2.2 = some r) ((x19.FDirs.l.length + 1), s2_21, 0) hE Weak.toA ?_
       rintro ⟨n42, s2_43, s13_44⟩ hE K42 hK42
       try dsimp only at hE
       cases n42 with
       | zero => cases hE
       | succ n42 =>
         rw [Z15_l42] at hE
         refine seqK fun K45 hK45 => ?_
         refine seqK fun K46 hK46 => ?_
         refine region ?_
         refine s0 moveA rfl ?_
         refine s0 (fieldVA (TK rfl) rfl rfl (TK rfl) rfl rfl) rfl ?_
         refine s0 (loadV (TK rfl) rfl rfl rfl) rfl ?_
         refine sLen (f := TDir.c) (s := x19.FDirs) (TK rfl) rfl rfl rfl rfl fun hL47 => ?_
         refine s0 (binI rfl rfl rfl) rfl ?_
         refine nil ?_
         refine hK46 _ ?_
         clear hK46 K46
         refine condE hE rfl (fun hc48 hE => ?_) (fun hc48 hE => ?_)
         ·try dsimp only at hc48
          have hf48 := of_decide_eq_true hc48
          refine AWp.skip ?_
          refine hK45 _ ?_
          clear hK45 K45
          refine seqJH (KeepsT.A (k := 1) (KeepsT.A (k := 3) (KeepsT.A (k := 4) (KeepsT.A (k := 10) (KeepsT.A (k := 11) (KeepsT.A (k := 13) KeepsT.nil)))))) (fun (z : (Sl Bs)) => [(2, .a (.d (Sl.d 1 strE (some g2) z)))]) (fun z => ((H.set g2 (some (.tok 1 z.l.length))).set g3 (some (.tok 1 s3_9.l.length)))) (fun z => Z15_j49 s13_44 ((Z15_l42 a0 s3_9 s10_10 x19 ((Z15_l7 a0 a1 (Z15_n n) n7)) (Z15_n n) n42)) z = some r) ?_ ?_
          ·intro K49 hK49
           refine block ?_
           refine seqK fun K51 hK51 => ?_
           refine region ?_
           refine s0 assignA rfl ?_
           refine nil ?_
           refine hK51 _ ?_
           clear hK51 K51
           refine block ?_
           refine loopH (KeepsT.A (k := 1) (KeepsT.A (k := 3) (KeepsT.A (k := 4) (KeepsT.A (k := 10) (KeepsT.A (k := 11) (KeepsT.A (k := 13) KeepsT.nil)))))) (fun (z : Nat × (Sl Bs) × Nat) => [(2, .a (.d (Sl.d 1 strE (some g2) z.2.1))), (14, .a (.d (.int .i64 ((z.2.2 : Nat) : Int))))]) (fun z => ((H.set g2 (some (.tok 1 z.2.1.l.length))).set g3 (some (.tok 1 s3_9.l.length)))) (fun z => z.1) (fun z => Z15_l52 x19 s13_44 ((Z15_l42 a0 s3_9 s10_10 x19 ((Z15_l7 a0 a1 (Z15_n n) n7)) (Z15_n n) n42)) z.1 z.2.1 z.2.2 = some r) ((Option.elim (x19.FDirs.l[s13_44]?) 1 (fun x57 => x57.FArgs.l.length + 1)), s2_43, 0) hE Weak.toA ?_
           rintro ⟨n52, s2_53, s14_54⟩ hE K52 hK52
           try dsimp only at hE
           cases n52 with
           | zero => cases hE
           | succ n52 =>
             rw [Z15_l52] at hE
             refine seqK fun K55 hK55 => ?_
             refine seqK fun K56 hK56 => ?_
             refine region ?_
             refine s0 moveA rfl ?_
             refine s0 (fieldVA (TK rfl) rfl rfl (TK rfl) rfl rfl) rfl ?_
             refine s0 (loadV (TK rfl) rfl rfl rfl) rfl ?_
             refine s0 moveA rfl ?_
             obtain ⟨x57, gx57, hE⟩ := bindO_some hE
             refine s0 (idxMn (f := TDir.c) (n := s13_44) (TK rfl) rfl (TK rfl) rfl rfl rfl gx57) rfl ?_
             refine s0 (fieldVA (TK rfl) rfl rfl (TK rfl) rfl rfl) rfl ?_
             refine s0 (loadV (TK rfl) rfl rfl rfl) rfl ?_
             refine sLen (f := TArg.c) (s := x57.FArgs) (TK rfl) rfl rfl rfl rfl fun hL58 => ?_
             refine s0 (binI rfl rfl rfl) rfl ?_
             refine nil ?_
             refine hK56 _ ?_
             clear hK56 K56
             refine condE hE rfl (fun hc59 hE => ?_) (fun hc59 hE => ?_)
             ·try dsimp only at hc59
              have hf59 := of_decide_eq_true hc59
              refine AWp.skip ?_
              refine hK55 _ ?_
              clear hK55 K55
              refine seqK fun K60 hK60 => ?_
              refine block ?_
              refine region ?_
              refine s0 (fieldVA (TK rfl) rfl rfl (TK rfl) rfl rfl) rfl ?_
              refine s0 (loadV (TK rfl) rfl rfl rfl) rfl ?_
              refine s0 moveA rfl ?_
              obtain ⟨x61, gx61, hE⟩ := bindO_some hE
              refine s0 (idxMn (f := TDir.c) (n := s13_44) (TK rfl) rfl (TK rfl) rfl rfl rfl gx61) rfl ?_
              refine s0 (fieldVA (TK rfl) rfl rfl (TK rfl) rfl rfl) rfl ?_
              refine s0 (loadV (TK rfl) rfl rfl rfl) rfl ?_
              refine s0 moveA rfl ?_
              obtain ⟨x62, gx62, hE⟩ := bindO_some hE
              refine s0 (idxMn (f := TArg.c) (n := s14_54) (TK rfl) rfl (TK rfl) rfl rfl rfl gx62) rfl ?_
              refine s0 (fieldVA (TK rfl) rfl rfl (TK rfl) rfl rfl) rfl ?_
              refine s0 (loadV (TK rfl) rfl rfl rfl) rfl ?_
              refine s0 moveA rfl ?_
              obtain ⟨x63, gx63, hE⟩ := bindO_some hE
              refine sH (callH rfl rfl (Z14_walk gx63 _ hpG)) rfl ?_
              refine AOps.heq (h' := ((H.set g2 (some (.tok 1 x63.l.length))).set g3 (some (.tok 1 s3_9.l.length)))) (by first | rfl | (rw [Heap.set_set]; rfl) | (funext n_; simp only [Heap.set]; (repeat' split) <;> first | rfl | (exfalso; simp_all; done) | (simp_all; done))) ?_
              refine s0 assignA rfl ?_
              refine nil ?_
              refine hK60 _ ?_
              clear hK60 K60
              refine region ?_
              refine s0 moveA rfl ?_
              refine s0 (addIA rfl rfl) rfl ?_
              refine s0 assignA rfl ?_
              refine nil ?_
              exact hK52 _ (n52, x63, (s14_54 + 1)) Weak.toA hE (Nat.lt_succ_self _)
             refine AWp.exit ?_
             exact hK49 _ s2_53 Weak.toA hE
          rintro s2_50 hE
          try dsimp only at hE
          unfold Z15_j49 at hE
          refine region ?_
          refine s0 moveA rfl ?_
          refine s0 (addIA rfl rfl) rfl ?_
          refine s0 assignA rfl ?_
          refine nil ?_
          exact hK42 _ (n42, s2_50, (s13_44 + 1)) Weak.toA hE (Nat.lt_succ_self _)
         refine AWp.exit ?_
         exact hK22 _ s2_43 Weak.toA hE
      rintro s2_23 hE
      try dsimp only at hE
      unfold Z15_j22 at hE
      refine seqK fun K24 hK24 => ?_
      refine region ?_
      refine s0 (fieldVA (TK rfl) rfl rfl (TK rfl) rfl rfl) rfl ?_
      refine s0 (loadV (TK rfl) rfl rfl (congrArg (fun x => some (A.d x)) (TSel.FSelsD_eq _))) rfl ?_
      refine s0 assignA rfl ?_
      refine nil ?_
      refine hK24 _ ?_
      clear hK24 K24
      refine seqJH (KeepsT.A (k := 1) (KeepsT.A (k := 2) (KeepsT.A (k := 4) (KeepsT.A (k := 10) KeepsT.nil)))) (fun (z : (Sl Bs) × (Sl TSel)) => [(3, .a (.d (Sl.d 1 strE (some g3) z.1))), (15, .a (.d (Sl.d 7 TSel.c none z.2)))]) (fun z => ((H.set g2 (some (.tok 1 s2_23.l.length))).set g3 (some (.tok 1 z.1.l.length)))) (fun z => Z15_j25 a0 s10_10 s2_23 ((Z15_l7 a0 a1 (Z15_n n) n7)) (Z15_n n) z.1 z.2 = some r) ?_ ?_
      ·intro K25 hK25
       refine seqK fun K31 hK31 => ?_
       refine region ?_
       refine s0 (fieldVA (TK rfl) rfl rfl (TK rfl) rfl rfl) rfl ?_
       refine s0 (loadV (TK rfl) rfl rfl rfl) rfl ?_
       refine s0 (binI rfl rfl rfl) rfl ?_
       refine nil ?_
       refine hK31 _ ?_
       clear hK31 K31
       refine condE hE rfl (fun hc32 hE => ?_) (fun hc32 hE => ?_)
       ·refine seqK fun K33 hK33 => ?_
        refine region ?_
        refine s0 (loadV (TK rfl) rfl rfl rfl) rfl ?_
        refine s0 (fieldVA (TK rfl) rfl rfl (TK rfl) rfl rfl) rfl ?_
        refine s0 (loadV (TK rfl) rfl rfl rfl) rfl ?_
        obtain ⟨x34, gx34, hE⟩ := bindO_some hE
        refine s0 (callP rfl rfl (fun H => Z8_walk gx34 H)) rfl ?_
        refine s0 moveA rfl ?_
        refine s0 (extract rfl rfl) rfl ?_
        refine s0 (extract rfl rfl) rfl ?_
        refine sL (allocLA (TK rfl) rfl) rfl ?_
        refine sLn (storeLFA (TK rfl) rfl rfl rfl rfl rfl) ?_
        refine s0 assignA rfl ?_
        refine nil ?_
        refine hK33 _ ?_
        clear hK33 K33
        refine freezeA 16 _ rfl (Keeps.c (k := 1) (by conv => lhs; whnf) (by rfl) (Keeps.c (k := 2) (by conv => lhs; whnf) (by rfl) (Keeps.c (k := 3) (by conv => lhs; whnf) (by rfl) (Keeps.c (k := 4) (by conv => lhs; whnf) (by rfl) (Keeps.c (k := 10) (by conv => lhs; whnf) (by rfl) (Keeps.c (k := 11) (by conv => lhs; whnf) (by rfl) (Keeps.c (k := 17) (by conv => lhs; whnf) (by rfl) Keeps.nil))))))) ?_
        refine seqK fun K35 hK35 => ?_
        refine seqK fun K36 hK36 => ?_
        refine region ?_
        refine s0 moveA rfl ?_
        refine s0 (notB rfl) rfl ?_
        refine s0 moveA rfl ?_
        refine gC rfl rfl (fun hC => moveA) rfl ?_
        refine gC rfl rfl (fun hC => fieldVA (TK rfl) rfl rfl (TK rfl) rfl rfl) rfl ?_
        refine gC rfl rfl (fun hC => ungdA (k := 91) rfl (loadV (TK rfl) rfl rfl rfl)) rfl ?_
        obtain ⟨x37, gx37, hE⟩ := guardO_some hE
        refine gC rfl rfl (fun hC => ungdA (k := 90) rfl (ungdA (k := 92) rfl (callP rfl rfl (fun H => Z13_walk (gx37 hC) H)))) rfl ?_
        refine s0 (pickOrA rfl rfl rfl) rfl ?_
        refine nil ?_
        refine hK36 _ ?_
        clear hK36 K36
        refine condE hE rfl (fun hc38 hE => ?_) (fun hc38 hE => ?_)
        ·refine AWp.exit ?_
         exact hK15 _ (s2_23, s3_9) Weak.toA hE
        refine AWp.skip ?_
        refine hK35 _ ?_
        clear hK35 K35
        refine seqK fun K39 hK39 => ?_
        refine region ?_
        refine s0 moveA rfl ?_
        refine s0 (fieldVA (TK rfl) rfl rfl (TK rfl) rfl rfl) rfl ?_
        refine s0 (loadV (TK rfl) rfl rfl rfl) rfl ?_
        refine s0 (buildSlice (TK rfl) rfl (TK rfl) rfl rfl rfl rfl rfl rfl) rfl ?_
        obtain ⟨x40, gx40, hE⟩ := bindO_some hE
        refine sH (appM (f := strE) (TK rfl) rfl (TK rfl) (TK rfl) ⟨_, rfl⟩ rfl rfl (by decide) rfl rfl rfl rfl hpG rfl gx40) rfl ?_
        refine AOps.heq (h' := ((H.set g2 (some (.tok 1 s2_23.l.length))).set g3 (some (.tok 1 x40.l.length)))) (by first | rfl | (rw [Heap.set_set]; rfl) | (funext n_; simp only [Heap.set]; (repeat' split) <;> first | rfl | (exfalso; simp_all; done) | (simp_all; done))) ?_
        refine s0 assignA rfl ?_
        refine nil ?_
        refine hK39 _ ?_
        clear hK39 K39
        refine region ?_
        refine s0 (fieldVA (TK rfl) rfl rfl (TK rfl) rfl rfl) rfl ?_
        refine s0 (loadV (TK rfl) rfl rfl rfl) rfl ?_
        refine s0 assignA rfl ?_
        refine nil ?_
        exact hK25 _ (x40, x34.1.FSels) Weak.toA hE
       refine AWp.skip ?_
       exact hK25 _ (s3_9, x19.FSels) Weak.toA hE
      rintro ⟨s3_26, s15_27⟩ hE
      try dsimp only at hE
      unfold Z15_j25 at hE
      refine seqK fun K28 hK28 => ?_
      refine region ?_
      refine s0 (loadV (TK rfl) rfl rfl rfl) rfl ?_
      refine s0 moveA rfl ?_
      refine s0 moveA rfl ?_
      refine s0 moveA rfl ?_
      obtain ⟨x29, gx29, hE⟩ := bindO_some hE
      refine sH (callH rfl rfl (ih_18 gx29 _ hpG hpG (by assumption))) rfl ?_
      refine AOps.heq (h' := ((H.set g2 (some (.tok 1 x29.1.l.length))).set g3 (some (.tok 1 x29.2.l.length)))) (by first | rfl | (rw [Heap.set_set]; rfl) | (funext n_; simp only [Heap.set]; (repeat' split) <;> first | rfl | (exfalso; simp_all; done) | (simp_all; done))) ?_
      refine s0 moveA rfl ?_
      refine s0 (extract rfl rfl) rfl ?_
      refine s0 (extract rfl rfl) rfl ?_
      refine s0 assignA rfl ?_
      refine s0 assignA rfl ?_
      refine nil ?_
      refine hK28 _ ?_
      clear hK28 K28
      refine seqK fun K30 hK30 => ?_
      refine region ?_
      refine s0 moveA rfl ?_
      refine s0 assignA rfl ?_
      refine nil ?_
      refine hK30 _ ?_
      clear hK30 K30
      refine region ?_
      refine s0 moveA rfl ?_
      refine s0 assignA rfl ?_
      refine nil ?_
      exact hK15 _ (x29.1, x29.2) Weak.toA hE
     rintro ⟨s2_16, s3_17⟩ hE
     try dsimp only at hE
     unfold Z15_j15 at hE
     refine region ?_
     refine s0 moveA rfl ?_
     refine s0 (addIA rfl rfl) rfl ?_
     refine s0 assignA rfl ?_
     refine nil ?_
     exact hK7 _ (n7, s2_16, s3_17, (s10_10 + 1)) Weak.toA hE (Nat.lt_succ_self _)
    refine AWp.exit ?_
    exact hK2 _ (s2_8, s3_9) Weak.toA hE
 rintro ⟨s2_3, s3_4⟩ hE
 try dsimp only at hE
 unfold Z15_j2 at hE
 refine seqK fun K5 hK5 => ?_
 refine region ?_
 refine s0 moveA rfl ?_
 refine s0 moveA rfl ?_
 refine s0 assignA rfl ?_
 refine s0 assignA rfl ?_
 refine nil ?_
 refine hK5 _ ?_
 clear hK5 K5
 refine AWp.ret ?_
 repeat (first | refine xBlock_ret ?_ | refine xThen_ret ?_)
 obtain rfl := Option.some.inj hE
 refine retQ.retF ((H.set g2 (some (.tok 1 s2_3.l.length))).set g3 (some (.tok 1 s3_4.l.length))) rfl ⟨rfl, rfl⟩ ?_
 exact (fun _ _ h => h)
theorem Z15_all : ∀ (n : Nat), (∀ {a0 : TQuery} {a1 : (Sl TSel)} {a2 : (Sl Bs)} {a3 : (Sl Bs)} {w1 : Option Nat} {g2 : Nat} {g3 : Nat} {r : ((Sl Bs) × (Sl Bs))}, Z15_n n a0 a1 a2 a3 = some r → ∀ (H : Heap) (hg2 : H g2 = some (.tok 1 a2.l.length)) (hg3 : H g3 = some (.tok 1 a3.l.length)) (ne_g3_g2 : g3 ≠ g2), ACalls Tryd.prog 18 [.agg (TQuery.c a0), .d (Sl.d 7 TSel.c w1 a1), .d (Sl.d 1 strE (some g2) a2), .d (Sl.d 1 strE (some g3) a3)] H fun v h' => v = .tup [.d (Sl.d 1 strE (some g2) r.1), .d (Sl.d 1 strE (some g3) r.2)] ∧ h' = ((H.set g2 (some (.tok 1 r.1.l.length))).set g3 (some (.tok 1 r.2.l.length))))
 | 0 => fun hE => by first | cases hE | (rw [Z15_n] at hE; cases hE)
 | n + 1 => Z15_step n (Z15_all n)
def Z15 (a0 : TQuery) (a1 : (Sl TSel)) (a2 : (Sl Bs)) (a3 : (Sl Bs)) : Option ((Sl Bs) × (Sl Bs)) := Z15_n F0 a0 a1 a2 a3
theorem Z15_walk {a0 : TQuery} {a1 : (Sl TSel)} {a2 : (Sl Bs)} {a3 : (Sl Bs)} {w1 : Option Nat} {g2 : Nat} {g3 : Nat} {r : ((Sl Bs) × (Sl Bs))} (hE : Z15 a0 a1 a2 a3 = some r) (H : Heap) (hg2 : H g2 = some (.tok 1 a2.l.length)) (hg3 : H g3 = some (.tok 1 a3.l.length)) (ne_g3_g2 : g3 ≠ g2) : ACalls Tryd.prog 18 [.agg (TQuery.c a0), .d (Sl.d 7 TSel.c w1 a1), .d (Sl.d 1 strE (some g2) a2), .d (Sl.d 1 strE (some g3) a3)] H fun v h' => v = .tup [.d (Sl.d 1 strE (some g2) r.1), .d (Sl.d 1 strE (some g3) r.2)] ∧ h' = ((H.set g2 (some (.tok 1 r.1.l.length))).set g3 (some (.tok 1 r.2.l.length))) := (Z15_all F0) hE H hg2 hg3 ne_g3_g2
def Z12 (a0 : TQuery) (a1 : Int) : Option (Sl Bs) := bif ((decide (a1 < (0 : Int))) || (decide (((a0.FOps.l.length : Nat) : Int) ≤ a1))) then (some (Sl.nil : Sl Bs)) else ((idxC a0.FOps.l a1).bind fun x9 => (Z15 a0 x9.FSels (Sl.nil : Sl Bs) (Sl.nil : Sl Bs)).bind fun x10 => some x10.1)
theorem Z12_walk {a0 : TQuery} {a1 : Int}   {r : (Sl Bs)} (hE : Z12 a0 a1 = some r) (H : Heap)  : ACalls Tryd.prog 8 [.agg (TQuery.c a0), .d (.int .i64 a1)] H fun v h' => v = .a (.d (Sl.d 1 strE none r)) ∧ h' = H := by
 unfold Z12 at hE
 refine ACalls.of_wp (fn := Tryd.f8) (c := _) Tryd.tab_ok (fun _ _ => Tryd.call8 _ _) Tryd.func8 rfl (n := 28) rfl (rs := [.tmp 4]) rfl rfl ?_
 refine seqK fun K1 hK1 => ?_
 refine region ?_
 refine s0 (boxV rfl) rfl ?_
 refine s0 (assignNil (k' := 1) rfl) rfl ?_
 refine nil ?_
 refine hK1 _ ?_
 clear hK1 K1
 refine seqK fun K2 hK2 => ?_
 refine seqK fun K3 hK3 => ?_
 refine region ?_
 refine s0 moveA rfl ?_
 refine s0 (binI rfl rfl rfl) rfl ?_
 refine s0 moveA rfl ?_
 refine gC rfl rfl (fun hC => moveA) rfl ?_
 refine gC rfl rfl (fun hC => fieldVA (TK rfl) rfl rfl (TK rfl) rfl rfl) rfl ?_
 refine gC rfl rfl (fun hC => ungdA (k := 11) rfl (loadV (TK rfl) rfl rfl rfl)) rfl ?_
 refine gC rfl rfl (fun hC => ungdA (k := 12) rfl (lenM' (f := TOp.c) (s := a0.FOps) (TK rfl) rfl rfl rfl)) rfl ?_
 refine gC rfl rfl (fun hC => ungdA (k := 10) rfl (ungdA (k := 13) rfl (binI rfl rfl rfl))) rfl ?_
 refine s0 (pickOrA rfl rfl rfl) rfl ?_
 refine nil ?_
 refine hK3 _ ?_
 clear hK3 K3
 refine condE hE rfl (fun hc4 hE => ?_) (fun hc4 hE => ?_)
 ·refine seqK fun K5 hK5 => ?_
  refine region ?_
  refine s0 (assignNil (k' := 1) rfl) rfl ?_
  refine nil ?_
  refine hK5 _ ?_
  clear hK5 K5
  refine AWp.ret ?_
  repeat (first | refine xBlock_ret ?_ | refine xThen_ret ?_)
  obtain rfl := Option.some.inj hE
  refine retQ.retF H rfl ⟨rfl, rfl⟩ ?_
  exact (fun _ _ h => h)
 refine AWp.skip ?_
 refine hK2 _ ?_
 clear hK2 K2
 refine seqK fun K6 hK6 => ?_
 refine AWp.tok 1 fun tk2_7 htk2_7 => ?_
 refine AWp.tok 1 fun tk3_8 htk3_8 => ?_
 obtain ⟨ne_tk3_8_tk2_7, htk3_8⟩ := Heap.set_fresh htk3_8
 refine AWp.draw rfl ?_
 refine DOps.s0 (loadV (TK rfl) rfl rfl rfl) rfl ?_
 refine DOps.s0 (fieldVA (TK rfl) rfl rfl (TK rfl) rfl rfl) rfl ?_
 refine DOps.s0 (loadV (TK rfl) rfl rfl rfl) rfl ?_
 refine DOps.s0 moveA rfl ?_
 obtain ⟨x9, gx9, hE⟩ := bindO_some hE
 refine DOps.s0 (idxM (f := TOp.c) (TK rfl) rfl (TK rfl) rfl rfl rfl gx9) rfl ?_
 refine DOps.s0 (fieldVA (TK rfl) rfl rfl (TK rfl) rfl rfl) rfl ?_
 refine DOps.s0 (loadV (TK rfl) rfl rfl rfl) rfl ?_
 obtain ⟨x10, gx10, hE⟩ := bindO_some hE
 refine DOps.sH (callH rfl rfl (ACalls.asArgs (.cons (.refl _) (.cons (.refl _) (.cons (AsArg.nil (k' := 1) (t := tk2_7) hpG) (.cons (AsArg.nil (k' := 1) (t := tk3_8) hpG) .nil)))) (Z15_walk gx10 _ hpG hpG (by assumption)))) rfl ?_
 refine DOps.heq (h' := ((H.set tk2_7 (some (.tok 1 x10.1.l.length))).set tk3_8 (some (.tok 1 x10.2.l.length)))) (by first | rfl | (rw [Heap.set_set]; rfl) | (funext n_; simp only [Heap.set]; (repeat' split) <;> first | rfl | (exfalso; simp_all; done) | (simp_all; done))) ?_
 refine DOps.s0 moveA rfl ?_
 refine DOps.s0 (extract rfl rfl) rfl ?_
 refine DOps.s0 (extract rfl rfl) rfl ?_
 refine DOps.s0 assignA rfl ?_
 refine DOps.s0 assignA rfl ?_
 refine DOps.nil (by decide +kernel) ?_
 refine hK6 _ ?_
 clear hK6 K6
 refine AWp.dropTok 5 rfl ?_
 refine seqK fun K11 hK11 => ?_
 refine region ?_
 refine s0 moveA rfl ?_
 refine s0 assignA rfl ?_
 refine nil ?_
 refine hK11 _ ?_
 clear hK11 K11
 refine AWp.ret ?_
 repeat (first | refine xBlock_ret ?_ | refine xThen_ret ?_)
 obtain rfl := Option.some.inj hE
 refine retQ.retF H rfl ⟨rfl, rfl⟩ ?_
 intro id_ o_ he_
 have e_tk2_7 : id_ ≠ tk2_7 := fun e_ => by subst e_; simp_all [Heap.set]
 have e_tk3_8 : id_ ≠ tk3_8 := fun e_ => by subst e_; simp_all [Heap.set]
 rw [← he_]
 simp only [Heap.set] at he_ ⊢
 (repeat' split) <;> simp_all
def Z5_j8   : Option Bool := (Z6 ).bind fun x10 => some x10
def Z5_j18 (s3_13 : Int) (k_next_12 : Int → Option Bool)  : Option Bool := (addC s3_13 (1 : Int)).bind fun x19 => k_next_12 x19
def Z5_l30 (s3_13 : Int) (x21 : (Sl Bs)) (x22 : (Sl Bs)) (k_next_12 : Int → Option Bool) : Nat → Nat → Option Bool
 | 0, _ => none
 | n30 + 1, s6_31 => bif (decide (((s6_31 : Nat) : Int) < ((x21.l.length : Nat) : Int))) then ((x21.l[s6_31]?).bind fun x38 => (x22.l[s6_31]?).bind fun x39 => bif (!(x38 == x39)) then (some false) else ((Z5_l30 s3_13 x21 x22 k_next_12 n30) (s6_31 + 1))) else (Z5_j18 s3_13 k_next_12 )
def Z5_l12 (a0 : TQuery)  : Nat → Int → Option Bool
 | 0, _ => none
 | n12 + 1, s3_13 => bif (decide (s3_13 ≤ ((a0.FOps.l.length : Nat) : Int))) then ((Z46 a0 s3_13).bind fun x21 => (Z12 a0 s3_13).bind fun x22 => bif (!decide (((x21.l.length : Nat) : Int) = ((x22.l.length : Nat) : Int))) then (some false) else (Z5_l30 s3_13 x21 x22 ((Z5_l12 a0 n12)) (x21.l.length + 1) 0)) else (Z5_j8   )
def Z5 (a0 : TQuery) : Option Bool := (Z9 a0).bind fun x4 => bif x4 then ((Z6 ).bind fun x7 => some x7) else (Z5_l12 a0 F0 (-1 : Int))
theorem Z5_walk {a0 : TQuery}   {r : Bool} (hE : Z5 a0 = some r) (H : Heap)  : ACalls Tryd.prog 3 [.agg (TQuery.c a0)] H fun v h' => v = .a (.d (.bool r)) ∧ h' = H := by
 unfold Z5 at hE
 refine ACalls.of_wp (fn := Tryd.f3) (c := _) Tryd.tab_ok (fun _ _ => Tryd.call3 _ _) Tryd.func3 rfl (n := 44) rfl (rs := [.tmp 2]) rfl rfl ?_
 refine seqK fun K1 hK1 => ?_
 refine region ?_
 refine s0 (boxV rfl) rfl ?_
 refine s0 assignA rfl ?_
 refine nil ?_
 refine hK1 _ ?_
 clear hK1 K1
 refine seqK fun K2 hK2 => ?_
 refine seqK fun K3 hK3 => ?_
 refine region ?_
 refine s0 (loadV (TK rfl) rfl rfl rfl) rfl ?_
 obtain ⟨x4, gx4, hE⟩ := bindO_some hE
 refine s0 (callP rfl rfl (fun H => Z9_walk gx4 H)) rfl ?_
 refine nil ?_
 refine hK3 _ ?_
 clear hK3 K3
 refine condE hE rfl (fun hc5 hE => ?_) (fun hc5 hE => ?_)
 ·refine seqK fun K6 hK6 => ?_
  refine region ?_
  obtain ⟨x7, gx7, hE⟩ := bindO_some hE
  refine s0 (callP rfl rfl (fun H => Z6_walk gx7 H)) rfl ?_
  refine s0 assignA rfl ?_
  refine nil ?_
  refine hK6 _ ?_
  clear hK6 K6
  refine AWp.ret ?_
  repeat (first | refine xBlock_ret ?_ | refine xThen_ret ?_)
  obtain rfl := Option.some.inj hE
  refine retQ.retF H rfl ⟨rfl, rfl⟩ ?_
  exact (fun _ _ h => h)
 refine AWp.skip ?_
 refine hK2 _ ?_
 clear hK2 K2
 refine seqJH KeepsT.nil (fun (z : Unit) => []) (fun z => H) (fun z => Z5_j8  = some r) ?_ ?_
 ·intro K8 hK8
  refine seqK fun K11 hK11 => ?_
  refine region ?_
  refine s0 assignA rfl ?_
  refine nil ?_
  refine hK11 _ ?_
  clear hK11 K11
  refine block ?_
  refine loopH (KeepsT.A (k := 1) KeepsT.nil) (fun (z : Nat × Int) => [(3, .a (.d (.int .i64 z.2)))]) (fun z => H) (fun z => z.1) (fun z => Z5_l12 a0 z.1 z.2 = some r) (F0, (-1 : Int)) hE Weak.toA ?_
  rintro ⟨n12, s3_13⟩ hE K12 hK12
  try dsimp only at hE
  cases n12 with
  | zero => cases hE
  | succ n12 =>
    rw [Z5_l12] at hE
    refine seqK fun K14 hK14 => ?_
    refine seqK fun K15 hK15 => ?_
    refine region ?_
    refine s0 moveA rfl ?_
    refine s0 (fieldVA (TK rfl) rfl rfl (TK rfl) rfl rfl) rfl ?_
    refine s0 (loadV (TK rfl) rfl rfl rfl) rfl ?_
    refine sLen (f := TOp.c) (s := a0.FOps) (TK rfl) rfl rfl rfl rfl fun hL16 => ?_
    refine s0 (binI rfl rfl rfl) rfl ?_
    refine nil ?_
    refine hK15 _ ?_
    clear hK15 K15
    refine condE hE rfl (fun hc17 hE => ?_) (fun hc17 hE => ?_)
    ·refine AWp.skip ?_
     refine hK14 _ ?_
     clear hK14 K14
     refine seqJH (KeepsT.A (k := 1) (KeepsT.A (k := 3) KeepsT.nil)) (fun (z : Unit) => []) (fun z => H) (fun z => Z5_j18 s3_13 ((Z5_l12 a0 n12))  = some r) ?_ ?_
     ·intro K18 hK18
      refine block ?_
      refine seqK fun K20 hK20 => ?_
      refine AWp.draw rfl ?_
      refine DOps.s0 (loadV (TK rfl) rfl rfl rfl) rfl ?_
      refine DOps.s0 moveA rfl ?_
      obtain ⟨x21, gx21, hE⟩ := bindO_some hE
      refine DOps.s0 (callP rfl rfl (fun H => Z46_walk gx21 H)) rfl ?_
      refine DOps.s0 (loadV (TK rfl) rfl rfl rfl) rfl ?_
      refine DOps.s0 moveA rfl ?_
      obtain ⟨x22, gx22, hE⟩ := bindO_some hE
      refine DOps.s0 (callP rfl rfl (fun H => Z12_walk gx22 H)) rfl ?_
      refine DOps.s0 assignA rfl ?_
      refine DOps.s0 assignA rfl ?_
      refine DOps.nil (by decide +kernel) ?_
      refine hK20 _ ?_
      clear hK20 K20
      refine seqK fun K23 hK23 => ?_
      refine seqK fun K24 hK24 => ?_
      refine region ?_
      refine s0 moveA rfl ?_
      refine sLen (f := strE) (s := x21) (TK rfl) rfl rfl rfl rfl fun hL25 => ?_
      refine s0 moveA rfl ?_
      refine sLen (f := strE) (s := x22) (TK rfl) rfl rfl rfl rfl fun hL26 => ?_
      refine s0 (binI rfl rfl rfl) rfl ?_
      refine nil ?_
      refine hK24 _ ?_
      clear hK24 K24
      refine condE hE rfl (fun hc27 hE => ?_) (fun hc27 hE => ?_)
      ·refine seqK fun K28 hK28 => ?_
       refine region ?_
       refine s0 assignA rfl ?_
       refine nil ?_
       refine hK28 _ ?_
       clear hK28 K28
       refine AWp.ret ?_
       repeat (first | refine xBlock_ret ?_ | refine xThen_ret ?_)
       obtain rfl := Option.some.inj hE
       refine retQ.retF H rfl ⟨rfl, rfl⟩ ?_
       exact (fun _ _ h => h)
      refine AWp.skip ?_
      refine hK23 _ ?_
      clear hK23 K23
      refine seqK fun K29 hK29 => ?_
      refine region ?_
      refine s0 assignA rfl ?_
      refine nil ?_
      refine hK29 _ ?_
      clear hK29 K29
      refine block ?_
      refine loopH (KeepsT.A (k := 1) (KeepsT.A (k := 3) (KeepsT.A (k := 4) (KeepsT.A (k := 5) KeepsT.nil)))) (fun (z : Nat × Nat) => [(6, .a (.d (.int .i64 ((z.2 : Nat) : Int))))]) (fun z => H) (fun z => z.1) (fun z => Z5_l30 s3_13 x21 x22 ((Z5_l12 a0 n12)) z.1 z.2 = some r) ((x21.l.length + 1), 0) hE Weak.toA ?_
      rintro ⟨n30, s6_31⟩ hE K30 hK30
      try dsimp only at hE
      cases n30 with
      | zero => cases hE
      | succ n30 =>
        rw [Z5_l30] at hE
        refine seqK fun K32 hK32 => ?_
        refine seqK fun K33 hK33 => ?_
        refine region ?_
        refine s0 moveA rfl ?_
        refine s0 moveA rfl ?_
        refine sLen (f := strE) (s := x21) (TK rfl) rfl rfl rfl rfl fun hL34 => ?_
        refine s0 (binI rfl rfl rfl) rfl ?_
        refine nil ?_
        refine hK33 _ ?_
        clear hK33 K33
        refine condE hE rfl (fun hc35 hE => ?_) (fun hc35 hE => ?_)
        ·try dsimp only at hc35
         have hf35 := of_decide_eq_true hc35
         refine AWp.skip ?_
         refine hK32 _ ?_
         clear hK32 K32
         refine seqK fun K36 hK36 => ?_
         refine block ?_
         refine seqK fun K37 hK37 => ?_
         refine AWp.draw rfl ?_
         refine DOps.s0 moveA rfl ?_
         refine DOps.s0 moveA rfl ?_
         obtain ⟨x38, gx38, hE⟩ := bindO_some hE
         refine DOps.s0 (idxMn (f := strE) (n := s6_31) (TK rfl) rfl (TK rfl) rfl rfl rfl gx38) rfl ?_
         refine DOps.s0 (loadV (TK rfl) rfl rfl rfl) rfl ?_
         refine DOps.s0 moveA rfl ?_
         refine DOps.s0 moveA rfl ?_
         obtain ⟨x39, gx39, hE⟩ := bindO_some hE
         refine DOps.s0 (idxMn (f := strE) (n := s6_31) (TK rfl) rfl (TK rfl) rfl rfl rfl gx39) rfl ?_
         refine DOps.s0 (loadV (TK rfl) rfl rfl rfl) rfl ?_
         refine DOps.s0 (binS rfl rfl rfl) rfl ?_
         refine DOps.nil (by decide +kernel) ?_
         refine hK37 _ ?_
         clear hK37 K37
         refine condE hE rfl (fun hc40 hE => ?_) (fun hc40 hE => ?_)
         ·refine seqK fun K41 hK41 => ?_
          refine region ?_
          refine s0 assignA rfl ?_
          refine nil ?_
          refine hK41 _ ?_
          clear hK41 K41
          refine AWp.ret ?_
          repeat (first | refine xBlock_ret ?_ | refine xThen_ret ?_)
          obtain rfl := Option.some.inj hE
          refine retQ.retF H rfl ⟨rfl, rfl⟩ ?_
          exact (fun _ _ h => h)
         refine AWp.skip ?_
         refine hK36 _ ?_
         clear hK36 K36
         refine region ?_
         refine s0 moveA rfl ?_
         refine s0 (addIA rfl rfl) rfl ?_
         refine s0 assignA rfl ?_
         refine nil ?_
         exact hK30 _ (n30, (s6_31 + 1)) Weak.toA hE (Nat.lt_succ_self _)
        refine AWp.exit ?_
        exact hK18 _ () Weak.toA hE
     rintro _ hE
     try dsimp only at hE
     unfold Z5_j18 at hE
     refine region ?_
     refine s0 moveA rfl ?_
     obtain ⟨x19, gx19, hE⟩ := bindO_some hE
     refine s0 (addM rfl rfl gx19) rfl ?_
     refine s0 assignA rfl ?_
     refine nil ?_
     exact hK12 _ (n12, x19) Weak.toA hE (Nat.lt_succ_self _)
    refine AWp.exit ?_
    exact hK8 _ () Weak.toA hE
 rintro _ hE
 try dsimp only at hE
 unfold Z5_j8 at hE
 refine seqK fun K9 hK9 => ?_
 refine region ?_
 obtain ⟨x10, gx10, hE⟩ := bindO_some hE
 refine s0 (callP rfl rfl (fun H => Z6_walk gx10 H)) rfl ?_
 refine s0 assignA rfl ?_
 refine nil ?_
 refine hK9 _ ?_
 clear hK9 K9
 refine AWp.ret ?_
 repeat (first | refine xBlock_ret ?_ | refine xThen_ret ?_)
 obtain rfl := Option.some.inj hE
 refine retQ.retF H rfl ⟨rfl, rfl⟩ ?_
 exact (fun _ _ h => h)
end Go.Proofs

namespace Go.Proofs
open Go Go.Ab
def Z11_q5 (a1 : Int) (k_rec_12 : (Sl TSel) → Int → Option Bool) : List TSel → Option (Unit ⊕ Bool)
 | [] => some (Sum.inl ())
 | h5 :: r5 => on (bif !(decide (a1 ≤ (0 : Int))) then h5 else TSel.zero) fun x13 => guardO (!(decide (a1 ≤ (0 : Int)))) (subC a1 (1 : Int)) (0 : Int) fun x14 => guardO (!(decide (a1 ≤ (0 : Int)))) (k_rec_12 x13.FSels x14) false fun x15 => bif ((decide (a1 ≤ (0 : Int))) || x15) then (some (Sum.inr true)) else (Z11_q5 a1 k_rec_12 (r5) )
theorem Z11_l5_qe {a0 : (Sl TSel)} {a1 : Int} {k_rec_12 : (Sl TSel) → Int → Option Bool}  (Kb5 : (Unit ⊕ Bool) → Option Bool) (hend : ∀ (n5 : Nat) (s5_6 : Nat), Z11_j2    = Kb5 (Sum.inl ())) (hret : ∀ e : Bool, some e = Kb5 (Sum.inr e)) : ∀ (n5 : Nat) (s5_6 : Nat), (0 < n5 ∧ a0.l.length < s5_6 + n5) → Z11_l5 a0 a1 k_rec_12 n5 s5_6 = Option.bind (Z11_q5 a1 k_rec_12 (a0.l.drop s5_6) ) Kb5 := by
 intro n5
 induction n5 with
 | zero => intro s5_6 hn; exact absurd hn.1 (by omega)
 | succ n5 ih5 =>
  intro s5_6 hn
  rw [Z11_l5]
  by_cases hlt : s5_6 < a0.l.length
  ·obtain ⟨h5, hh5⟩ : ∃ x, a0.l[s5_6]? = some x := ⟨_, List.getElem?_eq_getElem hlt⟩
   rw [Q.drop_of hh5, Z11_q5]
   refine Q.condT (Q.ltT hlt) ?_
   refine Q.guardPO hh5 fun x13 hx_x13 => ?_
   refine Q.guardOO rfl fun x14 => ?_
   refine Q.guardOO rfl fun x15 => ?_
   refine Q.condO ?_ ?_
   ·all_goals exact hret _
   all_goals exact ih5 _ ⟨by omega, by omega⟩
  rw [List.drop_of_length_le (by omega), Z11_q5]
  refine Q.condF (Q.ltF hlt) ?_
  exact hend n5 s5_6
def Z11_qn : Nat → (Sl TSel) → Int → Option Bool
 | 0, _, _ => none
 | n + 1, a0, a1 => Option.bind (Z11_q5 a1 (Z11_qn n) a0.l ) fun o5 => match o5 with | Sum.inl _ => (on (()) fun _ => some false) | Sum.inr e5 => (some e5)
theorem Z11_qall : ∀ n : Nat, Z11_n n = Z11_qn n := by
 intro n
 induction n with
 | zero => exact (by funext a0 a1; first | rfl | (rw [Z11_n, Z11_qn]))
 | succ n ih =>
  funext a0 a1
  refine Eq.trans ?_ (Q.some_bind _)
  rw [Z11_n, Z11_qn]
  try rw [ih]
  refine Q.wrapOO fun Kb5 hKb5 => ?_
  refine Z11_l5_qe  Kb5 ?_ ?_ _ _ ⟨Nat.succ_pos _, by omega⟩
  ·intro n5 s5_6
   refine Eq.trans ?_ (hKb5 _).symm
   try dsimp only
   refine Q.wrapPO fun Kj2 hKj2 => ?_
   have hj2 : Z11_j2   = Kj2 () := by
    refine Eq.trans ?_ (hKj2 _).symm
    unfold Z11_j2
    all_goals rfl
   all_goals exact hj2
  intro e5
  refine Eq.trans ?_ (hKb5 _).symm
  try dsimp only
  all_goals rfl
def Z11_q (a0 : (Sl TSel)) (a1 : Int) : Option Bool := Z11_qn F0 a0 a1
theorem Z11_eq (a0 : (Sl TSel)) (a1 : Int) : Z11 a0 a1 = Z11_q a0 a1 := by
 unfold Z11 Z11_q; rw [(Z11_qall F0)]
def Z10_q7 (a1 : Int) (k_rec_13 : (Sl TSel) → Int → Option Int) : List TSel → Int → Option (Int)
 | [], s5_8 => some s5_8
 | h7 :: r7, s5_8 => bif (decide (s5_8 < a1)) then (on (h7) fun x15 => (addC (1 : Int) ((x15.FArgs.l.length : Nat) : Int)).bind fun x16 => on (h7) fun x17 => (addC x16 ((x17.FDirs.l.length : Nat) : Int)).bind fun x18 => on (h7) fun x19 => (subC a1 s5_8).bind fun x20 => (k_rec_13 x19.FSels x20).bind fun x21 => (addC x18 x21).bind fun x22 => (addC s5_8 x22).bind fun x23 => Z10_q7 a1 k_rec_13 (r7) x23) else (some s5_8)
theorem Z10_l7_qe {a0 : (Sl TSel)} {a1 : Int} {k_rec_13 : (Sl TSel) → Int → Option Int}  (Kb7 : (Int) → Option Int) (hend : ∀ (n7 : Nat) (s5_8 : Int) (s6_9 : Nat), Z10_j3   s5_8 = Kb7 s5_8) : ∀ (n7 : Nat) (s5_8 : Int) (s6_9 : Nat), (0 < n7 ∧ a0.l.length < s6_9 + n7) → Z10_l7 a0 a1 k_rec_13 n7 s5_8 s6_9 = Option.bind (Z10_q7 a1 k_rec_13 (a0.l.drop s6_9) s5_8) Kb7 := by
 intro n7
 induction n7 with
 | zero => intro s5_8 s6_9 hn; exact absurd hn.1 (by omega)
 | succ n7 ih7 =>
  intro s5_8 s6_9 hn
  rw [Z10_l7]
  by_cases hlt : s6_9 < a0.l.length
  ·obtain ⟨h7, hh7⟩ : ∃ x, a0.l[s6_9]? = some x := ⟨_, List.getElem?_eq_getElem hlt⟩
   rw [Q.drop_of hh7, Z10_q7]
   refine Q.condAT (Q.ltT hlt) ?_
   refine Q.condO ?_ ?_
   ·refine Q.bindPO hh7 fun x15 hx_x15 => ?_
    refine Q.bindO rfl fun x16 => ?_
    refine Q.bindPO hh7 fun x17 hx_x17 => ?_
    refine Q.bindO rfl fun x18 => ?_
    refine Q.bindPO hh7 fun x19 hx_x19 => ?_
    refine Q.bindO rfl fun x20 => ?_
    refine Q.bindO rfl fun x21 => ?_
    refine Q.bindO rfl fun x22 => ?_
    refine Q.bindO rfl fun x23 => ?_
    all_goals exact ih7 _ _ ⟨by omega, by omega⟩
   all_goals exact hend n7 s5_8 s6_9
  rw [List.drop_of_length_le (by omega), Z10_q7]
  refine Q.condAF (Q.ltF hlt) ?_
  exact hend n7 s5_8 s6_9
def Z10_qn : Nat → (Sl TSel) → Int → Option Int
 | 0, _, _ => none
 | n + 1, a0, a1 => Option.bind (Z10_q7 a1 (Z10_qn n) a0.l (0 : Int)) fun s5_8 => on (s5_8) fun s5_4 => some s5_4
theorem Z10_qall : ∀ n : Nat, Z10_n n = Z10_qn n := by
 intro n
 induction n with
 | zero => exact (by funext a0 a1; first | rfl | (rw [Z10_n, Z10_qn]))
 | succ n ih =>
  funext a0 a1
  refine Eq.trans ?_ (Q.some_bind _)
  rw [Z10_n, Z10_qn]
  try rw [ih]
  refine Q.wrapOO fun Kb7 hKb7 => ?_
  refine Z10_l7_qe  Kb7 ?_ _ _ _ ⟨Nat.succ_pos _, by omega⟩
  intro n7 s5_8 s6_9
  refine Eq.trans ?_ (hKb7 _).symm
  refine Q.wrapPO fun Kj3 hKj3 => ?_
  have hj3 : ∀ (s5_4 : Int), Z10_j3  s5_4 = Kj3 s5_4 := by
   intro s5_4
   refine Eq.trans ?_ (hKj3 _).symm
   unfold Z10_j3
   all_goals rfl
  all_goals exact hj3 _
def Z10_q (a0 : (Sl TSel)) (a1 : Int) : Option Int := Z10_qn F0 a0 a1
theorem Z10_eq (a0 : (Sl TSel)) (a1 : Int) : Z10 a0 a1 = Z10_q a0 a1 := by
 unfold Z10 Z10_q; rw [(Z10_qall F0)]
def Z9_q32  : List TOp → Int → Option (Int ⊕ Bool)
 | [], s3_33 => some (Sum.inl s3_33)
 | h32 :: r32, s3_33 => on (h32) fun x42 => (Z11_q x42.FSels (26 : Int)).bind fun x43 => on (bif !x43 then h32 else TOp.zero) fun x44 => bif (x43 || (decide ((30 : Int) < ((x44.FVars.l.length : Nat) : Int)))) then (some (Sum.inr true)) else (on (h32) fun x47 => (Z10_q x47.FSels (300 : Int)).bind fun x48 => (addC s3_33 x48).bind fun x49 => Z9_q32  (r32) x49)
theorem Z9_l32_qe {a0 : TQuery}  (Kb32 : (Int ⊕ Bool) → Option Bool) (hend : ∀ (n32 : Nat) (s3_33 : Int) (s4_34 : Nat), Z9_j8 a0  s3_33 = Kb32 (Sum.inl s3_33)) (hret : ∀ e : Bool, some e = Kb32 (Sum.inr e)) : ∀ (n32 : Nat) (s3_33 : Int) (s4_34 : Nat), (0 < n32 ∧ a0.FOps.l.length < s4_34 + n32) → Z9_l32 a0 n32 s3_33 s4_34 = Option.bind (Z9_q32  (a0.FOps.l.drop s4_34) s3_33) Kb32 := by
 intro n32
 induction n32 with
 | zero => intro s3_33 s4_34 hn; exact absurd hn.1 (by omega)
 | succ n32 ih32 =>
  intro s3_33 s4_34 hn
  rw [Z9_l32]
  by_cases hlt : s4_34 < a0.FOps.l.length
  ·obtain ⟨h32, hh32⟩ : ∃ x, a0.FOps.l[s4_34]? = some x := ⟨_, List.getElem?_eq_getElem hlt⟩
   rw [Q.drop_of hh32, Z9_q32]
   refine Q.condT (Q.ltT hlt) ?_
   refine Q.bindPO hh32 fun x42 hx_x42 => ?_
   refine Q.bindO (Z11_eq _ _) fun x43 => ?_
   refine Q.guardPO hh32 fun x44 hx_x44 => ?_
   refine Q.condO ?_ ?_
   ·all_goals exact hret _
   refine Q.bindPO hh32 fun x47 hx_x47 => ?_
   refine Q.bindO (Z10_eq _ _) fun x48 => ?_
   refine Q.bindO rfl fun x49 => ?_
   all_goals exact ih32 _ _ ⟨by omega, by omega⟩
  rw [List.drop_of_length_le (by omega), Z9_q32]
  refine Q.condF (Q.ltF hlt) ?_
  exact hend n32 s3_33 s4_34
def Z9_q14  : List TFrag → Int → Option (Int ⊕ Bool)
 | [], s3_15 => some (Sum.inl s3_15)
 | h14 :: r14, s3_15 => on (h14) fun x24 => (Z11_q x24.FSels (26 : Int)).bind fun x25 => bif x25 then (some (Sum.inr true)) else (on (h14) fun x28 => (Z10_q x28.FSels (300 : Int)).bind fun x29 => (addC s3_15 x29).bind fun x30 => Z9_q14  (r14) x30)
theorem Z9_l14_qe {a0 : TQuery}  (Kb14 : (Int ⊕ Bool) → Option Bool) (hend : ∀ (n14 : Nat) (s3_15 : Int) (s5_16 : Nat), Z9_j10   s3_15 = Kb14 (Sum.inl s3_15)) (hret : ∀ e : Bool, some e = Kb14 (Sum.inr e)) : ∀ (n14 : Nat) (s3_15 : Int) (s5_16 : Nat), (0 < n14 ∧ a0.FFrags.l.length < s5_16 + n14) → Z9_l14 a0 n14 s3_15 s5_16 = Option.bind (Z9_q14  (a0.FFrags.l.drop s5_16) s3_15) Kb14 := by
 intro n14
 induction n14 with
 | zero => intro s3_15 s5_16 hn; exact absurd hn.1 (by omega)
 | succ n14 ih14 =>
  intro s3_15 s5_16 hn
  rw [Z9_l14]
  by_cases hlt : s5_16 < a0.FFrags.l.length
  ·obtain ⟨h14, hh14⟩ : ∃ x, a0.FFrags.l[s5_16]? = some x := ⟨_, List.getElem?_eq_getElem hlt⟩
   rw [Q.drop_of hh14, Z9_q14]
   refine Q.condT (Q.ltT hlt) ?_
   refine Q.bindPO hh14 fun x24 hx_x24 => ?_
   refine Q.bindO (Z11_eq _ _) fun x25 => ?_
   refine Q.condO ?_ ?_
   ·all_goals exact hret _
   refine Q.bindPO hh14 fun x28 hx_x28 => ?_
   refine Q.bindO (Z10_eq _ _) fun x29 => ?_
   refine Q.bindO rfl fun x30 => ?_
   all_goals exact ih14 _ _ ⟨by omega, by omega⟩
  rw [List.drop_of_length_le (by omega), Z9_q14]
  refine Q.condF (Q.ltF hlt) ?_
  exact hend n14 s3_15 s5_16
def Z9_q (a0 : TQuery) : Option Bool := bif ((decide ((8 : Int) < ((a0.FOps.l.length : Nat) : Int))) || (decide ((12 : Int) < ((a0.FFrags.l.length : Nat) : Int)))) then (some true) else (Option.bind (Z9_q32  a0.FOps.l (0 : Int)) fun o32 => match o32 with | Sum.inl s3_33 => (on (s3_33) fun s3_9 => Option.bind (Z9_q14  a0.FFrags.l s3_9) fun o14 => match o14 with | Sum.inl s3_15 => (on (s3_15) fun s3_11 => some (decide ((300 : Int) < s3_11))) | Sum.inr e14 => (some e14)) | Sum.inr e32 => (some e32))
theorem Z9_eq (a0 : TQuery) : Z9 a0 = Z9_q a0 := by
 unfold Z9 Z9_q
 refine Eq.trans ?_ (Q.some_bind _)
 refine Q.condO ?_ ?_
 ·all_goals rfl
 refine Q.wrapOO fun Kb32 hKb32 => ?_
 refine Z9_l32_qe  Kb32 ?_ ?_ _ _ _ ⟨Nat.succ_pos _, by omega⟩
 ·intro n32 s3_33 s4_34
  refine Eq.trans ?_ (hKb32 _).symm
  try dsimp only
  refine Q.wrapPO fun Kj8 hKj8 => ?_
  have hj8 : ∀ (s3_9 : Int), Z9_j8 a0 s3_9 = Kj8 s3_9 := by
   intro s3_9
   refine Eq.trans ?_ (hKj8 _).symm
   unfold Z9_j8
   refine Q.wrapOO fun Kb14 hKb14 => ?_
   refine Z9_l14_qe  Kb14 ?_ ?_ _ _ _ ⟨Nat.succ_pos _, by omega⟩
   ·intro n14 s3_15 s5_16
    refine Eq.trans ?_ (hKb14 _).symm
    try dsimp only
    refine Q.wrapPO fun Kj10 hKj10 => ?_
    have hj10 : ∀ (s3_11 : Int), Z9_j10  s3_11 = Kj10 s3_11 := by
     intro s3_11
     refine Eq.trans ?_ (hKj10 _).symm
     unfold Z9_j10
     all_goals rfl
    all_goals exact hj10 _
   intro e14
   refine Eq.trans ?_ (hKb14 _).symm
   try dsimp only
   all_goals rfl
  all_goals exact hj8 _
 intro e32
 refine Eq.trans ?_ (hKb32 _).symm
 try dsimp only
 all_goals rfl
def Z1_q7 (a1 : Bs) : List TFrag → Unit ⊕ ((TFrag × Bool))
 | [] => Sum.inl ()
 | h7 :: r7 => on (h7) fun x15 => bif ((x15.FName == a1)) then (Sum.inr (x15, true)) else (Z1_q7 a1 (r7) )
theorem Z1_l7_qe {a0 : TQuery} {a1 : Bs}  (Kb7 : (Unit ⊕ ((TFrag × Bool))) → Option (TFrag × Bool)) (hend : ∀ (n7 : Nat) (s11_8 : Nat) (y9_l0 : TFrag), Z1_j2   y9_l0 = Kb7 (Sum.inl ())) (hret : ∀ e : (TFrag × Bool), some e = Kb7 (Sum.inr e)) : ∀ (n7 : Nat) (s11_8 : Nat) (y9_l0 : TFrag), (0 < n7 ∧ a0.FFrags.l.length < s11_8 + n7) → Z1_l7 a0 a1 n7 s11_8 y9_l0 = Kb7 (Z1_q7 a1 (a0.FFrags.l.drop s11_8) ) := by
 intro n7
 induction n7 with
 | zero => intro s11_8 y9_l0 hn; exact absurd hn.1 (by omega)
 | succ n7 ih7 =>
  intro s11_8 y9_l0 hn
  rw [Z1_l7]
  by_cases hlt : s11_8 < a0.FFrags.l.length
  ·obtain ⟨h7, hh7⟩ : ∃ x, a0.FFrags.l[s11_8]? = some x := ⟨_, List.getElem?_eq_getElem hlt⟩
   rw [Q.drop_of hh7, Z1_q7]
   refine Q.condT (Q.ltT hlt) ?_
   refine Q.bindP hh7 fun x15 hx_x15 => ?_
   refine Q.condP ?_ ?_
   ·all_goals exact hret _
   all_goals exact ih7 _ _ ⟨by omega, by omega⟩
  rw [List.drop_of_length_le (by omega), Z1_q7]
  refine Q.condF (Q.ltF hlt) ?_
  exact hend n7 s11_8 y9_l0
def Z1_q (a0 : TQuery) (a1 : Bs) : (TFrag × Bool) := on (Z1_q7 a1 a0.FFrags.l ) fun o7 => match o7 with | Sum.inl _ => (on (()) fun _ => ((TFrag.mk ([] : Bs) ([] : Bs) (Sl.nil : Sl TSel)), false)) | Sum.inr e7 => (e7)
theorem Z1_eq (a0 : TQuery) (a1 : Bs) : Z1 a0 a1 = some (Z1_q a0 a1) := by
 unfold Z1 Z1_q
 refine Q.wrapPP fun Kb7 hKb7 => ?_
 refine Z1_l7_qe  Kb7 ?_ ?_ _ _ _ ⟨Nat.succ_pos _, by omega⟩
 ·intro n7 s11_8 y9_l0
  refine Eq.trans ?_ (hKb7 _).symm
  try dsimp only
  refine Q.wrapPP fun Kj2 hKj2 => ?_
  have hj2 : ∀ (y3_l0 : TFrag), Z1_j2  y3_l0 = Kj2 () := by
   intro y3_l0
   refine Eq.trans ?_ (hKj2 _).symm
   unfold Z1_j2
   all_goals rfl
  all_goals exact hj2 _
 intro e7
 refine Eq.trans ?_ (hKb7 _).symm
 try dsimp only
 all_goals rfl
def Z54_q15 (k_rec_29 : TValue → (Sl Bs) → Option (Sl Bs)) : List TValue → (Sl Bs) → Option ((Sl Bs))
 | [], s1_16 => some s1_16
 | h15 :: r15, s1_16 => on (h15) fun x23 => (k_rec_29 x23 s1_16).bind fun x24 => Z54_q15 k_rec_29 (r15) x24
theorem Z54_l15_qe {a0 : TValue} {k_rec_29 : TValue → (Sl Bs) → Option (Sl Bs)}  (Kb15 : ((Sl Bs)) → Option (Sl Bs)) (hend : ∀ (n15 : Nat) (s1_16 : (Sl Bs)) (s22_17 : Nat), Z54_j2   s1_16 = Kb15 s1_16) : ∀ (n15 : Nat) (s1_16 : (Sl Bs)) (s22_17 : Nat), (0 < n15 ∧ a0.FItems.l.length < s22_17 + n15) → Z54_l15 a0 k_rec_29 n15 s1_16 s22_17 = Option.bind (Z54_q15 k_rec_29 (a0.FItems.l.drop s22_17) s1_16) Kb15 := by
 intro n15
 induction n15 with
 | zero => intro s1_16 s22_17 hn; exact absurd hn.1 (by omega)
 | succ n15 ih15 =>
  intro s1_16 s22_17 hn
  rw [Z54_l15]
  by_cases hlt : s22_17 < a0.FItems.l.length
  ·obtain ⟨h15, hh15⟩ : ∃ x, a0.FItems.l[s22_17]? = some x := ⟨_, List.getElem?_eq_getElem hlt⟩
   rw [Q.drop_of hh15, Z54_q15]
   refine Q.condT (Q.ltT hlt) ?_
   refine Q.bindPO hh15 fun x23 hx_x23 => ?_
   refine Q.bindO rfl fun x24 => ?_
   all_goals exact ih15 _ _ ⟨by omega, by omega⟩
  rw [List.drop_of_length_le (by omega), Z54_q15]
  refine Q.condF (Q.ltF hlt) ?_
  exact hend n15 s1_16 s22_17
def Z54_qn : Nat → TValue → (Sl Bs) → Option (Sl Bs)
 | 0, _, _ => none
 | n + 1, a0, a1 => bif (decide (a0.FKind = (7 : Int))) then ((appC 16 a1 (⟨false, [a0.FText]⟩ : Sl Bs)).bind fun x9 => some x9) else (on (bif (decide (a0.FKind = (5 : Int))) then ((decide (a0.FKind = (5 : Int)))) else ((decide (a0.FKind = (6 : Int))))) fun s16_11 => Option.bind (bif s16_11 then (Option.bind (Z54_q15 (Z54_qn n) a0.FItems.l a1) fun s1_16 => some s1_16) else (some a1)) fun s1_3 => some s1_3)
theorem Z54_qall : ∀ n : Nat, Z54_n n = Z54_qn n := by
 intro n
 induction n with
 | zero => exact (by funext a0 a1; first | rfl | (rw [Z54_n, Z54_qn]))
 | succ n ih =>
  funext a0 a1
  refine Eq.trans ?_ (Q.some_bind _)
  rw [Z54_n, Z54_qn]
  try rw [ih]
  refine Q.condO ?_ ?_
  ·refine Q.bindO rfl fun x9 => ?_
   all_goals rfl
  refine Q.wrapPO fun Kj10 hKj10 => ?_
  have hj10 : ∀ (s16_11 : Bool), Z54_j10 a0 a1 (Z54_qn n) s16_11 = Kj10 s16_11 := by
   intro s16_11
   refine Eq.trans ?_ (hKj10 _).symm
   unfold Z54_j10
   refine Q.wrapOO fun Kj2 hKj2 => ?_
   have hj2 : ∀ (s1_3 : (Sl Bs)), Z54_j2  s1_3 = Kj2 s1_3 := by
    intro s1_3
    refine Eq.trans ?_ (hKj2 _).symm
    unfold Z54_j2
    all_goals rfl
   refine Q.condO ?_ ?_
   ·refine Q.wrapOO fun Kb15 hKb15 => ?_
    refine Z54_l15_qe  Kb15 ?_ _ _ _ ⟨Nat.succ_pos _, by omega⟩
    intro n15 s1_16 s22_17
    refine Eq.trans ?_ (hKb15 _).symm
    all_goals exact hj2 _
   all_goals exact hj2 _
  refine Q.condP ?_ ?_
  ·all_goals exact hj10 _
  all_goals exact hj10 _
def Z54_q (a0 : TValue) (a1 : (Sl Bs)) : Option (Sl Bs) := Z54_qn F0 a0 a1
theorem Z54_eq (a0 : TValue) (a1 : (Sl Bs)) : Z54 a0 a1 = Z54_q a0 a1 := by
 unfold Z54 Z54_q; rw [(Z54_qall F0)]
def Z55_q63  : List TArg → (Sl Bs) → Option ((Sl Bs))
 | [], s3_64 => some s3_64
 | h63 :: r63, s3_64 => on (h63) fun x71 => (Z54_q x71.FValue s3_64).bind fun x72 => Z55_q63  (r63) x72
theorem Z55_l63_qe {a0 : TQuery} {s22_10 : Nat} {y11_c2 : (List Bs)} {x19 : TSel} {k_next_8 : (Sl Bs) → Nat → (List Bs) → Option ((Sl Bs) × (List Bs))} {k_rec_16 : TQuery → (Sl TSel) → (List Bs) → (Sl Bs) → Option ((Sl Bs) × (List Bs))}  (Kb63 : ((Sl Bs)) → Option ((Sl Bs) × (List Bs))) (hend : ∀ (n63 : Nat) (s3_64 : (Sl Bs)) (s29_65 : Nat), Z55_j20 a0 s22_10 y11_c2 x19 k_next_8 k_rec_16 s3_64 = Kb63 s3_64) : ∀ (n63 : Nat) (s3_64 : (Sl Bs)) (s29_65 : Nat), (0 < n63 ∧ x19.FArgs.l.length < s29_65 + n63) → Z55_l63 a0 s22_10 y11_c2 x19 k_next_8 k_rec_16 n63 s3_64 s29_65 = Option.bind (Z55_q63  (x19.FArgs.l.drop s29_65) s3_64) Kb63 := by
 intro n63
 induction n63 with
 | zero => intro s3_64 s29_65 hn; exact absurd hn.1 (by omega)
 | succ n63 ih63 =>
  intro s3_64 s29_65 hn
  rw [Z55_l63]
  by_cases hlt : s29_65 < x19.FArgs.l.length
  ·obtain ⟨h63, hh63⟩ : ∃ x, x19.FArgs.l[s29_65]? = some x := ⟨_, List.getElem?_eq_getElem hlt⟩
   rw [Q.drop_of hh63, Z55_q63]
   refine Q.condT (Q.ltT hlt) ?_
   refine Q.bindPO hh63 fun x71 hx_x71 => ?_
   refine Q.bindO (Z54_eq _ _) fun x72 => ?_
   all_goals exact ih63 _ _ ⟨by omega, by omega⟩
  rw [List.drop_of_length_le (by omega), Z55_q63]
  refine Q.condF (Q.ltF hlt) ?_
  exact hend n63 s3_64 s29_65
def Z55_q51  : List TArg → (Sl Bs) → Option ((Sl Bs))
 | [], s3_52 => some s3_52
 | h51 :: r51, s3_52 => on (h51) fun x59 => (Z54_q x59.FValue s3_52).bind fun x60 => Z55_q51  (r51) x60
theorem Z55_l51_qe {s41_41 : Nat} {x48 : TDir} {k_next_39 : (Sl Bs) → Nat → Option ((Sl Bs) × (List Bs))}  (Kb51 : ((Sl Bs)) → Option ((Sl Bs) × (List Bs))) (hend : ∀ (n51 : Nat) (s3_52 : (Sl Bs)) (s48_53 : Nat), Z55_j45 s41_41 k_next_39 s3_52 = Kb51 s3_52) : ∀ (n51 : Nat) (s3_52 : (Sl Bs)) (s48_53 : Nat), (0 < n51 ∧ x48.FArgs.l.length < s48_53 + n51) → Z55_l51 s41_41 x48 k_next_39 n51 s3_52 s48_53 = Option.bind (Z55_q51  (x48.FArgs.l.drop s48_53) s3_52) Kb51 := by
 intro n51
 induction n51 with
 | zero => intro s3_52 s48_53 hn; exact absurd hn.1 (by omega)
 | succ n51 ih51 =>
  intro s3_52 s48_53 hn
  rw [Z55_l51]
  by_cases hlt : s48_53 < x48.FArgs.l.length
  ·obtain ⟨h51, hh51⟩ : ∃ x, x48.FArgs.l[s48_53]? = some x := ⟨_, List.getElem?_eq_getElem hlt⟩
   rw [Q.drop_of hh51, Z55_q51]
   refine Q.condT (Q.ltT hlt) ?_
   refine Q.bindPO hh51 fun x59 hx_x59 => ?_
   refine Q.bindO (Z54_eq _ _) fun x60 => ?_
   all_goals exact ih51 _ _ ⟨by omega, by omega⟩
  rw [List.drop_of_length_le (by omega), Z55_q51]
  refine Q.condF (Q.ltF hlt) ?_
  exact hend n51 s3_52 s48_53
def Z55_q39  : List TDir → (Sl Bs) → Option ((Sl Bs))
 | [], s3_40 => some s3_40
 | h39 :: r39, s3_40 => on (h39) fun x48 => Option.bind (Z55_q51  x48.FArgs.l s3_40) fun s3_52 => on (s3_52) fun s3_46 => Z55_q39  (r39) s3_46
theorem Z55_l39_qe {a0 : TQuery} {s22_10 : Nat} {y11_c2 : (List Bs)} {x19 : TSel} {k_next_8 : (Sl Bs) → Nat → (List Bs) → Option ((Sl Bs) × (List Bs))} {k_rec_16 : TQuery → (Sl TSel) → (List Bs) → (Sl Bs) → Option ((Sl Bs) × (List Bs))}  (Kb39 : ((Sl Bs)) → Option ((Sl Bs) × (List Bs))) (hend : ∀ (n39 : Nat) (s3_40 : (Sl Bs)) (s41_41 : Nat), Z55_j22 a0 s22_10 y11_c2 x19 k_next_8 k_rec_16 s3_40 = Kb39 s3_40) : ∀ (n39 : Nat) (s3_40 : (Sl Bs)) (s41_41 : Nat), (0 < n39 ∧ x19.FDirs.l.length < s41_41 + n39) → Z55_l39 a0 s22_10 y11_c2 x19 k_next_8 k_rec_16 n39 s3_40 s41_41 = Option.bind (Z55_q39  (x19.FDirs.l.drop s41_41) s3_40) Kb39 := by
 intro n39
 induction n39 with
 | zero => intro s3_40 s41_41 hn; exact absurd hn.1 (by omega)
 | succ n39 ih39 =>
  intro s3_40 s41_41 hn
  rw [Z55_l39]
  by_cases hlt : s41_41 < x19.FDirs.l.length
  ·obtain ⟨h39, hh39⟩ : ∃ x, x19.FDirs.l[s41_41]? = some x := ⟨_, List.getElem?_eq_getElem hlt⟩
   rw [Q.drop_of hh39, Z55_q39]
   refine Q.condT (Q.ltT hlt) ?_
   refine Q.bindPO hh39 fun x48 hx_x48 => ?_
   refine Q.wrapOO fun Kb51 hKb51 => ?_
   refine Z55_l51_qe  Kb51 ?_ _ _ _ ⟨Nat.succ_pos _, by omega⟩
   intro n51 s3_52 s48_53
   refine Eq.trans ?_ (hKb51 _).symm
   refine Q.wrapPO fun Kj45 hKj45 => ?_
   have hj45 : ∀ (s3_46 : (Sl Bs)), Z55_j45 s41_41 (Z55_l39 a0 s22_10 y11_c2 x19 k_next_8 k_rec_16 n39) s3_46 = Kj45 s3_46 := by
    intro s3_46
    refine Eq.trans ?_ (hKj45 _).symm
    unfold Z55_j45
    all_goals exact ih39 _ _ ⟨by omega, by omega⟩
   all_goals exact hj45 _
  rw [List.drop_of_length_le (by omega), Z55_q39]
  refine Q.condF (Q.ltF hlt) ?_
  exact hend n39 s3_40 s41_41
def Z55_q8 (a0 : TQuery) (k_rec_16 : TQuery → (Sl TSel) → (List Bs) → (Sl Bs) → Option ((Sl Bs) × (List Bs))) : List TSel → (Sl Bs) → (List Bs) → Option (((Sl Bs) × (List Bs)))
 | [], s3_9, y11_c2 => some (s3_9, y11_c2)
 | h8 :: r8, s3_9, y11_c2 => on (h8) fun x19 => Option.bind (Z55_q63  x19.FArgs.l s3_9) fun s3_64 => on (s3_64) fun s3_21 => Option.bind (Z55_q39  x19.FDirs.l s3_21) fun s3_40 => on (s3_40) fun s3_23 => Option.bind (on (fun (s17_26 : (Sl TSel)) (y27_c2 : (List Bs)) => (k_rec_16 a0 s17_26 y27_c2 s3_23).bind fun x28 => some (x28.1, x28.2)) fun kj25 => bif (decide (x19.FKind = (2 : Int))) then (on (Z1_q a0 x19.FName) fun x32 => bif ((!x32.2) || (y11_c2.contains x19.FName)) then (some (s3_23, y11_c2)) else (kj25 x32.1.FSels (insS y11_c2 x19.FName))) else (kj25 x19.FSels y11_c2)) fun z15 => Z55_q8 a0 k_rec_16 (r8) z15.1 z15.2
theorem Z55_l8_qe {a0 : TQuery} {a1 : (Sl TSel)} {k_rec_16 : TQuery → (Sl TSel) → (List Bs) → (Sl Bs) → Option ((Sl Bs) × (List Bs))}  (Kb8 : (((Sl Bs) × (List Bs))) → Option ((Sl Bs) × (List Bs))) (hend : ∀ (n8 : Nat) (s3_9 : (Sl Bs)) (s22_10 : Nat) (y11_c2 : (List Bs)), Z55_j2   s3_9 y11_c2 = Kb8 (s3_9, y11_c2)) : ∀ (n8 : Nat) (s3_9 : (Sl Bs)) (s22_10 : Nat) (y11_c2 : (List Bs)), (0 < n8 ∧ a1.l.length < s22_10 + n8) → Z55_l8 a0 a1 k_rec_16 n8 s3_9 s22_10 y11_c2 = Option.bind (Z55_q8 a0 k_rec_16 (a1.l.drop s22_10) s3_9 y11_c2) Kb8 := by
 intro n8
 induction n8 with
 | zero => intro s3_9 s22_10 y11_c2 hn; exact absurd hn.1 (by omega)
 | succ n8 ih8 =>
  intro s3_9 s22_10 y11_c2 hn
  rw [Z55_l8]
  by_cases hlt : s22_10 < a1.l.length
  ·obtain ⟨h8, hh8⟩ : ∃ x, a1.l[s22_10]? = some x := ⟨_, List.getElem?_eq_getElem hlt⟩
   rw [Q.drop_of hh8, Z55_q8]
   refine Q.condT (Q.ltT hlt) ?_
   refine Q.bindPO hh8 fun x19 hx_x19 => ?_
   refine Q.wrapOO fun Kb63 hKb63 => ?_
   refine Z55_l63_qe  Kb63 ?_ _ _ _ ⟨Nat.succ_pos _, by omega⟩
   intro n63 s3_64 s29_65
   refine Eq.trans ?_ (hKb63 _).symm
   refine Q.wrapPO fun Kj20 hKj20 => ?_
   have hj20 : ∀ (s3_21 : (Sl Bs)), Z55_j20 a0 s22_10 y11_c2 x19 (Z55_l8 a0 a1 k_rec_16 n8) k_rec_16 s3_21 = Kj20 s3_21 := by
    intro s3_21
    refine Eq.trans ?_ (hKj20 _).symm
    unfold Z55_j20
    refine Q.wrapOO fun Kb39 hKb39 => ?_
    refine Z55_l39_qe  Kb39 ?_ _ _ _ ⟨Nat.succ_pos _, by omega⟩
    intro n39 s3_40 s41_41
    refine Eq.trans ?_ (hKb39 _).symm
    refine Q.wrapPO fun Kj22 hKj22 => ?_
    have hj22 : ∀ (s3_23 : (Sl Bs)), Z55_j22 a0 s22_10 y11_c2 x19 (Z55_l8 a0 a1 k_rec_16 n8) k_rec_16 s3_23 = Kj22 s3_23 := by
     intro s3_23
     refine Eq.trans ?_ (hKj22 _).symm
     unfold Z55_j22
     refine Q.wrapOO fun Kj15 hKj15 => ?_
     have hj15 : ∀ (s3_16 : (Sl Bs)) (y17_c2 : (List Bs)), Z55_j15 s22_10 (Z55_l8 a0 a1 k_rec_16 n8) s3_16 y17_c2 = Kj15 (s3_16, y17_c2) := by
      intro s3_16 y17_c2
      refine Eq.trans ?_ (hKj15 _).symm
      try dsimp only
      unfold Z55_j15
      all_goals exact ih8 _ _ _ ⟨by omega, by omega⟩
     refine Q.mixO fun kj25 hkj25 => ?_
     have hj25 : ∀ (s17_26 : (Sl TSel)) (y27_c2 : (List Bs)), Z55_j25 a0 s22_10 s3_23 (Z55_l8 a0 a1 k_rec_16 n8) k_rec_16 s17_26 y27_c2 = Option.bind (kj25 s17_26 y27_c2) Kj15 := by
      intro s17_26 y27_c2
      unfold Z55_j25
      rw [hkj25]
      try dsimp only
      refine Q.bindO rfl fun x28 => ?_
      all_goals exact hj15 _ _
     refine Q.condO ?_ ?_
     ·refine Q.bindPO (Z1_eq _ _) fun x32 hx_x32 => ?_
      refine Q.condO ?_ ?_
      ·all_goals exact hj15 _ _
      all_goals exact hj25 _ _
     all_goals exact hj25 _ _
    all_goals exact hj22 _
   all_goals exact hj20 _
  rw [List.drop_of_length_le (by omega), Z55_q8]
  refine Q.condF (Q.ltF hlt) ?_
  exact hend n8 s3_9 s22_10 y11_c2
def Z55_qn : Nat → TQuery → (Sl TSel) → (List Bs) → (Sl Bs) → Option ((Sl Bs) × (List Bs))
 | 0, _, _, _, _ => none
 | n + 1, a0, a1, a2, a3 => Option.bind (Z55_q8 a0 (Z55_qn n) a1.l a3 a2) fun z8 => on ((z8.1, z8.2)) fun z2 => some (z2.1, z2.2)
theorem Z55_qall : ∀ n : Nat, Z55_n n = Z55_qn n := by
 intro n
 induction n with
 | zero => exact (by funext a0 a1 a2 a3; first | rfl | (rw [Z55_n, Z55_qn]))
 | succ n ih =>
  funext a0 a1 a2 a3
  refine Eq.trans ?_ (Q.some_bind _)
  rw [Z55_n, Z55_qn]
  try rw [ih]
  refine Q.wrapOO fun Kb8 hKb8 => ?_
  refine Z55_l8_qe  Kb8 ?_ _ _ _ _ ⟨Nat.succ_pos _, by omega⟩
  intro n8 s3_9 s22_10 y11_c2
  refine Eq.trans ?_ (hKb8 _).symm
  try dsimp only
  refine Q.wrapPO fun Kj2 hKj2 => ?_
  have hj2 : ∀ (s3_3 : (Sl Bs)) (y4_c2 : (List Bs)), Z55_j2  s3_3 y4_c2 = Kj2 (s3_3, y4_c2) := by
   intro s3_3 y4_c2
   refine Eq.trans ?_ (hKj2 _).symm
   try dsimp only
   unfold Z55_j2
   all_goals rfl
  all_goals exact hj2 _ _
def Z55_q (a0 : TQuery) (a1 : (Sl TSel)) (a2 : (List Bs)) (a3 : (Sl Bs)) : Option ((Sl Bs) × (List Bs)) := Z55_qn F0 a0 a1 a2 a3
theorem Z55_eq (a0 : TQuery) (a1 : (Sl TSel)) (a2 : (List Bs)) (a3 : (Sl Bs)) : Z55 a0 a1 a2 a3 = Z55_q a0 a1 a2 a3 := by
 unfold Z55 Z55_q; rw [(Z55_qall F0)]
def Z31_q6 (a1 : Bs) : List Bs → Nat → Unit ⊕ Int
 | [], s8_7 => Sum.inl ()
 | h6 :: r6, s8_7 => on (h6) fun x14 => bif ((a1 == x14)) then (Sum.inr ((s8_7 : Nat) : Int)) else (Z31_q6 a1 (r6) (s8_7 + 1) )
theorem Z31_l6_qe {a0 : (Sl Bs)} {a1 : Bs}  (Kb6 : (Unit ⊕ Int) → Option Int) (hend : ∀ (n6 : Nat) (s8_7 : Nat), Z31_j2    = Kb6 (Sum.inl ())) (hret : ∀ e : Int, some e = Kb6 (Sum.inr e)) : ∀ (n6 : Nat) (s8_7 : Nat), (0 < n6 ∧ a0.l.length < s8_7 + n6) → Z31_l6 a0 a1 n6 s8_7 = Kb6 (Z31_q6 a1 (a0.l.drop s8_7) s8_7 ) := by
 intro n6
 induction n6 with
 | zero => intro s8_7 hn; exact absurd hn.1 (by omega)
 | succ n6 ih6 =>
  intro s8_7 hn
  rw [Z31_l6]
  by_cases hlt : s8_7 < a0.l.length
  ·obtain ⟨h6, hh6⟩ : ∃ x, a0.l[s8_7]? = some x := ⟨_, List.getElem?_eq_getElem hlt⟩
   rw [Q.drop_of hh6, Z31_q6]
   refine Q.condT (Q.ltT hlt) ?_
   refine Q.bindP hh6 fun x14 hx_x14 => ?_
   refine Q.condP ?_ ?_
   ·all_goals exact hret _
   all_goals exact ih6 _ ⟨by omega, by omega⟩
  rw [List.drop_of_length_le (by omega), Z31_q6]
  refine Q.condF (Q.ltF hlt) ?_
  exact hend n6 s8_7
def Z31_q (a0 : (Sl Bs)) (a1 : Bs) : Int := on (Z31_q6 a1 a0.l 0 ) fun o6 => match o6 with | Sum.inl _ => (on (()) fun _ => (-1 : Int)) | Sum.inr e6 => (e6)
theorem Z31_eq (a0 : (Sl Bs)) (a1 : Bs) : Z31 a0 a1 = some (Z31_q a0 a1) := by
 unfold Z31 Z31_q
 refine Q.wrapPP fun Kb6 hKb6 => ?_
 refine Z31_l6_qe  Kb6 ?_ ?_ _ _ ⟨Nat.succ_pos _, by omega⟩
 ·intro n6 s8_7
  refine Eq.trans ?_ (hKb6 _).symm
  try dsimp only
  refine Q.wrapPP fun Kj2 hKj2 => ?_
  have hj2 : Z31_j2   = Kj2 () := by
   refine Eq.trans ?_ (hKj2 _).symm
   unfold Z31_j2
   all_goals rfl
  all_goals exact hj2
 intro e6
 refine Eq.trans ?_ (hKb6 _).symm
 try dsimp only
 all_goals rfl
def Z27_q (a0 : (Sl Bs)) (a1 : Bs) : Bool := on (Z31_q a0 a1) fun x3 => (decide ((0 : Int) ≤ x3))
theorem Z27_eq (a0 : (Sl Bs)) (a1 : Bs) : Z27 a0 a1 = some (Z27_q a0 a1) := by
 unfold Z27 Z27_q
 refine Q.bindP (Z31_eq _ _) fun x3 hx_x3 => ?_
 all_goals rfl
end Go.Proofs

namespace Go.Proofs
open Go Go.Ab
def Z13_q5 (a1 : Bs) : List Bs → Unit ⊕ Bool
 | [] => Sum.inl ()
 | h5 :: r5 => on (h5) fun x13 => bif ((x13 == a1)) then (Sum.inr true) else (Z13_q5 a1 (r5) )
theorem Z13_l5_qe {a0 : (Sl Bs)} {a1 : Bs}  (Kb5 : (Unit ⊕ Bool) → Option Bool) (hend : ∀ (n5 : Nat) (s5_6 : Nat), Z13_j2    = Kb5 (Sum.inl ())) (hret : ∀ e : Bool, some e = Kb5 (Sum.inr e)) : ∀ (n5 : Nat) (s5_6 : Nat), (0 < n5 ∧ a0.l.length < s5_6 + n5) → Z13_l5 a0 a1 n5 s5_6 = Kb5 (Z13_q5 a1 (a0.l.drop s5_6) ) := by
 intro n5
 induction n5 with
 | zero => intro s5_6 hn; exact absurd hn.1 (by omega)
 | succ n5 ih5 =>
  intro s5_6 hn
  rw [Z13_l5]
  by_cases hlt : s5_6 < a0.l.length
  ·obtain ⟨h5, hh5⟩ : ∃ x, a0.l[s5_6]? = some x := ⟨_, List.getElem?_eq_getElem hlt⟩
   rw [Q.drop_of hh5, Z13_q5]
   refine Q.condT (Q.ltT hlt) ?_
   refine Q.bindP hh5 fun x13 hx_x13 => ?_
   refine Q.condP ?_ ?_
   ·all_goals exact hret _
   all_goals exact ih5 _ ⟨by omega, by omega⟩
  rw [List.drop_of_length_le (by omega), Z13_q5]
  refine Q.condF (Q.ltF hlt) ?_
  exact hend n5 s5_6
def Z13_q (a0 : (Sl Bs)) (a1 : Bs) : Bool := on (Z13_q5 a1 a0.l ) fun o5 => match o5 with | Sum.inl _ => (on (()) fun _ => false) | Sum.inr e5 => (e5)
theorem Z13_eq (a0 : (Sl Bs)) (a1 : Bs) : Z13 a0 a1 = some (Z13_q a0 a1) := by
 unfold Z13 Z13_q
 refine Q.wrapPP fun Kb5 hKb5 => ?_
 refine Z13_l5_qe  Kb5 ?_ ?_ _ _ ⟨Nat.succ_pos _, by omega⟩
 ·intro n5 s5_6
  refine Eq.trans ?_ (hKb5 _).symm
  try dsimp only
  refine Q.wrapPP fun Kj2 hKj2 => ?_
  have hj2 : Z13_j2   = Kj2 () := by
   refine Eq.trans ?_ (hKj2 _).symm
   unfold Z13_j2
   all_goals rfl
  all_goals exact hj2
 intro e5
 refine Eq.trans ?_ (hKb5 _).symm
 try dsimp only
 all_goals rfl
def Z14_q16 (a0 : TValue) (k_rec_31 : TValue → (Sl Bs) → Option (Sl Bs)) : List TValue → (Sl Bs) → Option ((Sl Bs))
 | [], s1_17 => some s1_17
 | h16 :: r16, s1_17 => bif ((decide (a0.FKind = (5 : Int))) || (decide (a0.FKind = (6 : Int)))) then (on (h16) fun x24 => (k_rec_31 x24 s1_17).bind fun x25 => Z14_q16 a0 k_rec_31 (r16) x25) else (some s1_17)
theorem Z14_l16_qe {a0 : TValue} {k_rec_31 : TValue → (Sl Bs) → Option (Sl Bs)}  (Kb16 : ((Sl Bs)) → Option (Sl Bs)) (hend : ∀ (n16 : Nat) (s1_17 : (Sl Bs)) (s5_18 : Nat), Z14_j12   s1_17 = Kb16 s1_17) : ∀ (n16 : Nat) (s1_17 : (Sl Bs)) (s5_18 : Nat), (0 < n16 ∧ a0.FItems.l.length < s5_18 + n16) → Z14_l16 a0 k_rec_31 n16 s1_17 s5_18 = Option.bind (Z14_q16 a0 k_rec_31 (a0.FItems.l.drop s5_18) s1_17) Kb16 := by
 intro n16
 induction n16 with
 | zero => intro s1_17 s5_18 hn; exact absurd hn.1 (by omega)
 | succ n16 ih16 =>
  intro s1_17 s5_18 hn
  rw [Z14_l16]
  by_cases hlt : s5_18 < a0.FItems.l.length
  ·obtain ⟨h16, hh16⟩ : ∃ x, a0.FItems.l[s5_18]? = some x := ⟨_, List.getElem?_eq_getElem hlt⟩
   rw [Q.drop_of hh16, Z14_q16]
   refine Q.condAT (Q.ltT hlt) ?_
   refine Q.condO ?_ ?_
   ·refine Q.bindPO hh16 fun x24 hx_x24 => ?_
    refine Q.bindO rfl fun x25 => ?_
    all_goals exact ih16 _ _ ⟨by omega, by omega⟩
   all_goals exact hend n16 s1_17 s5_18
  rw [List.drop_of_length_le (by omega), Z14_q16]
  refine Q.condAF (Q.ltF hlt) ?_
  exact hend n16 s1_17 s5_18
def Z14_qn : Nat → TValue → (Sl Bs) → Option (Sl Bs)
 | 0, _, _ => none
 | n + 1, a0, a1 => bif (decide (a0.FKind = (7 : Int))) then (on (Z13_q a1 a0.FText) fun x9 => Option.bind (bif (!x9) then ((appC 16 a1 (⟨false, [a0.FText]⟩ : Sl Bs)).bind fun x11 => some x11) else (some a1)) fun s1_6 => some s1_6) else (Option.bind (Z14_q16 a0 (Z14_qn n) a0.FItems.l a1) fun s1_17 => on (s1_17) fun s1_13 => some s1_13)
theorem Z14_qall : ∀ n : Nat, Z14_n n = Z14_qn n := by
 intro n
 induction n with
 | zero => exact (by funext a0 a1; first | rfl | (rw [Z14_n, Z14_qn]))
 | succ n ih =>
  funext a0 a1
  refine Eq.trans ?_ (Q.some_bind _)
  rw [Z14_n, Z14_qn]
  try rw [ih]
  refine Q.condO ?_ ?_
  ·refine Q.bindPO (Z13_eq _ _) fun x9 hx_x9 => ?_
   refine Q.wrapOO fun Kj5 hKj5 => ?_
   have hj5 : ∀ (s1_6 : (Sl Bs)), Z14_j5  s1_6 = Kj5 s1_6 := by
    intro s1_6
    refine Eq.trans ?_ (hKj5 _).symm
    unfold Z14_j5
    all_goals rfl
   refine Q.condO ?_ ?_
   ·refine Q.bindO rfl fun x11 => ?_
    all_goals exact hj5 _
   all_goals exact hj5 _
  refine Q.wrapOO fun Kb16 hKb16 => ?_
  refine Z14_l16_qe  Kb16 ?_ _ _ _ ⟨Nat.succ_pos _, by omega⟩
  intro n16 s1_17 s5_18
  refine Eq.trans ?_ (hKb16 _).symm
  refine Q.wrapPO fun Kj12 hKj12 => ?_
  have hj12 : ∀ (s1_13 : (Sl Bs)), Z14_j12  s1_13 = Kj12 s1_13 := by
   intro s1_13
   refine Eq.trans ?_ (hKj12 _).symm
   unfold Z14_j12
   all_goals rfl
  all_goals exact hj12 _
def Z14_q (a0 : TValue) (a1 : (Sl Bs)) : Option (Sl Bs) := Z14_qn F0 a0 a1
theorem Z14_eq (a0 : TValue) (a1 : (Sl Bs)) : Z14 a0 a1 = Z14_q a0 a1 := by
 unfold Z14 Z14_q; rw [(Z14_qall F0)]
def Z8_q6 (a1 : Bs) : List TFrag → Unit ⊕ ((TFrag × Bool))
 | [] => Sum.inl ()
 | h6 :: r6 => on (h6) fun x15 => bif ((x15.FName == a1)) then (on (h6) fun x18 => Sum.inr (x18, true)) else (Z8_q6 a1 (r6) )
theorem Z8_l6_qe {a0 : TQuery} {a1 : Bs}  (Kb6 : (Unit ⊕ ((TFrag × Bool))) → Option (TFrag × Bool)) (hend : ∀ (n6 : Nat) (s6_7 : Nat) (y8_l0 : TFrag), Z8_j2   y8_l0 = Kb6 (Sum.inl ())) (hret : ∀ e : (TFrag × Bool), some e = Kb6 (Sum.inr e)) : ∀ (n6 : Nat) (s6_7 : Nat) (y8_l0 : TFrag), (0 < n6 ∧ a0.FFrags.l.length < s6_7 + n6) → Z8_l6 a0 a1 n6 s6_7 y8_l0 = Kb6 (Z8_q6 a1 (a0.FFrags.l.drop s6_7) ) := by
 intro n6
 induction n6 with
 | zero => intro s6_7 y8_l0 hn; exact absurd hn.1 (by omega)
 | succ n6 ih6 =>
  intro s6_7 y8_l0 hn
  rw [Z8_l6]
  by_cases hlt : s6_7 < a0.FFrags.l.length
  ·obtain ⟨h6, hh6⟩ : ∃ x, a0.FFrags.l[s6_7]? = some x := ⟨_, List.getElem?_eq_getElem hlt⟩
   rw [Q.drop_of hh6, Z8_q6]
   refine Q.condT (Q.ltT hlt) ?_
   refine Q.bindP hh6 fun x15 hx_x15 => ?_
   refine Q.condP ?_ ?_
   ·refine Q.bindP hh6 fun x18 hx_x18 => ?_
    all_goals exact hret _
   all_goals exact ih6 _ _ ⟨by omega, by omega⟩
  rw [List.drop_of_length_le (by omega), Z8_q6]
  refine Q.condF (Q.ltF hlt) ?_
  exact hend n6 s6_7 y8_l0
def Z8_q (a0 : TQuery) (a1 : Bs) : (TFrag × Bool) := on (Z8_q6 a1 a0.FFrags.l ) fun o6 => match o6 with | Sum.inl _ => (on (()) fun _ => ((TFrag.mk ([] : Bs) ([] : Bs) (Sl.nil : Sl TSel)), false)) | Sum.inr e6 => (e6)
theorem Z8_eq (a0 : TQuery) (a1 : Bs) : Z8 a0 a1 = some (Z8_q a0 a1) := by
 unfold Z8 Z8_q
 refine Q.wrapPP fun Kb6 hKb6 => ?_
 refine Z8_l6_qe  Kb6 ?_ ?_ _ _ _ ⟨Nat.succ_pos _, by omega⟩
 ·intro n6 s6_7 y8_l0
  refine Eq.trans ?_ (hKb6 _).symm
  try dsimp only
  refine Q.wrapPP fun Kj2 hKj2 => ?_
  have hj2 : ∀ (y3_l0 : TFrag), Z8_j2  y3_l0 = Kj2 () := by
   intro y3_l0
   refine Eq.trans ?_ (hKj2 _).symm
   unfold Z8_j2
   all_goals rfl
  all_goals exact hj2 _
 intro e6
 refine Eq.trans ?_ (hKb6 _).symm
 try dsimp only
 all_goals rfl
def Z15_q65  : List TArg → (Sl Bs) → Option ((Sl Bs))
 | [], s2_66 => some s2_66
 | h65 :: r65, s2_66 => on (h65) fun x73 => (Z14_q x73.FValue s2_66).bind fun x74 => Z15_q65  (r65) x74
theorem Z15_l65_qe {a0 : TQuery} {s3_9 : (Sl Bs)} {s10_10 : Nat} {x19 : TSel} {k_next_7 : (Sl Bs) → (Sl Bs) → Nat → Option ((Sl Bs) × (Sl Bs))} {k_rec_18 : TQuery → (Sl TSel) → (Sl Bs) → (Sl Bs) → Option ((Sl Bs) × (Sl Bs))}  (Kb65 : ((Sl Bs)) → Option ((Sl Bs) × (Sl Bs))) (hend : ∀ (n65 : Nat) (s2_66 : (Sl Bs)) (s12_67 : Nat), Z15_j20 a0 s3_9 s10_10 x19 k_next_7 k_rec_18 s2_66 = Kb65 s2_66) : ∀ (n65 : Nat) (s2_66 : (Sl Bs)) (s12_67 : Nat), (0 < n65 ∧ x19.FArgs.l.length < s12_67 + n65) → Z15_l65 a0 s3_9 s10_10 x19 k_next_7 k_rec_18 n65 s2_66 s12_67 = Option.bind (Z15_q65  (x19.FArgs.l.drop s12_67) s2_66) Kb65 := by
 intro n65
 induction n65 with
 | zero => intro s2_66 s12_67 hn; exact absurd hn.1 (by omega)
 | succ n65 ih65 =>
  intro s2_66 s12_67 hn
  rw [Z15_l65]
  by_cases hlt : s12_67 < x19.FArgs.l.length
  ·obtain ⟨h65, hh65⟩ : ∃ x, x19.FArgs.l[s12_67]? = some x := ⟨_, List.getElem?_eq_getElem hlt⟩
   rw [Q.drop_of hh65, Z15_q65]
   refine Q.condT (Q.ltT hlt) ?_
   refine Q.bindPO hh65 fun x73 hx_x73 => ?_
   refine Q.bindO (Z14_eq _ _) fun x74 => ?_
   all_goals exact ih65 _ _ ⟨by omega, by omega⟩
  rw [List.drop_of_length_le (by omega), Z15_q65]
  refine Q.condF (Q.ltF hlt) ?_
  exact hend n65 s2_66 s12_67
def Z15_q52 (h42 : TDir) : List TArg → (Sl Bs) → Option ((Sl Bs))
 | [], s2_53 => some s2_53
 | h52 :: r52, s2_53 => on (h42) fun x61 => on (h52) fun x62 => (Z14_q x62.FValue s2_53).bind fun x63 => Z15_q52 h42 (r52) x63
theorem Z15_l52_qe {x19 : TSel} {s13_44 : Nat} {k_next_42 : (Sl Bs) → Nat → Option ((Sl Bs) × (Sl Bs))} {h42 : TDir} (hh42 : x19.FDirs.l[s13_44]? = some h42) (Kb52 : ((Sl Bs)) → Option ((Sl Bs) × (Sl Bs))) (hend : ∀ (n52 : Nat) (s2_53 : (Sl Bs)) (s14_54 : Nat), Z15_j49 s13_44 k_next_42 s2_53 = Kb52 s2_53) : ∀ (n52 : Nat) (s2_53 : (Sl Bs)) (s14_54 : Nat), (0 < n52 ∧ h42.FArgs.l.length < s14_54 + n52) → Z15_l52 x19 s13_44 k_next_42 n52 s2_53 s14_54 = Option.bind (Z15_q52 h42 (h42.FArgs.l.drop s14_54) s2_53) Kb52 := by
 intro n52
 induction n52 with
 | zero => intro s2_53 s14_54 hn; exact absurd hn.1 (by omega)
 | succ n52 ih52 =>
  intro s2_53 s14_54 hn
  rw [Z15_l52]
  refine Q.preB hh42 fun x57 hx_x57 => ?_
  subst hx_x57
  by_cases hlt : s14_54 < x57.FArgs.l.length
  ·obtain ⟨h52, hh52⟩ : ∃ x, x57.FArgs.l[s14_54]? = some x := ⟨_, List.getElem?_eq_getElem hlt⟩
   rw [Q.drop_of hh52, Z15_q52]
   refine Q.condT (Q.ltT hlt) ?_
   refine Q.bindPO hh42 fun x61 hx_x61 => ?_
   refine Q.bindPO (by first | exact hh52 | (simp only [hx_x61]; exact hh52) | (simp only [hx_x61] at hh52 ⊢; exact hh52)) fun x62 hx_x62 => ?_
   refine Q.bindO (Z14_eq _ _) fun x63 => ?_
   all_goals exact ih52 _ _ ⟨by omega, by omega⟩
  rw [List.drop_of_length_le (by omega), Z15_q52]
  refine Q.condF (Q.ltF hlt) ?_
  exact hend n52 s2_53 s14_54
def Z15_q42  : List TDir → (Sl Bs) → Option ((Sl Bs))
 | [], s2_43 => some s2_43
 | h42 :: r42, s2_43 => Option.bind (Z15_q52 h42 h42.FArgs.l s2_43) fun s2_53 => on (s2_53) fun s2_50 => Z15_q42  (r42) s2_50
theorem Z15_l42_qe {a0 : TQuery} {s3_9 : (Sl Bs)} {s10_10 : Nat} {x19 : TSel} {k_next_7 : (Sl Bs) → (Sl Bs) → Nat → Option ((Sl Bs) × (Sl Bs))} {k_rec_18 : TQuery → (Sl TSel) → (Sl Bs) → (Sl Bs) → Option ((Sl Bs) × (Sl Bs))}  (Kb42 : ((Sl Bs)) → Option ((Sl Bs) × (Sl Bs))) (hend : ∀ (n42 : Nat) (s2_43 : (Sl Bs)) (s13_44 : Nat), Z15_j22 a0 s3_9 s10_10 x19 k_next_7 k_rec_18 s2_43 = Kb42 s2_43) : ∀ (n42 : Nat) (s2_43 : (Sl Bs)) (s13_44 : Nat), (0 < n42 ∧ x19.FDirs.l.length < s13_44 + n42) → Z15_l42 a0 s3_9 s10_10 x19 k_next_7 k_rec_18 n42 s2_43 s13_44 = Option.bind (Z15_q42  (x19.FDirs.l.drop s13_44) s2_43) Kb42 := by
 intro n42
 induction n42 with
 | zero => intro s2_43 s13_44 hn; exact absurd hn.1 (by omega)
 | succ n42 ih42 =>
  intro s2_43 s13_44 hn
  rw [Z15_l42]
  by_cases hlt : s13_44 < x19.FDirs.l.length
  ·obtain ⟨h42, hh42⟩ : ∃ x, x19.FDirs.l[s13_44]? = some x := ⟨_, List.getElem?_eq_getElem hlt⟩
   rw [Q.drop_of hh42, Z15_q42]
   refine Q.condT (Q.ltT hlt) ?_
   refine Q.wrapOO fun Kb52 hKb52 => ?_
   refine Z15_l52_qe hh42 Kb52 ?_ _ _ _ ⟨by rw [hh42]; exact Nat.succ_pos _, by rw [hh42]; simp only [Option.elim]; omega⟩
   intro n52 s2_53 s14_54
   refine Eq.trans ?_ (hKb52 _).symm
   refine Q.wrapPO fun Kj49 hKj49 => ?_
   have hj49 : ∀ (s2_50 : (Sl Bs)), Z15_j49 s13_44 (Z15_l42 a0 s3_9 s10_10 x19 k_next_7 k_rec_18 n42) s2_50 = Kj49 s2_50 := by
    intro s2_50
    refine Eq.trans ?_ (hKj49 _).symm
    unfold Z15_j49
    all_goals exact ih42 _ _ ⟨by omega, by omega⟩
   all_goals exact hj49 _
  rw [List.drop_of_length_le (by omega), Z15_q42]
  refine Q.condF (Q.ltF hlt) ?_
  exact hend n42 s2_43 s13_44
def Z15_q7 (a0 : TQuery) (k_rec_18 : TQuery → (Sl TSel) → (Sl Bs) → (Sl Bs) → Option ((Sl Bs) × (Sl Bs))) : List TSel → (Sl Bs) → (Sl Bs) → Option (((Sl Bs) × (Sl Bs)))
 | [], s2_8, s3_9 => some (s2_8, s3_9)
 | h7 :: r7, s2_8, s3_9 => on (h7) fun x19 => Option.bind (Z15_q65  x19.FArgs.l s2_8) fun s2_66 => on (s2_66) fun s2_21 => Option.bind (Z15_q42  x19.FDirs.l s2_21) fun s2_43 => on (s2_43) fun s2_23 => Option.bind (on (fun (s3_26 : (Sl Bs)) (s15_27 : (Sl TSel)) => (k_rec_18 a0 s15_27 s2_23 s3_26).bind fun x29 => some (x29.1, x29.2)) fun kj25 => bif (decide (x19.FKind = (2 : Int))) then (on (Z8_q a0 x19.FName) fun x34 => on (bif !(!x34.2) then Z13_q s3_9 x19.FName else false) fun x37 => bif ((!x34.2) || x37) then (some (s2_23, s3_9)) else ((appC 16 s3_9 (⟨false, [x19.FName]⟩ : Sl Bs)).bind fun x40 => kj25 x40 x34.1.FSels)) else (kj25 s3_9 x19.FSels)) fun z15 => Z15_q7 a0 k_rec_18 (r7) z15.1 z15.2
theorem Z15_l7_qe {a0 : TQuery} {a1 : (Sl TSel)} {k_rec_18 : TQuery → (Sl TSel) → (Sl Bs) → (Sl Bs) → Option ((Sl Bs) × (Sl Bs))}  (Kb7 : (((Sl Bs) × (Sl Bs))) → Option ((Sl Bs) × (Sl Bs))) (hend : ∀ (n7 : Nat) (s2_8 : (Sl Bs)) (s3_9 : (Sl Bs)) (s10_10 : Nat), Z15_j2   s2_8 s3_9 = Kb7 (s2_8, s3_9)) : ∀ (n7 : Nat) (s2_8 : (Sl Bs)) (s3_9 : (Sl Bs)) (s10_10 : Nat), (0 < n7 ∧ a1.l.length < s10_10 + n7) → Z15_l7 a0 a1 k_rec_18 n7 s2_8 s3_9 s10_10 = Option.bind (Z15_q7 a0 k_rec_18 (a1.l.drop s10_10) s2_8 s3_9) Kb7 := by
 intro n7
 induction n7 with
 | zero => intro s2_8 s3_9 s10_10 hn; exact absurd hn.1 (by omega)
 | succ n7 ih7 =>
  intro s2_8 s3_9 s10_10 hn
  rw [Z15_l7]
  by_cases hlt : s10_10 < a1.l.length
  ·obtain ⟨h7, hh7⟩ : ∃ x, a1.l[s10_10]? = some x := ⟨_, List.getElem?_eq_getElem hlt⟩
   rw [Q.drop_of hh7, Z15_q7]
   refine Q.condT (Q.ltT hlt) ?_
   refine Q.bindPO hh7 fun x19 hx_x19 => ?_
   refine Q.wrapOO fun Kb65 hKb65 => ?_
   refine Z15_l65_qe  Kb65 ?_ _ _ _ ⟨Nat.succ_pos _, by omega⟩
   intro n65 s2_66 s12_67
   refine Eq.trans ?_ (hKb65 _).symm
   refine Q.wrapPO fun Kj20 hKj20 => ?_
   have hj20 : ∀ (s2_21 : (Sl Bs)), Z15_j20 a0 s3_9 s10_10 x19 (Z15_l7 a0 a1 k_rec_18 n7) k_rec_18 s2_21 = Kj20 s2_21 := by
    intro s2_21
    refine Eq.trans ?_ (hKj20 _).symm
    unfold Z15_j20
    refine Q.wrapOO fun Kb42 hKb42 => ?_
    refine Z15_l42_qe  Kb42 ?_ _ _ _ ⟨Nat.succ_pos _, by omega⟩
    intro n42 s2_43 s13_44
    refine Eq.trans ?_ (hKb42 _).symm
    refine Q.wrapPO fun Kj22 hKj22 => ?_
    have hj22 : ∀ (s2_23 : (Sl Bs)), Z15_j22 a0 s3_9 s10_10 x19 (Z15_l7 a0 a1 k_rec_18 n7) k_rec_18 s2_23 = Kj22 s2_23 := by
     intro s2_23
     refine Eq.trans ?_ (hKj22 _).symm
     unfold Z15_j22
     refine Q.wrapOO fun Kj15 hKj15 => ?_
     have hj15 : ∀ (s2_16 : (Sl Bs)) (s3_17 : (Sl Bs)), Z15_j15 s10_10 (Z15_l7 a0 a1 k_rec_18 n7) s2_16 s3_17 = Kj15 (s2_16, s3_17) := by
      intro s2_16 s3_17
      refine Eq.trans ?_ (hKj15 _).symm
      try dsimp only
      unfold Z15_j15
      all_goals exact ih7 _ _ _ ⟨by omega, by omega⟩
     refine Q.mixO fun kj25 hkj25 => ?_
     have hj25 : ∀ (s3_26 : (Sl Bs)) (s15_27 : (Sl TSel)), Z15_j25 a0 s10_10 s2_23 (Z15_l7 a0 a1 k_rec_18 n7) k_rec_18 s3_26 s15_27 = Option.bind (kj25 s3_26 s15_27) Kj15 := by
      intro s3_26 s15_27
      unfold Z15_j25
      rw [hkj25]
      try dsimp only
      refine Q.bindO rfl fun x29 => ?_
      all_goals exact hj15 _ _
     refine Q.condO ?_ ?_
     ·refine Q.bindPO (Z8_eq _ _) fun x34 hx_x34 => ?_
      refine Q.guardPO (Z13_eq _ _) fun x37 hx_x37 => ?_
      refine Q.condO ?_ ?_
      ·all_goals exact hj15 _ _
      refine Q.bindO rfl fun x40 => ?_
      all_goals exact hj25 _ _
     all_goals exact hj25 _ _
    all_goals exact hj22 _
   all_goals exact hj20 _
  rw [List.drop_of_length_le (by omega), Z15_q7]
  refine Q.condF (Q.ltF hlt) ?_
  exact hend n7 s2_8 s3_9 s10_10
def Z15_qn : Nat → TQuery → (Sl TSel) → (Sl Bs) → (Sl Bs) → Option ((Sl Bs) × (Sl Bs))
 | 0, _, _, _, _ => none
 | n + 1, a0, a1, a2, a3 => Option.bind (Z15_q7 a0 (Z15_qn n) a1.l a2 a3) fun z7 => on ((z7.1, z7.2)) fun z2 => some (z2.1, z2.2)
theorem Z15_qall : ∀ n : Nat, Z15_n n = Z15_qn n := by
 intro n
 induction n with
 | zero => exact (by funext a0 a1 a2 a3; first | rfl | (rw [Z15_n, Z15_qn]))
 | succ n ih =>
  funext a0 a1 a2 a3
  refine Eq.trans ?_ (Q.some_bind _)
  rw [Z15_n, Z15_qn]
  try rw [ih]
  refine Q.wrapOO fun Kb7 hKb7 => ?_
  refine Z15_l7_qe  Kb7 ?_ _ _ _ _ ⟨Nat.succ_pos _, by omega⟩
  intro n7 s2_8 s3_9 s10_10
  refine Eq.trans ?_ (hKb7 _).symm
  try dsimp only
  refine Q.wrapPO fun Kj2 hKj2 => ?_
  have hj2 : ∀ (s2_3 : (Sl Bs)) (s3_4 : (Sl Bs)), Z15_j2  s2_3 s3_4 = Kj2 (s2_3, s3_4) := by
   intro s2_3 s3_4
   refine Eq.trans ?_ (hKj2 _).symm
   try dsimp only
   unfold Z15_j2
   all_goals rfl
  all_goals exact hj2 _ _
def Z15_q (a0 : TQuery) (a1 : (Sl TSel)) (a2 : (Sl Bs)) (a3 : (Sl Bs)) : Option ((Sl Bs) × (Sl Bs)) := Z15_qn F0 a0 a1 a2 a3
theorem Z15_eq (a0 : TQuery) (a1 : (Sl TSel)) (a2 : (Sl Bs)) (a3 : (Sl Bs)) : Z15 a0 a1 a2 a3 = Z15_q a0 a1 a2 a3 := by
 unfold Z15 Z15_q; rw [(Z15_qall F0)]
def Z12_q (a0 : TQuery) (a1 : Int) : Option (Sl Bs) := bif ((decide (a1 < (0 : Int))) || (decide (((a0.FOps.l.length : Nat) : Int) ≤ a1))) then (some (Sl.nil : Sl Bs)) else ((idxC a0.FOps.l a1).bind fun x9 => (Z15_q a0 x9.FSels (Sl.nil : Sl Bs) (Sl.nil : Sl Bs)).bind fun x10 => some x10.1)
theorem Z12_eq (a0 : TQuery) (a1 : Int) : Z12 a0 a1 = Z12_q a0 a1 := by
 unfold Z12 Z12_q
 refine Eq.trans ?_ (Q.some_bind _)
 refine Q.condO ?_ ?_
 ·all_goals rfl
 refine Q.bindO rfl fun x9 => ?_
 refine Q.bindO (Z15_eq _ _ _ _) fun x10 => ?_
 all_goals rfl
end Go.Proofs

namespace Go.Proofs
open Go Go.Ab
set_option maxRecDepth 100000 in
theorem example16 : Z6 = some true := by kernel_rfl
end Go.Proofs

namespace Go.Proofs
open Go Go.Ab
def fndG (l : List TFrag) (s : Bs) : TFrag × Bool := match l.find? (fun t => t.FName == s) with | some t => (t, true) | none => (TFrag.zero, false)
theorem ffindAux (l : List TFrag) (s : Bs) : Z1_q7 s l = match l.find? (fun t => t.FName == s) with | some t => Sum.inr (t, true) | none => Sum.inl () := by
 induction l with
 | nil => rfl
 | cons a r ih =>
  rw [Z1_q7, List.find?_cons]
  simp only [Ab.on, ih]
  cases a.FName == s <;> rfl
theorem ffind_eq (q : TQuery) (s : Bs) : Z1_q q s = fndG q.FFrags.l s := by
 unfold Z1_q fndG
 simp only [Ab.on]
 rw [ffindAux]
 cases q.FFrags.l.find? (fun t => t.FName == s) <;> rfl
theorem rfindAux (l : List TFrag) (s : Bs) : Z8_q6 s l = Z1_q7 s l := by
 induction l with
 | nil => rfl
 | cons a r ih => rw [Z8_q6, Z1_q7, ih]; rfl
theorem rfind_eq (q : TQuery) (s : Bs) : Z8_q q s = fndG q.FFrags.l s := by
 rw [← ffind_eq]; unfold Z8_q Z1_q; rw [rfindAux]; all_goals rfl
theorem fndG_name {l : List TFrag} {s : Bs} (h : (fndG l s).2 = true) : (fndG l s).1.FName = s ∧ (fndG l s).1 ∈ l := by
 unfold fndG at *
 cases e : l.find? (fun t => t.FName == s) with
 | none => rw [e] at h; cases h
 | some t => exact ⟨by simpa using List.find?_some e, List.mem_of_find?_eq_some e⟩
theorem indexAux (s : Bs) (l : List Bs) : ∀ n : Nat, (l.contains s = false → Z31_q6 s l n = Sum.inl ()) ∧ (l.contains s = true → ∃ m : Nat, Z31_q6 s l n = Sum.inr (m : Int)) := by
 induction l with
 | nil => intro n; exact ⟨fun _ => rfl, fun h => by simp at h⟩
 | cons a r ih =>
  intro n
  rw [Z31_q6]
  simp only [Ab.on, List.contains_cons]
  cases s == a
  ·simp only [Bool.false_or, cond_false]; exact ih (n + 1)
  ·simp only [Bool.true_or, cond_true]; exact ⟨fun h => by simp at h, fun _ => ⟨n, rfl⟩⟩
theorem contains_eq (a : Sl Bs) (s : Bs) : Z27_q a s = a.l.contains s := by
 unfold Z27_q Z31_q
 simp only [Ab.on]
 have h := indexAux s a.l 0
 cases hc : a.l.contains s
 ·rw [h.1 hc]; rfl
 ·obtain ⟨m, e⟩ := h.2 hc
  rw [e]; exact decide_eq_true (by simp)
def unseen (fr : Sl TFrag) (seen : List Bs) : Nat := (fr.l.filter fun f => !seen.contains f.FName).length
theorem filter_le {α : Type} {p q : α → Bool} {l : List α} (h : ∀ x ∈ l, p x = true → q x = true) : (l.filter p).length ≤ (l.filter q).length := by
 induction l with
 | nil => simp
 | cons a r ih =>
  have := ih fun x hx => h x (List.mem_cons_of_mem _ hx)
  have h1 := h a List.mem_cons_self
  simp only [List.filter_cons]
  cases hp : p a <;> cases hq : q a <;> simp_all <;> omega
theorem filter_lt {α : Type} {p q : α → Bool} {l : List α} {y : α} (h : ∀ x ∈ l, p x = true → q x = true) (hy : y ∈ l) (h1 : p y = false) (h2 : q y = true) : (l.filter p).length < (l.filter q).length := by
 induction l with
 | nil => cases hy
 | cons a r ih =>
  have h3 := filter_le (l := r) (p := p) (q := q) fun x hx => h x (List.mem_cons_of_mem _ hx)
  simp only [List.filter_cons]
  rcases List.mem_cons.1 hy with rfl | hy
  ·simp [h1, h2]; omega
  ·have := ih (fun x hx => h x (List.mem_cons_of_mem _ hx)) hy
   have h4 := h a List.mem_cons_self
   cases hp : p a <;> cases hq : q a <;> simp_all <;> omega
theorem unseen_le {fr : Sl TFrag} {a b : List Bs} (h : ∀ s ∈ a, s ∈ b) : unseen fr b ≤ unseen fr a := filter_le fun x _ hp => by
 simp at hp ⊢; exact fun h2 => hp (h _ h2)
theorem unseen_lt {fr : Sl TFrag} {a b : List Bs} (h : ∀ s ∈ a, s ∈ b) {f : TFrag} (hf : f ∈ fr.l) (h1 : f.FName ∉ a) (h2 : f.FName ∈ b) : unseen fr b < unseen fr a :=
 filter_lt (fun x _ hp => by simp at hp ⊢; exact fun h2 => hp (h _ h2)) hf (by simpa using h2) (by simpa using h1)
theorem unseen_all (fr : Sl TFrag) (seen : List Bs) : unseen fr seen ≤ fr.l.length := List.length_filter_le _ _
end Go.Proofs
