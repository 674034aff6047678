import Derived.Test.YtimiconoebjfbaaDoorV1
set_option maxRecDepth 100000
set_option maxHeartbeats 2000000
set_option linter.unusedVariables false
set_option linter.unusedSimpArgs false
namespace Go.Proofs
open Go Go.Ab
open AOps Cert AWp
def Z55_j2  (s3_3 : (Sl Bs)) (y4_c2 : (List Bs)) : Option ((Sl Bs) × (List Bs)) := some (s3_3, y4_c2)
def Z55_j15 (s22_10 : Nat) (k_next_8 : (Sl Bs) → Nat → (List Bs) → Option ((Sl Bs) × (List Bs))) (s3_16 : (Sl Bs)) (y17_c2 : (List Bs)) : Option ((Sl Bs) × (List Bs)) := k_next_8 s3_16 (s22_10 + 1) y17_c2
def Z55_j25 (a0 : TQuery) (s22_10 : Nat) (s3_23 : (Sl Bs)) (k_next_8 : (Sl Bs) → Nat → (List Bs) → Option ((Sl Bs) × (List Bs))) (k_rec_16 : TQuery → (Sl TSel) → (List Bs) → (Sl Bs) → Option ((Sl Bs) × (List Bs))) (s17_26 : (Sl TSel)) (y27_c2 : (List Bs)) : Option ((Sl Bs) × (List Bs)) := (k_rec_16 a0 s17_26 y27_c2 s3_23).bind fun x28 => Z55_j15 s22_10 k_next_8 x28.1 x28.2
def Z55_j22 (a0 : TQuery) (s22_10 : Nat) (y11_c2 : (List Bs)) (x19 : TSel) (k_next_8 : (Sl Bs) → Nat → (List Bs) → Option ((Sl Bs) × (List Bs))) (k_rec_16 : TQuery → (Sl TSel) → (List Bs) → (Sl Bs) → Option ((Sl Bs) × (List Bs))) (s3_23 : (Sl Bs)) : Option ((Sl Bs) × (List Bs)) := bif (decide (x19.FKind = (2 : Int))) then ((Z1 a0 x19.FName).bind fun x32 => bif ((!x32.2) || (y11_c2.contains x19.FName)) then (Z55_j15 s22_10 k_next_8 s3_23 y11_c2) else (Z55_j25 a0 s22_10 s3_23 k_next_8 k_rec_16 x32.1.FSels (insS y11_c2 x19.FName))) else (Z55_j25 a0 s22_10 s3_23 k_next_8 k_rec_16 x19.FSels y11_c2)
def Z55_j45 (s41_41 : Nat) (k_next_39 : (Sl Bs) → Nat → Option ((Sl Bs) × (List Bs))) (s3_46 : (Sl Bs)) : Option ((Sl Bs) × (List Bs)) := k_next_39 s3_46 (s41_41 + 1)
def Z55_l51 (s41_41 : Nat) (x48 : TDir) (k_next_39 : (Sl Bs) → Nat → Option ((Sl Bs) × (List Bs))) : Nat → (Sl Bs) → Nat → Option ((Sl Bs) × (List Bs))
 | 0, _, _ => none
 | n51 + 1, s3_52, s48_53 => bif (decide (((s48_53 : Nat) : Int) < ((x48.FArgs.l.length : Nat) : Int))) then ((x48.FArgs.l[s48_53]?).bind fun x59 => (Z54 x59.FValue s3_52).bind fun x60 => (Z55_l51 s41_41 x48 k_next_39 n51) x60 (s48_53 + 1)) else (Z55_j45 s41_41 k_next_39 s3_52)
def Z55_l39 (a0 : TQuery) (s22_10 : Nat) (y11_c2 : (List Bs)) (x19 : TSel) (k_next_8 : (Sl Bs) → Nat → (List Bs) → Option ((Sl Bs) × (List Bs))) (k_rec_16 : TQuery → (Sl TSel) → (List Bs) → (Sl Bs) → Option ((Sl Bs) × (List Bs))) : Nat → (Sl Bs) → Nat → Option ((Sl Bs) × (List Bs))
 | 0, _, _ => none
 | n39 + 1, s3_40, s41_41 => bif (decide (((s41_41 : Nat) : Int) < ((x19.FDirs.l.length : Nat) : Int))) then ((x19.FDirs.l[s41_41]?).bind fun x48 => Z55_l51 s41_41 x48 ((Z55_l39 a0 s22_10 y11_c2 x19 k_next_8 k_rec_16 n39)) (x48.FArgs.l.length + 1) s3_40 0) else (Z55_j22 a0 s22_10 y11_c2 x19 k_next_8 k_rec_16 s3_40)
def Z55_j20 (a0 : TQuery) (s22_10 : Nat) (y11_c2 : (List Bs)) (x19 : TSel) (k_next_8 : (Sl Bs) → Nat → (List Bs) → Option ((Sl Bs) × (List Bs))) (k_rec_16 : TQuery → (Sl TSel) → (List Bs) → (Sl Bs) → Option ((Sl Bs) × (List Bs))) (s3_21 : (Sl Bs)) : Option ((Sl Bs) × (List Bs)) := Z55_l39 a0 s22_10 y11_c2 x19 k_next_8 k_rec_16 (x19.FDirs.l.length + 1) s3_21 0
def Z55_l63 (a0 : TQuery) (s22_10 : Nat) (y11_c2 : (List Bs)) (x19 : TSel) (k_next_8 : (Sl Bs) → Nat → (List Bs) → Option ((Sl Bs) × (List Bs))) (k_rec_16 : TQuery → (Sl TSel) → (List Bs) → (Sl Bs) → Option ((Sl Bs) × (List Bs))) : Nat → (Sl Bs) → Nat → Option ((Sl Bs) × (List Bs))
 | 0, _, _ => none
 | n63 + 1, s3_64, s29_65 => bif (decide (((s29_65 : Nat) : Int) < ((x19.FArgs.l.length : Nat) : Int))) then ((x19.FArgs.l[s29_65]?).bind fun x71 => (Z54 x71.FValue s3_64).bind fun x72 => (Z55_l63 a0 s22_10 y11_c2 x19 k_next_8 k_rec_16 n63) x72 (s29_65 + 1)) else (Z55_j20 a0 s22_10 y11_c2 x19 k_next_8 k_rec_16 s3_64)
def Z55_l8 (a0 : TQuery) (a1 : (Sl TSel)) (k_rec_16 : TQuery → (Sl TSel) → (List Bs) → (Sl Bs) → Option ((Sl Bs) × (List Bs))) : Nat → (Sl Bs) → Nat → (List Bs) → Option ((Sl Bs) × (List Bs))
 | 0, _, _, _ => none
 | n8 + 1, s3_9, s22_10, y11_c2 => bif (decide (((s22_10 : Nat) : Int) < ((a1.l.length : Nat) : Int))) then ((a1.l[s22_10]?).bind fun x19 => Z55_l63 a0 s22_10 y11_c2 x19 ((Z55_l8 a0 a1 k_rec_16 n8)) k_rec_16 (x19.FArgs.l.length + 1) s3_9 0) else (Z55_j2   s3_9 y11_c2)
def Z55_n : Nat → TQuery → (Sl TSel) → (List Bs) → (Sl Bs) → Option ((Sl Bs) × (List Bs))
 | 0, _, _, _, _ => none
 | n + 1, a0, a1, a2, a3 => Z55_l8 a0 a1 (Z55_n n) (a1.l.length + 1) a3 0 a2
theorem Z55_step (n : Nat) (ih_16 : ∀ {a0 : TQuery} {a1 : (Sl TSel)} {a2 : (List Bs)} {a3 : (Sl Bs)} {w1 : Option Nat} {c2 : Nat} {g3 : Nat} {r : ((Sl Bs) × (List Bs))}, Z55_n n a0 a1 a2 a3 = some r → ∀ (H : Heap) (hc2 : H c2 = some (.map (seenM a2))) (hg3 : H g3 = some (.tok 1 a3.l.length)), ACalls Tryd.prog 16 [.agg (TQuery.c a0), .d (Sl.d 7 TSel.c w1 a1), .d (.map c2), .d (Sl.d 1 strE (some g3) a3)] H fun v h' => v = .a (.d (Sl.d 1 strE (some g3) r.1)) ∧ h' = ((H.set c2 (some (.map (seenM r.2)))).set g3 (some (.tok 1 r.1.l.length)))) : ∀ {a0 : TQuery} {a1 : (Sl TSel)} {a2 : (List Bs)} {a3 : (Sl Bs)} {w1 : Option Nat} {c2 : Nat} {g3 : Nat} {r : ((Sl Bs) × (List Bs))}, Z55_n (n + 1) a0 a1 a2 a3 = some r → ∀ (H : Heap) (hc2 : H c2 = some (.map (seenM a2))) (hg3 : H g3 = some (.tok 1 a3.l.length)), ACalls Tryd.prog 16 [.agg (TQuery.c a0), .d (Sl.d 7 TSel.c w1 a1), .d (.map c2), .d (Sl.d 1 strE (some g3) a3)] H fun v h' => v = .a (.d (Sl.d 1 strE (some g3) r.1)) ∧ h' = ((H.set c2 (some (.map (seenM r.2)))).set g3 (some (.tok 1 r.1.l.length))) := by
 intro a0 a1 a2 a3 w1 c2 g3 r hE H hc2 hg3
 rw [Z55_n] at hE
 refine ACalls.of_wp (fn := Tryd.f16) (c := _) Tryd.tab_ok (fun _ _ => Tryd.call16 _ _) Tryd.func16 rfl (n := 90) rfl (rs := [.tmp 8]) rfl rfl ?_
 have ne_g3_c2 : g3 ≠ c2 := fun e_ => by subst e_; simp_all
 refine AWp.heqA (h' := ((H.set c2 (some (.map (seenM a2)))).set g3 (some (.tok 1 a3.l.length)))) (by funext n_; simp only [Heap.set]; (repeat' split) <;> simp_all) ?_
 refine seqK fun K1 hK1 => ?_
 refine region ?_
 refine s0 (boxV rfl) rfl ?_
 refine s0 assignA rfl ?_
 refine nil ?_
 refine hK1 _ ?_
 clear hK1 K1
 refine seqJH KeepsT.nil (fun (z : (Sl Bs) × (List Bs)) => [(3, .a (.d (Sl.d 1 strE (some g3) z.1)))]) (fun z => ((H.set c2 (some (.map (seenM z.2)))).set g3 (some (.tok 1 z.1.l.length)))) (fun z => Z55_j2 z.1 z.2 = some r) ?_ ?_
 ·intro K2 hK2
  refine seqK fun K6 hK6 => ?_
  refine region ?_
  refine s0 moveA rfl ?_
  refine sLen (f := TSel.c) (s := a1) (TK rfl) rfl rfl rfl rfl fun hL7 => ?_
  refine s0 moveA rfl ?_
  refine nil ?_
  refine hK6 _ ?_
  clear hK6 K6
  refine block ?_
  refine loopH (KeepsT.A (k := 2) (KeepsT.A (k := 4) (KeepsT.A (k := 20) (KeepsT.A (k := 21) KeepsT.nil)))) (fun (z : Nat × (Sl Bs) × Nat × (List Bs)) => [(3, .a (.d (Sl.d 1 strE (some g3) z.2.1))), (22, .a (.d (.int .i64 ((z.2.2.1 : Nat) : Int))))]) (fun z => ((H.set c2 (some (.map (seenM z.2.2.2)))).set g3 (some (.tok 1 z.2.1.l.length)))) (fun z => z.1) (fun z => Z55_l8 a0 a1 (Z55_n n) z.1 z.2.1 z.2.2.1 z.2.2.2 = some r) ((a1.l.length + 1), a3, 0, a2) hE Weak.toA ?_
  rintro ⟨n8, s3_9, s22_10, y11_c2⟩ hE K8 hK8
  try dsimp only at hE
  cases n8 with
  | zero => cases hE
  | succ n8 =>
    rw [Z55_l8] at hE
    refine seqK fun K12 hK12 => ?_
    refine region ?_
    refine s0 (binI rfl rfl rfl) rfl ?_
    refine nil ?_
    refine hK12 _ ?_
    clear hK12 K12
    refine seqK fun K13 hK13 => ?_
    refine condE hE rfl (fun hc14 hE => ?_) (fun hc14 hE => ?_)
    ·try dsimp only at hc14
     have hf14 := of_decide_eq_true hc14
     refine AWp.skip ?_
     refine hK13 _ ?_
     clear hK13 K13
     refine seqJH (KeepsT.A (k := 2) (KeepsT.A (k := 4) (KeepsT.A (k := 20) (KeepsT.A (k := 21) (KeepsT.A (k := 22) KeepsT.nil))))) (fun (z : (Sl Bs) × (List Bs)) => [(3, .a (.d (Sl.d 1 strE (some g3) z.1)))]) (fun z => ((H.set c2 (some (.map (seenM z.2)))).set g3 (some (.tok 1 z.1.l.length)))) (fun z => Z55_j15 s22_10 ((Z55_l8 a0 a1 (Z55_n n) n8)) z.1 z.2 = some r) ?_ ?_
     ·intro K15 hK15
      refine block ?_
      refine seqK fun K18 hK18 => ?_
      refine region ?_
      obtain ⟨x19, gx19, hE⟩ := bindO_some hE
      refine s0 (idxMn (f := TSel.c) (n := s22_10) (TK rfl) rfl (TK rfl) rfl rfl rfl gx19) rfl ?_
      refine s0 (loadV (TK rfl) rfl rfl rfl) rfl ?_
      refine sL (allocLA (TK rfl) rfl) rfl ?_
      refine sLn (storeLFA (TK rfl) rfl rfl rfl rfl rfl) ?_
      refine nil ?_
      refine hK18 _ ?_
      clear hK18 K18
      refine freezeA 10 _ rfl (Keeps.c (k := 2) (by conv => lhs; whnf) (by rfl) (Keeps.c (k := 3) (by conv => lhs; whnf) (by rfl) (Keeps.c (k := 4) (by conv => lhs; whnf) (by rfl) (Keeps.c (k := 20) (by conv => lhs; whnf) (by rfl) (Keeps.c (k := 21) (by conv => lhs; whnf) (by rfl) (Keeps.c (k := 22) (by conv => lhs; whnf) (by rfl) Keeps.nil)))))) ?_
      refine seqJH (KeepsT.A (k := 2) (KeepsT.A (k := 4) (KeepsT.A (k := 10) (KeepsT.A (k := 20) (KeepsT.A (k := 21) (KeepsT.A (k := 22) KeepsT.nil)))))) (fun (z : (Sl Bs)) => [(3, .a (.d (Sl.d 1 strE (some g3) z)))]) (fun z => ((H.set c2 (some (.map (seenM y11_c2)))).set g3 (some (.tok 1 z.l.length)))) (fun z => Z55_j20 a0 s22_10 y11_c2 x19 ((Z55_l8 a0 a1 (Z55_n n) n8)) (Z55_n n) z = some r) ?_ ?_
      ·intro K20 hK20
       refine seqK fun K61 hK61 => ?_
       refine region ?_
       refine s0 (fieldVA (TK rfl) rfl rfl (TK rfl) rfl rfl) rfl ?_
       refine s0 (loadV (TK rfl) rfl rfl rfl) rfl ?_
       refine sLen (f := TArg.c) (s := x19.FArgs) (TK rfl) rfl rfl rfl rfl fun hL62 => ?_
       refine s0 moveA rfl ?_
       refine nil ?_
       refine hK61 _ ?_
       clear hK61 K61
       refine block ?_
       refine loopH (KeepsT.A (k := 2) (KeepsT.A (k := 4) (KeepsT.A (k := 10) (KeepsT.A (k := 20) (KeepsT.A (k := 21) (KeepsT.A (k := 22) (KeepsT.A (k := 27) (KeepsT.A (k := 28) KeepsT.nil)))))))) (fun (z : Nat × (Sl Bs) × Nat) => [(3, .a (.d (Sl.d 1 strE (some g3) z.2.1))), (29, .a (.d (.int .i64 ((z.2.2 : Nat) : Int))))]) (fun z => ((H.set c2 (some (.map (seenM y11_c2)))).set g3 (some (.tok 1 z.2.1.l.length)))) (fun z => z.1) (fun z => Z55_l63 a0 s22_10 y11_c2 x19 ((Z55_l8 a0 a1 (Z55_n n) n8)) (Z55_n n) z.1 z.2.1 z.2.2 = some r) ((x19.FArgs.l.length + 1), s3_9, 0) hE Weak.toA ?_
       rintro ⟨n63, s3_64, s29_65⟩ hE K63 hK63
       try dsimp only at hE
       cases n63 with
       | zero => cases hE
       | succ n63 =>
         rw [Z55_l63] at hE
         refine seqK fun K66 hK66 => ?_
         refine region ?_
         refine s0 (binI rfl rfl rfl) rfl ?_
         refine nil ?_
         refine hK66 _ ?_
         clear hK66 K66
         refine seqK fun K67 hK67 => ?_
         refine condE hE rfl (fun hc68 hE => ?_) (fun hc68 hE => ?_)
         ·try dsimp only at hc68
          have hf68 := of_decide_eq_true hc68
          refine AWp.skip ?_
          refine hK67 _ ?_
          clear hK67 K67
          refine seqK fun K69 hK69 => ?_
          refine block ?_
          refine seqK fun K70 hK70 => ?_
          refine region ?_
          obtain ⟨x71, gx71, hE⟩ := bindO_some hE
          refine s0 (idxMn (f := TArg.c) (n := s29_65) (TK rfl) rfl (TK rfl) rfl rfl rfl gx71) rfl ?_
          refine s0 (loadV (TK rfl) rfl rfl rfl) rfl ?_
          refine sL (allocLA (TK rfl) rfl) rfl ?_
          refine sLn (storeLFA (TK rfl) rfl rfl rfl rfl rfl) ?_
          refine nil ?_
          refine hK70 _ ?_
          clear hK70 K70
          refine freezeA 12 _ rfl (Keeps.c (k := 2) (by conv => lhs; whnf) (by rfl) (Keeps.c (k := 3) (by conv => lhs; whnf) (by rfl) (Keeps.c (k := 4) (by conv => lhs; whnf) (by rfl) (Keeps.c (k := 10) (by conv => lhs; whnf) (by rfl) (Keeps.c (k := 20) (by conv => lhs; whnf) (by rfl) (Keeps.c (k := 21) (by conv => lhs; whnf) (by rfl) (Keeps.c (k := 22) (by conv => lhs; whnf) (by rfl) (Keeps.c (k := 27) (by conv => lhs; whnf) (by rfl) (Keeps.c (k := 28) (by conv => lhs; whnf) (by rfl) (Keeps.c (k := 29) (by conv => lhs; whnf) (by rfl) Keeps.nil)))))))))) ?_
          refine region ?_
          refine s0 (fieldVA (TK rfl) rfl rfl (TK rfl) rfl rfl) rfl ?_
          refine s0 (loadV (TK rfl) rfl rfl rfl) rfl ?_
          refine s0 moveA rfl ?_
          obtain ⟨x72, gx72, hE⟩ := bindO_some hE
          refine sH (callH rfl rfl (Z54_walk gx72 _ hpG)) rfl ?_
          refine AOps.heq (h' := ((H.set c2 (some (.map (seenM y11_c2)))).set g3 (some (.tok 1 x72.l.length)))) (by first | rfl | (rw [Heap.set_set]; rfl) | (funext n_; simp only [Heap.set]; (repeat' split) <;> first | rfl | (exfalso; simp_all; done) | (simp_all; done))) ?_
          refine s0 assignA rfl ?_
          refine nil ?_
          refine hK69 _ ?_
          clear hK69 K69
          refine region ?_
          refine s0 (addIA rfl rfl) rfl ?_
          refine s0 moveA rfl ?_
          refine nil ?_
          exact hK63 _ (n63, x72, (s29_65 + 1)) Weak.toA hE (Nat.lt_succ_self _)
         refine AWp.exit ?_
         exact hK20 _ s3_64 Weak.toA hE
      rintro s3_21 hE
      try dsimp only at hE
      unfold Z55_j20 at hE
      refine seqJH (KeepsT.A (k := 2) (KeepsT.A (k := 4) (KeepsT.A (k := 10) (KeepsT.A (k := 20) (KeepsT.A (k := 21) (KeepsT.A (k := 22) KeepsT.nil)))))) (fun (z : (Sl Bs)) => [(3, .a (.d (Sl.d 1 strE (some g3) z)))]) (fun z => ((H.set c2 (some (.map (seenM y11_c2)))).set g3 (some (.tok 1 z.l.length)))) (fun z => Z55_j22 a0 s22_10 y11_c2 x19 ((Z55_l8 a0 a1 (Z55_n n) n8)) (Z55_n n) z = some r) ?_ ?_
      ·intro K22 hK22
       refine seqK fun K37 hK37 => ?_
       refine region ?_
       refine s0 (fieldVA (TK rfl) rfl rfl (TK rfl) rfl rfl) rfl ?_
       refine s0 (loadV (TK rfl) rfl rfl rfl) rfl ?_
       refine sLen (f := TDir.c) (s := x19.FDirs) (TK rfl) rfl rfl rfl rfl fun hL38 => ?_
       refine s0 moveA rfl ?_
       refine nil ?_
       refine hK37 _ ?_
       clear hK37 K37
       refine block ?_
       refine loopH (KeepsT.A (k := 2) (KeepsT.A (k := 4) (KeepsT.A (k := 10) (KeepsT.A (k := 20) (KeepsT.A (k := 21) (KeepsT.A (k := 22) (KeepsT.A (k := 39) (KeepsT.A (k := 40) KeepsT.nil)))))))) (fun (z : Nat × (Sl Bs) × Nat) => [(3, .a (.d (Sl.d 1 strE (some g3) z.2.1))), (41, .a (.d (.int .i64 ((z.2.2 : Nat) : Int))))]) (fun z => ((H.set c2 (some (.map (seenM y11_c2)))).set g3 (some (.tok 1 z.2.1.l.length)))) (fun z => z.1) (fun z => Z55_l39 a0 s22_10 y11_c2 x19 ((Z55_l8 a0 a1 (Z55_n n) n8)) (Z55_n n) z.1 z.2.1 z.2.2 = some r) ((x19.FDirs.l.length + 1), s3_21, 0) hE Weak.toA ?_
       rintro ⟨n39, s3_40, s41_41⟩ hE K39 hK39
       try dsimp only at hE
       cases n39 with
       | zero => cases hE
       | succ n39 =>
         rw [Z55_l39] at hE
         refine seqK fun K42 hK42 => ?_
         refine region ?_
         refine s0 (binI rfl rfl rfl) rfl ?_
         refine nil ?_
         refine hK42 _ ?_
         clear hK42 K42
         refine seqK fun K43 hK43 => ?_
         refine condE hE rfl (fun hc44 hE => ?_) (fun hc44 hE => ?_)
         ·try dsimp only at hc44
          have hf44 := of_decide_eq_true hc44
          refine AWp.skip ?_
          refine hK43 _ ?_
          clear hK43 K43
          refine seqJH (KeepsT.A (k := 2) (KeepsT.A (k := 4) (KeepsT.A (k := 10) (KeepsT.A (k := 20) (KeepsT.A (k := 21) (KeepsT.A (k := 22) (KeepsT.A (k := 39) (KeepsT.A (k := 40) (KeepsT.A (k := 41) KeepsT.nil))))))))) (fun (z : (Sl Bs)) => [(3, .a (.d (Sl.d 1 strE (some g3) z)))]) (fun z => ((H.set c2 (some (.map (seenM y11_c2)))).set g3 (some (.tok 1 z.l.length)))) (fun z => Z55_j45 s41_41 ((Z55_l39 a0 s22_10 y11_c2 x19 ((Z55_l8 a0 a1 (Z55_n n) n8)) (Z55_n n) n39)) z = some r) ?_ ?_
          ·intro K45 hK45
           refine block ?_
           refine seqK fun K47 hK47 => ?_
           refine region ?_
           obtain ⟨x48, gx48, hE⟩ := bindO_some hE
           refine s0 (idxMn (f := TDir.c) (n := s41_41) (TK rfl) rfl (TK rfl) rfl rfl rfl gx48) rfl ?_
           refine s0 (loadV (TK rfl) rfl rfl rfl) rfl ?_
           refine sL (allocLA (TK rfl) rfl) rfl ?_
           refine sLn (storeLFA (TK rfl) rfl rfl rfl rfl rfl) ?_
           refine nil ?_
           refine hK47 _ ?_
           clear hK47 K47
           refine freezeA 14 _ rfl (Keeps.c (k := 2) (by conv => lhs; whnf) (by rfl) (Keeps.c (k := 3) (by conv => lhs; whnf) (by rfl) (Keeps.c (k := 4) (by conv => lhs; whnf) (by rfl) (Keeps.c (k := 10) (by conv => lhs; whnf) (by rfl) (Keeps.c (k := 20) (by conv => lhs; whnf) (by rfl) (Keeps.c (k := 21) (by conv => lhs; whnf) (by rfl) (Keeps.c (k := 22) (by conv => lhs; whnf) (by rfl) (Keeps.c (k := 39) (by conv => lhs; whnf) (by rfl) (Keeps.c (k := 40) (by conv => lhs; whnf) (by rfl) (Keeps.c (k := 41) (by conv => lhs; whnf) (by rfl) Keeps.nil)))))))))) ?_
           refine seqK fun K49 hK49 => ?_
           refine region ?_
           refine s0 (fieldVA (TK rfl) rfl rfl (TK rfl) rfl rfl) rfl ?_
           refine s0 (loadV (TK rfl) rfl rfl rfl) rfl ?_
           refine sLen (f := TArg.c) (s := x48.FArgs) (TK rfl) rfl rfl rfl rfl fun hL50 => ?_
           refine s0 moveA rfl ?_
           refine nil ?_
           refine hK49 _ ?_
           clear hK49 K49
           refine block ?_
           refine loopH (KeepsT.A (k := 2) (KeepsT.A (k := 4) (KeepsT.A (k := 10) (KeepsT.A (k := 20) (KeepsT.A (k := 21) (KeepsT.A (k := 22) (KeepsT.A (k := 39) (KeepsT.A (k := 40) (KeepsT.A (k := 41) (KeepsT.A (k := 46) (KeepsT.A (k := 47) KeepsT.nil))))))))))) (fun (z : Nat × (Sl Bs) × Nat) => [(3, .a (.d (Sl.d 1 strE (some g3) z.2.1))), (48, .a (.d (.int .i64 ((z.2.2 : Nat) : Int))))]) (fun z => ((H.set c2 (some (.map (seenM y11_c2)))).set g3 (some (.tok 1 z.2.1.l.length)))) (fun z => z.1) (fun z => Z55_l51 s41_41 x48 ((Z55_l39 a0 s22_10 y11_c2 x19 ((Z55_l8 a0 a1 (Z55_n n) n8)) (Z55_n n) n39)) z.1 z.2.1 z.2.2 = some r) ((x48.FArgs.l.length + 1), s3_40, 0) hE Weak.toA ?_
           rintro ⟨n51, s3_52, s48_53⟩ hE K51 hK51
           try dsimp only at hE
           cases n51 with
           | zero => cases hE
           | succ n51 =>
             rw [Z55_l51] at hE
             refine seqK fun K54 hK54 => ?_
             refine region ?_
             refine s0 (binI rfl rfl rfl) rfl ?_
             refine nil ?_
             refine hK54 _ ?_
             clear hK54 K54
             refine seqK fun K55 hK55 => ?_
             refine condE hE rfl (fun hc56 hE => ?_) (fun hc56 hE => ?_)
             ·try dsimp only at hc56
              have hf56 := of_decide_eq_true hc56
              refine AWp.skip ?_
              refine hK55 _ ?_
              clear hK55 K55
              refine seqK fun K57 hK57 => ?_
              refine block ?_
              refine seqK fun K58 hK58 => ?_
              refine region ?_
              obtain ⟨x59, gx59, hE⟩ := bindO_some hE
              refine s0 (idxMn (f := TArg.c) (n := s48_53) (TK rfl) rfl (TK rfl) rfl rfl rfl gx59) rfl ?_
              refine s0 (loadV (TK rfl) rfl rfl rfl) rfl ?_
              refine sL (allocLA (TK rfl) rfl) rfl ?_
              refine sLn (storeLFA (TK rfl) rfl rfl rfl rfl rfl) ?_
              refine nil ?_
              refine hK58 _ ?_
              clear hK58 K58
              refine freezeA 16 _ rfl (Keeps.c (k := 2) (by conv => lhs; whnf) (by rfl) (Keeps.c (k := 3) (by conv => lhs; whnf) (by rfl) (Keeps.c (k := 4) (by conv => lhs; whnf) (by rfl) (Keeps.c (k := 10) (by conv => lhs; whnf) (by rfl) (Keeps.c (k := 20) (by conv => lhs; whnf) (by rfl) (Keeps.c (k := 21) (by conv => lhs; whnf) (by rfl) (Keeps.c (k := 22) (by conv => lhs; whnf) (by rfl) (Keeps.c (k := 39) (by conv => lhs; whnf) (by rfl) (Keeps.c (k := 40) (by conv => lhs; whnf) (by rfl) (Keeps.c (k := 41) (by conv => lhs; whnf) (by rfl) (Keeps.c (k := 46) (by conv => lhs; whnf) (by rfl) (Keeps.c (k := 47) (by conv => lhs; whnf) (by rfl) (Keeps.c (k := 48) (by conv => lhs; whnf) (by rfl) Keeps.nil))))))))))))) ?_
              refine region ?_
              refine s0 (fieldVA (TK rfl) rfl rfl (TK rfl) rfl rfl) rfl ?_
              refine s0 (loadV (TK rfl) rfl rfl rfl) rfl ?_
              refine s0 moveA rfl ?_
              obtain ⟨x60, gx60, hE⟩ := bindO_some hE
              refine sH (callH rfl rfl (Z54_walk gx60 _ hpG)) rfl ?_
              refine AOps.heq (h' := ((H.set c2 (some (.map (seenM y11_c2)))).set g3 (some (.tok 1 x60.l.length)))) (by first | rfl | (rw [Heap.set_set]; rfl) | (funext n_; simp only [Heap.set]; (repeat' split) <;> first | rfl | (exfalso; simp_all; done) | (simp_all; done))) ?_
              refine s0 assignA rfl ?_
              refine nil ?_
              refine hK57 _ ?_
              clear hK57 K57
              refine region ?_
              refine s0 (addIA rfl rfl) rfl ?_
              refine s0 moveA rfl ?_
              refine nil ?_
              exact hK51 _ (n51, x60, (s48_53 + 1)) Weak.toA hE (Nat.lt_succ_self _)
             refine AWp.exit ?_
             exact hK45 _ s3_52 Weak.toA hE
          rintro s3_46 hE
          try dsimp only at hE
          unfold Z55_j45 at hE
          refine region ?_
          refine s0 (addIA rfl rfl) rfl ?_
          refine s0 moveA rfl ?_
          refine nil ?_
          exact hK39 _ (n39, s3_46, (s41_41 + 1)) Weak.toA hE (Nat.lt_succ_self _)
         refine AWp.exit ?_
         exact hK22 _ s3_40 Weak.toA hE
      rintro s3_23 hE
      try dsimp only at hE
      unfold Z55_j22 at hE
      refine seqK fun K24 hK24 => ?_
      refine region ?_
      refine s0 (fieldVA (TK rfl) rfl rfl (TK rfl) rfl rfl) rfl ?_
      refine s0 (loadV (TK rfl) rfl rfl (congrArg (fun x => some (A.d x)) (TSel.FSelsD_eq _))) rfl ?_
      refine s0 assignA rfl ?_
      refine nil ?_
      refine hK24 _ ?_
      clear hK24 K24
      refine seqJH (KeepsT.A (k := 2) (KeepsT.A (k := 3) (KeepsT.A (k := 4) (KeepsT.A (k := 20) (KeepsT.A (k := 21) (KeepsT.A (k := 22) KeepsT.nil)))))) (fun (z : (Sl TSel) × (List Bs)) => [(17, .a (.d (Sl.d 7 TSel.c none z.1)))]) (fun z => ((H.set c2 (some (.map (seenM z.2)))).set g3 (some (.tok 1 s3_23.l.length)))) (fun z => Z55_j25 a0 s22_10 s3_23 ((Z55_l8 a0 a1 (Z55_n n) n8)) (Z55_n n) z.1 z.2 = some r) ?_ ?_
      ·intro K25 hK25
       refine seqK fun K29 hK29 => ?_
       refine region ?_
       refine s0 (fieldVA (TK rfl) rfl rfl (TK rfl) rfl rfl) rfl ?_
       refine s0 (loadV (TK rfl) rfl rfl rfl) rfl ?_
       refine s0 (binI rfl rfl rfl) rfl ?_
       refine nil ?_
       refine hK29 _ ?_
       clear hK29 K29
       refine condE hE rfl (fun hc30 hE => ?_) (fun hc30 hE => ?_)
       ·refine seqK fun K31 hK31 => ?_
        refine region ?_
        refine s0 (loadV (TK rfl) rfl rfl rfl) rfl ?_
        refine s0 (fieldVA (TK rfl) rfl rfl (TK rfl) rfl rfl) rfl ?_
        refine s0 (loadV (TK rfl) rfl rfl rfl) rfl ?_
        obtain ⟨x32, gx32, hE⟩ := bindO_some hE
        refine s0 (callP rfl rfl (fun H => Z1_walk gx32 H)) rfl ?_
        refine s0 moveA rfl ?_
        refine s0 (extract rfl rfl) rfl ?_
        refine s0 (extract rfl rfl) rfl ?_
        refine sL (allocLA (TK rfl) rfl) rfl ?_
        refine sLn (storeLFA (TK rfl) rfl rfl rfl rfl rfl) ?_
        refine s0 assignA rfl ?_
        refine nil ?_
        refine hK31 _ ?_
        clear hK31 K31
        refine freezeA 18 _ rfl (Keeps.c (k := 2) (by conv => lhs; whnf) (by rfl) (Keeps.c (k := 3) (by conv => lhs; whnf) (by rfl) (Keeps.c (k := 4) (by conv => lhs; whnf) (by rfl) (Keeps.c (k := 10) (by conv => lhs; whnf) (by rfl) (Keeps.c (k := 19) (by conv => lhs; whnf) (by rfl) (Keeps.c (k := 20) (by conv => lhs; whnf) (by rfl) (Keeps.c (k := 21) (by conv => lhs; whnf) (by rfl) (Keeps.c (k := 22) (by conv => lhs; whnf) (by rfl) Keeps.nil)))))))) ?_
        refine seqK fun K33 hK33 => ?_
        refine seqK fun K34 hK34 => ?_
        refine region ?_
        refine s0 moveA rfl ?_
        refine s0 (notB rfl) rfl ?_
        refine s0 moveA rfl ?_
        refine gC rfl rfl (fun hC => moveA) rfl ?_
        refine gC rfl rfl (fun hC => fieldVA (TK rfl) rfl rfl (TK rfl) rfl rfl) rfl ?_
        refine gC rfl rfl (fun hC => ungdA (k := 74) rfl (loadV (TK rfl) rfl rfl rfl)) rfl ?_
        refine gC rfl rfl (fun hC => ungdA (k := 73) rfl (ungdA (k := 75) rfl (lookupSeen (TK rfl) rfl (TK rfl) (TK rfl) rfl rfl rfl rfl hpG))) rfl ?_
        refine s0 (pickOrA rfl rfl rfl) rfl ?_
        refine nil ?_
        refine hK34 _ ?_
        clear hK34 K34
        refine condE hE rfl (fun hc35 hE => ?_) (fun hc35 hE => ?_)
        ·refine AWp.exit ?_
         exact hK15 _ (s3_23, y11_c2) Weak.toA hE
        refine AWp.skip ?_
        refine hK33 _ ?_
        clear hK33 K33
        refine seqK fun K36 hK36 => ?_
        refine region ?_
        refine s0 moveA rfl ?_
        refine s0 (fieldVA (TK rfl) rfl rfl (TK rfl) rfl rfl) rfl ?_
        refine s0 (loadV (TK rfl) rfl rfl rfl) rfl ?_
        refine sHn (mapUpdate (TK rfl) rfl (TK rfl) rfl rfl rfl rfl hpG (seen_upd _ _) rfl) rfl rfl ?_
        refine AOps.heq (h' := ((H.set c2 (some (.map (seenM (insS y11_c2 x19.FName))))).set g3 (some (.tok 1 s3_23.l.length)))) (by first | rfl | (rw [Heap.set_set]; rfl) | (funext n_; simp only [Heap.set]; (repeat' split) <;> first | rfl | (exfalso; simp_all; done) | (simp_all; done))) ?_
        refine nil ?_
        refine hK36 _ ?_
        clear hK36 K36
        refine region ?_
        refine s0 (fieldVA (TK rfl) rfl rfl (TK rfl) rfl rfl) rfl ?_
        refine s0 (loadV (TK rfl) rfl rfl rfl) rfl ?_
        refine s0 assignA rfl ?_
        refine nil ?_
        exact hK25 _ (x32.1.FSels, (insS y11_c2 x19.FName)) Weak.toA hE
       refine AWp.skip ?_
       exact hK25 _ (x19.FSels, y11_c2) Weak.toA hE
      rintro ⟨s17_26, y27_c2⟩ hE
      try dsimp only at hE
      unfold Z55_j25 at hE
      refine region ?_
      refine s0 (loadV (TK rfl) rfl rfl rfl) rfl ?_
      refine s0 moveA rfl ?_
      refine s0 moveA rfl ?_
      refine s0 moveA rfl ?_
      obtain ⟨x28, gx28, hE⟩ := bindO_some hE
      refine sH (callH rfl rfl (ih_16 gx28 _ hpG hpG)) rfl ?_
      refine AOps.heq (h' := ((H.set c2 (some (.map (seenM x28.2)))).set g3 (some (.tok 1 x28.1.l.length)))) (by first | rfl | (rw [Heap.set_set]; rfl) | (funext n_; simp only [Heap.set]; (repeat' split) <;> first | rfl | (exfalso; simp_all; done) | (simp_all; done))) ?_
      refine s0 assignA rfl ?_
      refine nil ?_
      exact hK15 _ (x28.1, x28.2) Weak.toA hE
     rintro ⟨s3_16, y17_c2⟩ hE
     try dsimp only at hE
     unfold Z55_j15 at hE
     refine region ?_
     refine s0 (addIA rfl rfl) rfl ?_
     refine s0 moveA rfl ?_
     refine nil ?_
     exact hK8 _ (n8, s3_16, (s22_10 + 1), y17_c2) Weak.toA hE (Nat.lt_succ_self _)
    refine AWp.exit ?_
    exact hK2 _ (s3_9, y11_c2) Weak.toA hE
 rintro ⟨s3_3, y4_c2⟩ hE
 try dsimp only at hE
 unfold Z55_j2 at hE
 refine seqK fun K5 hK5 => ?_
 refine region ?_
 refine s0 moveA rfl ?_
 refine s0 assignA rfl ?_
 refine nil ?_
 refine hK5 _ ?_
 clear hK5 K5
 refine AWp.ret ?_
 repeat (first | refine xBlock_ret ?_ | refine xThen_ret ?_)
 obtain rfl := Option.some.inj hE
 refine retQ.retF ((H.set c2 (some (.map (seenM y4_c2)))).set g3 (some (.tok 1 s3_3.l.length))) rfl ⟨rfl, rfl⟩ ?_
 exact (fun _ _ h => h)
theorem Z55_all : ∀ (n : Nat), (∀ {a0 : TQuery} {a1 : (Sl TSel)} {a2 : (List Bs)} {a3 : (Sl Bs)} {w1 : Option Nat} {c2 : Nat} {g3 : Nat} {r : ((Sl Bs) × (List Bs))}, Z55_n n a0 a1 a2 a3 = some r → ∀ (H : Heap) (hc2 : H c2 = some (.map (seenM a2))) (hg3 : H g3 = some (.tok 1 a3.l.length)), ACalls Tryd.prog 16 [.agg (TQuery.c a0), .d (Sl.d 7 TSel.c w1 a1), .d (.map c2), .d (Sl.d 1 strE (some g3) a3)] H fun v h' => v = .a (.d (Sl.d 1 strE (some g3) r.1)) ∧ h' = ((H.set c2 (some (.map (seenM r.2)))).set g3 (some (.tok 1 r.1.l.length))))
 | 0 => fun hE => by first | cases hE | (rw [Z55_n] at hE; cases hE)
 | n + 1 => Z55_step n (Z55_all n)
def Z55 (a0 : TQuery) (a1 : (Sl TSel)) (a2 : (List Bs)) (a3 : (Sl Bs)) : Option ((Sl Bs) × (List Bs)) := Z55_n F0 a0 a1 a2 a3
theorem Z55_walk {a0 : TQuery} {a1 : (Sl TSel)} {a2 : (List Bs)} {a3 : (Sl Bs)} {w1 : Option Nat} {c2 : Nat} {g3 : Nat} {r : ((Sl Bs) × (List Bs))} (hE : Z55 a0 a1 a2 a3 = some r) (H : Heap) (hc2 : H c2 = some (.map (seenM a2))) (hg3 : H g3 = some (.tok 1 a3.l.length)) : ACalls Tryd.prog 16 [.agg (TQuery.c a0), .d (Sl.d 7 TSel.c w1 a1), .d (.map c2), .d (Sl.d 1 strE (some g3) a3)] H fun v h' => v = .a (.d (Sl.d 1 strE (some g3) r.1)) ∧ h' = ((H.set c2 (some (.map (seenM r.2)))).set g3 (some (.tok 1 r.1.l.length))) := (Z55_all F0) hE H hc2 hg3
def Z31_j2   : Option Int := some (-1 : Int)
def Z31_l6 (a0 : (Sl Bs)) (a1 : Bs)  : Nat → Nat → Option Int
 | 0, _ => none
 | n6 + 1, s8_7 => bif (decide (((s8_7 : Nat) : Int) < ((a0.l.length : Nat) : Int))) then ((a0.l[s8_7]?).bind fun x14 => bif ((a1 == x14)) then (some ((s8_7 : Nat) : Int)) else ((Z31_l6 a0 a1 n6) (s8_7 + 1))) else (Z31_j2   )
def Z31 (a0 : (Sl Bs)) (a1 : Bs) : Option Int := Z31_l6 a0 a1 (a0.l.length + 1) 0
theorem Z31_walk {a0 : (Sl Bs)} {a1 : Bs} {w0 : Option Nat}  {r : Int} (hE : Z31 a0 a1 = some r) (H : Heap)  : ACalls Tryd.prog 30 [.d (Sl.d 1 strE w0 a0), .d (.str a1)] H fun v h' => v = .a (.d (.int .i64 r)) ∧ h' = H := by
 unfold Z31 at hE
 refine ACalls.of_wp (fn := Tryd.f30) (c := _) Tryd.tab_ok (fun _ _ => Tryd.call30 _ _) Tryd.func30 rfl (n := 19) rfl (rs := [.tmp 4]) rfl rfl ?_
 refine seqK fun K1 hK1 => ?_
 refine region ?_
 refine s0 assignA rfl ?_
 refine nil ?_
 refine hK1 _ ?_
 clear hK1 K1
 refine seqJH KeepsT.nil (fun (z : Unit) => []) (fun z => H) (fun z => Z31_j2  = some r) ?_ ?_
 ·intro K2 hK2
  refine seqK fun K4 hK4 => ?_
  refine region ?_
  refine s0 moveA rfl ?_
  refine sLen (f := strE) (s := a0) (TK rfl) rfl rfl rfl rfl fun hL5 => ?_
  refine s0 moveA rfl ?_
  refine nil ?_
  refine hK4 _ ?_
  clear hK4 K4
  refine block ?_
  refine loopH (KeepsT.A (k := 0) (KeepsT.A (k := 1) (KeepsT.A (k := 7) KeepsT.nil))) (fun (z : Nat × Nat) => [(8, .a (.d (.int .i64 ((z.2 : Nat) : Int))))]) (fun z => H) (fun z => z.1) (fun z => Z31_l6 a0 a1 z.1 z.2 = some r) ((a0.l.length + 1), 0) hE Weak.toA ?_
  rintro ⟨n6, s8_7⟩ hE K6 hK6
  try dsimp only at hE
  cases n6 with
  | zero => cases hE
  | succ n6 =>
    rw [Z31_l6] at hE
    refine seqK fun K8 hK8 => ?_
    refine region ?_
    refine s0 (binI rfl rfl rfl) rfl ?_
    refine nil ?_
    refine hK8 _ ?_
    clear hK8 K8
    refine seqK fun K9 hK9 => ?_
    refine condE hE rfl (fun hc10 hE => ?_) (fun hc10 hE => ?_)
    ·try dsimp only at hc10
     have hf10 := of_decide_eq_true hc10
     refine AWp.skip ?_
     refine hK9 _ ?_
     clear hK9 K9
     refine seqK fun K11 hK11 => ?_
     refine block ?_
     refine seqK fun K12 hK12 => ?_
     refine region ?_
     refine s0 moveA rfl ?_
     refine s0 assignA rfl ?_
     refine nil ?_
     refine hK12 _ ?_
     clear hK12 K12
     refine seqK fun K13 hK13 => ?_
     refine region ?_
     refine s0 moveA rfl ?_
     refine s0 moveA rfl ?_
     refine s0 moveA rfl ?_
     obtain ⟨x14, gx14, hE⟩ := bindO_some hE
     refine s0 (idxMn (f := strE) (n := s8_7) (TK rfl) rfl (TK rfl) rfl rfl rfl gx14) rfl ?_
     refine s0 (loadV (TK rfl) rfl rfl rfl) rfl ?_
     refine s0 (binS rfl rfl rfl) rfl ?_
     refine nil ?_
     refine hK13 _ ?_
     clear hK13 K13
     refine condE hE rfl (fun hc15 hE => ?_) (fun hc15 hE => ?_)
     ·refine seqK fun K16 hK16 => ?_
      refine region ?_
      refine s0 moveA rfl ?_
      refine s0 assignA rfl ?_
      refine nil ?_
      refine hK16 _ ?_
      clear hK16 K16
      refine AWp.ret ?_
      repeat (first | refine xBlock_ret ?_ | refine xThen_ret ?_)
      obtain rfl := Option.some.inj hE
      refine retQ.retF H rfl ⟨rfl, rfl⟩ ?_
      exact (fun _ _ h => h)
     refine AWp.skip ?_
     refine hK11 _ ?_
     clear hK11 K11
     refine region ?_
     refine s0 (addIA rfl rfl) rfl ?_
     refine s0 moveA rfl ?_
     refine nil ?_
     exact hK6 _ (n6, (s8_7 + 1)) Weak.toA hE (Nat.lt_succ_self _)
    refine AWp.exit ?_
    exact hK2 _ () Weak.toA hE
 rintro _ hE
 try dsimp only at hE
 unfold Z31_j2 at hE
 refine seqK fun K3 hK3 => ?_
 refine region ?_
 refine s0 assignA rfl ?_
 refine nil ?_
 refine hK3 _ ?_
 clear hK3 K3
 refine AWp.ret ?_
 repeat (first | refine xBlock_ret ?_ | refine xThen_ret ?_)
 obtain rfl := Option.some.inj hE
 refine retQ.retF H rfl ⟨rfl, rfl⟩ ?_
 exact (fun _ _ h => h)
def Z27 (a0 : (Sl Bs)) (a1 : Bs) : Option Bool := (Z31 a0 a1).bind fun x3 => some (decide ((0 : Int) ≤ x3))
theorem Z27_walk {a0 : (Sl Bs)} {a1 : Bs} {w0 : Option Nat}  {r : Bool} (hE : Z27 a0 a1 = some r) (H : Heap)  : ACalls Tryd.prog 17 [.d (Sl.d 1 strE w0 a0), .d (.str a1)] H fun v h' => v = .a (.d (.bool r)) ∧ h' = H := by
 unfold Z27 at hE
 refine ACalls.of_wp (fn := Tryd.f17) (c := _) Tryd.tab_ok (fun _ _ => Tryd.call17 _ _) Tryd.func17 rfl (n := 9) rfl (rs := [.tmp 4]) rfl rfl ?_
 refine seqK fun K1 hK1 => ?_
 refine region ?_
 refine s0 assignA rfl ?_
 refine nil ?_
 refine hK1 _ ?_
 clear hK1 K1
 refine seqK fun K2 hK2 => ?_
 refine region ?_
 refine s0 moveA rfl ?_
 refine s0 moveA rfl ?_
 obtain ⟨x3, gx3, hE⟩ := bindO_some hE
 refine s0 (callP rfl rfl (fun H => Z31_walk gx3 H)) rfl ?_
 refine s0 (binI rfl rfl rfl) rfl ?_
 refine s0 assignA rfl ?_
 refine nil ?_
 refine hK2 _ ?_
 clear hK2 K2
 refine AWp.ret ?_
 repeat (first | refine xBlock_ret ?_ | refine xThen_ret ?_)
 obtain rfl := Option.some.inj hE
 refine retQ.retF H rfl ⟨rfl, rfl⟩ ?_
 exact (fun _ _ h => h)
def Z46_j7  (s5_8 : (Sl Bs)) : Option (Sl Bs) := some s5_8
def Z46_j21 (s27_17 : Int) (k_next_15 : (Sl Bs) → Int → Option (Sl Bs)) (s5_22 : (Sl Bs)) : Option (Sl Bs) := (addC s27_17 (1 : Int)).bind fun x23 => k_next_15 s5_22 x23
def Z46_l15 (x14 : ((Sl Bs) × (List Bs)))  : Nat → (Sl Bs) → Int → Option (Sl Bs)
 | 0, _, _ => none
 | n15 + 1, s5_16, s27_17 => bif (decide (s27_17 < ((x14.1.l.length : Nat) : Int))) then ((idxC x14.1.l s27_17).bind fun x25 => (Z27 s5_16 x25).bind fun x27 => bif (!x27) then ((appC 16 s5_16 (⟨false, [x25]⟩ : Sl Bs)).bind fun x29 => Z46_j21 s27_17 ((Z46_l15 x14 n15)) x29) else (Z46_j21 s27_17 ((Z46_l15 x14 n15)) s5_16)) else (Z46_j7   s5_16)
def Z46 (a0 : TQuery) (a1 : Int) : Option (Sl Bs) := bif ((decide (a1 < (0 : Int))) || (decide (((a0.FOps.l.length : Nat) : Int) ≤ a1))) then (some (Sl.nil : Sl Bs)) else ((idxC a0.FOps.l a1).bind fun x13 => (Z55 a0 x13.FSels ([] : List Bs) (Sl.nil : Sl Bs)).bind fun x14 => Z46_l15 x14 F0 (Sl.nil : Sl Bs) (0 : Int))
theorem Z46_walk {a0 : TQuery} {a1 : Int}   {r : (Sl Bs)} (hE : Z46 a0 a1 = some r) (H : Heap)  : ACalls Tryd.prog 7 [.agg (TQuery.c a0), .d (.int .i64 a1)] H fun v h' => v = .a (.d (Sl.d 1 strE none r)) ∧ h' = H := by
 unfold Z46 at hE
 refine ACalls.of_wp (fn := Tryd.f7) (c := _) Tryd.tab_ok (fun _ _ => Tryd.call7 _ _) Tryd.func7 rfl (n := 41) rfl (rs := [.tmp 4]) rfl rfl ?_
 refine AWp.tok 1 fun tk1 htk1 => ?_
 refine seqK fun K1 hK1 => ?_
 refine region ?_
 refine s0 (boxV rfl) rfl ?_
 refine s0 (assignNil (k' := 1) rfl) rfl ?_
 refine nil ?_
 refine hK1 _ ?_
 clear hK1 K1
 refine seqK fun K2 hK2 => ?_
 refine seqK fun K3 hK3 => ?_
 refine region ?_
 refine s0 moveA rfl ?_
 refine s0 (binI rfl rfl rfl) rfl ?_
 refine s0 moveA rfl ?_
 refine gC rfl rfl (fun hC => moveA) rfl ?_
 refine gC rfl rfl (fun hC => fieldVA (TK rfl) rfl rfl (TK rfl) rfl rfl) rfl ?_
 refine gC rfl rfl (fun hC => ungdA (k := 12) rfl (loadV (TK rfl) rfl rfl rfl)) rfl ?_
 refine gC rfl rfl (fun hC => ungdA (k := 13) rfl (lenM' (f := TOp.c) (s := a0.FOps) (TK rfl) rfl rfl rfl)) rfl ?_
 refine gC rfl rfl (fun hC => ungdA (k := 11) rfl (ungdA (k := 14) rfl (binI rfl rfl rfl))) rfl ?_
 refine s0 (pickOrA rfl rfl rfl) rfl ?_
 refine nil ?_
 refine hK3 _ ?_
 clear hK3 K3
 refine condE hE rfl (fun hc4 hE => ?_) (fun hc4 hE => ?_)
 ·refine seqK fun K5 hK5 => ?_
  refine region ?_
  refine s0 (assignNil (k' := 1) rfl) rfl ?_
  refine nil ?_
  refine hK5 _ ?_
  clear hK5 K5
  refine AWp.ret ?_
  repeat (first | refine xBlock_ret ?_ | refine xThen_ret ?_)
  obtain rfl := Option.some.inj hE
  refine retQ.retF H rfl ⟨rfl, rfl⟩ ?_
  first | exact Heap.sub_set htk1 | (simp only [Heap.set_set]; exact Heap.sub_set htk1)
 refine AWp.skip ?_
 refine hK2 _ ?_
 clear hK2 K2
 refine seqK fun K6 hK6 => ?_
 refine region ?_
 refine s0 assignA rfl ?_
 refine nil ?_
 refine hK6 _ ?_
 clear hK6 K6
 refine AWp.nilTok 5 1 tk1 rfl hpG ?_
 refine seqJH KeepsT.nil (fun (z : (Sl Bs)) => [(5, .a (.d (Sl.d 1 strE (some tk1) z)))]) (fun z => (H.set tk1 (some (.tok 1 z.l.length)))) (fun z => Z46_j7 z = some r) ?_ ?_
 ·intro K7 hK7
  refine seqK fun K10 hK10 => ?_
  refine AWp.tok 0 fun id24_11 hid24_11 => ?_
  obtain ⟨ne_id24_11_tk1, hid24_11⟩ := Heap.set_fresh hid24_11
  refine AWp.tok 1 fun tk3_12 htk3_12 => ?_
  obtain ⟨ne_tk3_12_id24_11, htk3_12⟩ := Heap.set_fresh htk3_12
  obtain ⟨ne_tk3_12_tk1, htk3_12⟩ := Heap.set_fresh htk3_12
  refine AWp.draw rfl ?_
  refine DOps.s0 (loadV (TK rfl) rfl rfl rfl) rfl ?_
  refine DOps.s0 (fieldVA (TK rfl) rfl rfl (TK rfl) rfl rfl) rfl ?_
  refine DOps.s0 (loadV (TK rfl) rfl rfl rfl) rfl ?_
  refine DOps.s0 moveA rfl ?_
  obtain ⟨x13, gx13, hE⟩ := bindO_some hE
  refine DOps.s0 (idxM (f := TOp.c) (TK rfl) rfl (TK rfl) rfl rfl rfl gx13) rfl ?_
  refine DOps.s0 (fieldVA (TK rfl) rfl rfl (TK rfl) rfl rfl) rfl ?_
  refine DOps.s0 (loadV (TK rfl) rfl rfl rfl) rfl ?_
  refine DOps.sH (makeMapT (id := id24_11) hpG) rfl ?_
  refine DOps.heq (h' := (((H.set tk1 (some (.tok 1 0))).set id24_11 (some (.map (seenM ([] : List Bs))))).set tk3_12 (some (.tok 1 0)))) (by first | rfl | (rw [Heap.set_set]; rfl) | (funext n_; simp only [Heap.set]; (repeat' split) <;> first | rfl | (exfalso; simp_all; done) | (simp_all; done))) ?_
  obtain ⟨x14, gx14, hE⟩ := bindO_some hE
  refine DOps.sH (callH rfl rfl (ACalls.asArgs (.cons (.refl _) (.cons (.refl _) (.cons (.refl _) (.cons (AsArg.nil (k' := 1) (t := tk3_12) hpG) .nil)))) (Z55_walk gx14 _ hpG hpG))) rfl ?_
  refine DOps.heq (h' := (((H.set tk1 (some (.tok 1 0))).set id24_11 (some (.map (seenM x14.2)))).set tk3_12 (some (.tok 1 x14.1.l.length)))) (by first | rfl | (rw [Heap.set_set]; rfl) | (funext n_; simp only [Heap.set]; (repeat' split) <;> first | rfl | (exfalso; simp_all; done) | (simp_all; done))) ?_
  refine DOps.s0 (lenM' (f := strE) (s := x14.1) (TK rfl) rfl rfl rfl) rfl ?_
  refine DOps.s0 moveA rfl ?_
  refine DOps.nil (by decide +kernel) ?_
  refine hK10 _ ?_
  clear hK10 K10
  refine AWp.dropTok 25 rfl ?_
  refine block ?_
  refine loopH (KeepsT.A (k := 25) (KeepsT.A (k := 26) KeepsT.nil)) (fun (z : Nat × (Sl Bs) × Int) => [(5, .a (.d (Sl.d 1 strE (some tk1) z.2.1))), (27, .a (.d (.int .i64 z.2.2)))]) (fun z => (((H.set tk1 (some (.tok 1 z.2.1.l.length))).set id24_11 (some (.map (seenM x14.2)))).set tk3_12 (some (.tok 1 x14.1.l.length)))) (fun z => z.1) (fun z => Z46_l15 x14 z.1 z.2.1 z.2.2 = some r) (F0, (Sl.nil : Sl Bs), (0 : Int)) hE Weak.toA ?_
  rintro ⟨n15, s5_16, s27_17⟩ hE K15 hK15
  try dsimp only at hE
  cases n15 with
  | zero => cases hE
  | succ n15 =>
    rw [Z46_l15] at hE
    refine seqK fun K18 hK18 => ?_
    refine region ?_
    refine s0 (binI rfl rfl rfl) rfl ?_
    refine nil ?_
    refine hK18 _ ?_
    clear hK18 K18
    refine seqK fun K19 hK19 => ?_
    refine condE hE rfl (fun hc20 hE => ?_) (fun hc20 hE => ?_)
    ·refine AWp.skip ?_
     refine hK19 _ ?_
     clear hK19 K19
     refine seqJH (KeepsT.A (k := 25) (KeepsT.A (k := 26) (KeepsT.A (k := 27) KeepsT.nil))) (fun (z : (Sl Bs)) => [(5, .a (.d (Sl.d 1 strE (some tk1) z)))]) (fun z => (((H.set tk1 (some (.tok 1 z.l.length))).set id24_11 (some (.map (seenM x14.2)))).set tk3_12 (some (.tok 1 x14.1.l.length)))) (fun z => Z46_j21 s27_17 ((Z46_l15 x14 n15)) z = some r) ?_ ?_
     ·intro K21 hK21
      refine block ?_
      refine seqK fun K24 hK24 => ?_
      refine region ?_
      obtain ⟨x25, gx25, hE⟩ := bindO_some hE
      refine s0 (idxM (f := strE) (TK rfl) rfl (TK rfl) rfl rfl rfl gx25) rfl ?_
      refine s0 (loadV (TK rfl) rfl rfl rfl) rfl ?_
      refine s0 assignA rfl ?_
      refine nil ?_
      refine hK24 _ ?_
      clear hK24 K24
      refine seqK fun K26 hK26 => ?_
      refine region ?_
      refine s0 moveA rfl ?_
      refine s0 moveA rfl ?_
      obtain ⟨x27, gx27, hE⟩ := bindO_some hE
      refine s0 (callP rfl rfl (fun H => Z27_walk gx27 H)) rfl ?_
      refine s0 (notB rfl) rfl ?_
      refine nil ?_
      refine hK26 _ ?_
      clear hK26 K26
      refine condE hE rfl (fun hc28 hE => ?_) (fun hc28 hE => ?_)
      ·refine region ?_
       refine s0 moveA rfl ?_
       refine s0 moveA rfl ?_
       refine s0 (buildSlice (TK rfl) rfl (TK rfl) rfl rfl rfl rfl rfl rfl) rfl ?_
       obtain ⟨x29, gx29, hE⟩ := bindO_some hE
       refine sH (appM (f := strE) (TK rfl) rfl (TK rfl) (TK rfl) ⟨_, rfl⟩ rfl rfl (by decide) rfl rfl rfl rfl hpG rfl gx29) rfl ?_
       refine AOps.heq (h' := (((H.set tk1 (some (.tok 1 x29.l.length))).set id24_11 (some (.map (seenM x14.2)))).set tk3_12 (some (.tok 1 x14.1.l.length)))) (by first | rfl | (rw [Heap.set_set]; rfl) | (funext n_; simp only [Heap.set]; (repeat' split) <;> first | rfl | (exfalso; simp_all; done) | (simp_all; done))) ?_
       refine s0 assignA rfl ?_
       refine nil ?_
       exact hK21 _ x29 Weak.toA hE
      refine AWp.skip ?_
      exact hK21 _ s5_16 Weak.toA hE
     rintro s5_22 hE
     try dsimp only at hE
     unfold Z46_j21 at hE
     refine region ?_
     obtain ⟨x23, gx23, hE⟩ := bindO_some hE
     refine s0 (addM rfl rfl gx23) rfl ?_
     refine s0 moveA rfl ?_
     refine nil ?_
     exact hK15 _ (n15, s5_22, x23) Weak.toA hE (Nat.lt_succ_self _)
    refine AWp.exit ?_
    exact hK7 _ s5_16 (Weak.toFA (by (intro id_ o_ he_); (have e_id24_11 : id_ ≠ id24_11 := fun e_ => by rw [e_] at he_; simp [Heap.set, hid24_11, ne_id24_11_tk1] at he_); (have e_tk3_12 : id_ ≠ tk3_12 := fun e_ => by rw [e_] at he_; simp [Heap.set, htk3_12, ne_tk3_12_tk1] at he_); (rw [← he_]); (simp only [Heap.set, if_neg e_id24_11, if_neg e_tk3_12]); (first | done | rfl))) hE
 rintro s5_8 hE
 try dsimp only at hE
 unfold Z46_j7 at hE
 refine seqK fun K9 hK9 => ?_
 refine region ?_
 refine s0 moveA rfl ?_
 refine s0 assignA rfl ?_
 refine nil ?_
 refine hK9 _ ?_
 clear hK9 K9
 refine AWp.dropTok 4 rfl ?_
 refine AWp.ret ?_
 repeat (first | refine xBlock_ret ?_ | refine xThen_ret ?_)
 obtain rfl := Option.some.inj hE
 refine retQ.retF H rfl ⟨rfl, rfl⟩ ?_
 first | exact Heap.sub_set htk1 | (simp only [Heap.set_set]; exact Heap.sub_set htk1)
def Z29_j8   : Option Bool := some true
def Z29_l12 (a0 : (Sl Int)) (a1 : (Sl Int))  : Nat → Nat → Option Bool
 | 0, _ => none
 | n12 + 1, s13_13 => bif (decide (((s13_13 : Nat) : Int) < ((a0.l.length : Nat) : Int))) then ((a0.l[s13_13]?).bind fun x20 => (a1.l[s13_13]?).bind fun x21 => bif (!decide (x20 = x21)) then (some false) else ((Z29_l12 a0 a1 n12) (s13_13 + 1))) else (Z29_j8   )
def Z29 (a0 : (Sl Int)) (a1 : (Sl Int)) : Option Bool := bif (!decide (((a0.l.length : Nat) : Int) = ((a1.l.length : Nat) : Int))) then (some false) else (Z29_l12 a0 a1 (a0.l.length + 1) 0)
theorem Z29_walk {a0 : (Sl Int)} {a1 : (Sl Int)} {w0 : Option Nat} {w1 : Option Nat}  {r : Bool} (hE : Z29 a0 a1 = some r) (H : Heap)  : ACalls Tryd.prog 57 [.d (Sl.d 1 (intE .i64) w0 a0), .d (Sl.d 1 (intE .i64) w1 a1)] H fun v h' => v = .a (.d (.bool r)) ∧ h' = H := by
 unfold Z29 at hE
 refine ACalls.of_wp (fn := Tryd.f57) (c := _) Tryd.tab_ok (fun _ _ => Tryd.call57 _ _) Tryd.func57 rfl (n := 26) rfl (rs := [.tmp 4]) rfl rfl ?_
 refine seqK fun K1 hK1 => ?_
 refine region ?_
 refine s0 assignA rfl ?_
 refine nil ?_
 refine hK1 _ ?_
 clear hK1 K1
 refine seqK fun K2 hK2 => ?_
 refine seqK fun K3 hK3 => ?_
 refine region ?_
 refine s0 moveA rfl ?_
 refine sLen (f := (intE .i64)) (s := a0) (TK rfl) rfl rfl rfl rfl fun hL4 => ?_
 refine s0 moveA rfl ?_
 refine sLen (f := (intE .i64)) (s := a1) (TK rfl) rfl rfl rfl rfl fun hL5 => ?_
 refine s0 (binI rfl rfl rfl) rfl ?_
 refine nil ?_
 refine hK3 _ ?_
 clear hK3 K3
 refine condE hE rfl (fun hc6 hE => ?_) (fun hc6 hE => ?_)
 ·refine seqK fun K7 hK7 => ?_
  refine region ?_
  refine s0 assignA rfl ?_
  refine nil ?_
  refine hK7 _ ?_
  clear hK7 K7
  refine AWp.ret ?_
  repeat (first | refine xBlock_ret ?_ | refine xThen_ret ?_)
  obtain rfl := Option.some.inj hE
  refine retQ.retF H rfl ⟨rfl, rfl⟩ ?_
  exact (fun _ _ h => h)
 refine AWp.skip ?_
 refine hK2 _ ?_
 clear hK2 K2
 refine seqJH KeepsT.nil (fun (z : Unit) => []) (fun z => H) (fun z => Z29_j8  = some r) ?_ ?_
 ·intro K8 hK8
  refine seqK fun K10 hK10 => ?_
  refine region ?_
  refine s0 moveA rfl ?_
  refine sLen (f := (intE .i64)) (s := a0) (TK rfl) rfl rfl rfl rfl fun hL11 => ?_
  refine s0 moveA rfl ?_
  refine nil ?_
  refine hK10 _ ?_
  clear hK10 K10
  refine block ?_
  refine loopH (KeepsT.A (k := 0) (KeepsT.A (k := 1) (KeepsT.A (k := 12) KeepsT.nil))) (fun (z : Nat × Nat) => [(13, .a (.d (.int .i64 ((z.2 : Nat) : Int))))]) (fun z => H) (fun z => z.1) (fun z => Z29_l12 a0 a1 z.1 z.2 = some r) ((a0.l.length + 1), 0) hE Weak.toA ?_
  rintro ⟨n12, s13_13⟩ hE K12 hK12
  try dsimp only at hE
  cases n12 with
  | zero => cases hE
  | succ n12 =>
    rw [Z29_l12] at hE
    refine seqK fun K14 hK14 => ?_
    refine region ?_
    refine s0 (binI rfl rfl rfl) rfl ?_
    refine nil ?_
    refine hK14 _ ?_
    clear hK14 K14
    refine seqK fun K15 hK15 => ?_
    refine condE hE rfl (fun hc16 hE => ?_) (fun hc16 hE => ?_)
    ·try dsimp only at hc16
     have hf16 := of_decide_eq_true hc16
     refine AWp.skip ?_
     refine hK15 _ ?_
     clear hK15 K15
     refine seqK fun K17 hK17 => ?_
     refine block ?_
     refine seqK fun K18 hK18 => ?_
     refine region ?_
     refine s0 moveA rfl ?_
     refine s0 assignA rfl ?_
     refine nil ?_
     refine hK18 _ ?_
     clear hK18 K18
     refine seqK fun K19 hK19 => ?_
     refine AWp.draw rfl ?_
     refine DOps.s0 moveA rfl ?_
     refine DOps.s0 moveA rfl ?_
     obtain ⟨x20, gx20, hE⟩ := bindO_some hE
     refine DOps.s0 (idxMn (f := (intE .i64)) (n := s13_13) (TK rfl) rfl (TK rfl) rfl rfl rfl gx20) rfl ?_
     refine DOps.s0 (loadV (TK rfl) rfl rfl rfl) rfl ?_
     refine DOps.s0 moveA rfl ?_
     refine DOps.s0 moveA rfl ?_
     obtain ⟨x21, gx21, hE⟩ := bindO_some hE
     refine DOps.s0 (idxMn (f := (intE .i64)) (n := s13_13) (TK rfl) rfl (TK rfl) rfl rfl rfl gx21) rfl ?_
     refine DOps.s0 (loadV (TK rfl) rfl rfl rfl) rfl ?_
     refine DOps.s0 (binI rfl rfl rfl) rfl ?_
     refine DOps.nil (by decide +kernel) ?_
     refine hK19 _ ?_
     clear hK19 K19
     refine condE hE rfl (fun hc22 hE => ?_) (fun hc22 hE => ?_)
     ·refine seqK fun K23 hK23 => ?_
      refine region ?_
      refine s0 assignA rfl ?_
      refine nil ?_
      refine hK23 _ ?_
      clear hK23 K23
      refine AWp.ret ?_
      repeat (first | refine xBlock_ret ?_ | refine xThen_ret ?_)
      obtain rfl := Option.some.inj hE
      refine retQ.retF H rfl ⟨rfl, rfl⟩ ?_
      exact (fun _ _ h => h)
     refine AWp.skip ?_
     refine hK17 _ ?_
     clear hK17 K17
     refine region ?_
     refine s0 (addIA rfl rfl) rfl ?_
     refine s0 moveA rfl ?_
     refine nil ?_
     exact hK12 _ (n12, (s13_13 + 1)) Weak.toA hE (Nat.lt_succ_self _)
    refine AWp.exit ?_
    exact hK8 _ () Weak.toA hE
 rintro _ hE
 try dsimp only at hE
 unfold Z29_j8 at hE
 refine seqK fun K9 hK9 => ?_
 refine region ?_
 refine s0 assignA rfl ?_
 refine nil ?_
 refine hK9 _ ?_
 clear hK9 K9
 refine AWp.ret ?_
 repeat (first | refine xBlock_ret ?_ | refine xThen_ret ?_)
 obtain rfl := Option.some.inj hE
 refine retQ.retF H rfl ⟨rfl, rfl⟩ ?_
 exact (fun _ _ h => h)
def Z25 (a0 : (Sl Int)) : Option (Sl Int) := bif a0.nl then (some (Sl.nil : Sl Int)) else ((appC 8 (⟨false, []⟩ : Sl Int) a0).bind fun x7 => some x7)
theorem Z25_walk {a0 : (Sl Int)} {w0 : Option Nat}  {r : (Sl Int)} (hE : Z25 a0 = some r) (H : Heap)  : ACalls Tryd.prog 81 [.d (Sl.d 1 (intE .i64) w0 a0)] H fun v h' => v = .a (.d (Sl.d 1 (intE .i64) none r)) ∧ h' = H := by
 unfold Z25 at hE
 refine ACalls.of_wp (fn := Tryd.f81) (c := _) Tryd.tab_ok (fun _ _ => Tryd.call81 _ _) Tryd.func81 rfl (n := 8) rfl (rs := [.tmp 2]) rfl rfl ?_
 refine seqK fun K1 hK1 => ?_
 refine region ?_
 refine s0 (assignNil (k' := 1) rfl) rfl ?_
 refine nil ?_
 refine hK1 _ ?_
 clear hK1 K1
 refine seqK fun K2 hK2 => ?_
 refine seqK fun K3 hK3 => ?_
 refine region ?_
 refine s0 moveA rfl ?_
 refine s0 (eqNil (TK rfl) rfl rfl) rfl ?_
 refine nil ?_
 refine hK3 _ ?_
 clear hK3 K3
 refine condE hE rfl (fun hc4 hE => ?_) (fun hc4 hE => ?_)
 ·refine seqK fun K5 hK5 => ?_
  refine region ?_
  refine s0 (assignNil (k' := 1) rfl) rfl ?_
  refine nil ?_
  refine hK5 _ ?_
  clear hK5 K5
  refine AWp.ret ?_
  repeat (first | refine xBlock_ret ?_ | refine xThen_ret ?_)
  obtain rfl := Option.some.inj hE
  refine retQ.retF H rfl ⟨rfl, rfl⟩ ?_
  exact (fun _ _ h => h)
 refine AWp.skip ?_
 refine hK2 _ ?_
 clear hK2 K2
 refine seqK fun K6 hK6 => ?_
 refine region ?_
 refine s0 (buildSliceF (TK rfl) rfl (TK rfl) rfl rfl rfl rfl rfl rfl) rfl ?_
 refine s0 moveA rfl ?_
 obtain ⟨x7, gx7, hE⟩ := bindO_some hE
 refine s0 (appFM (f := (intE .i64)) (TK rfl) rfl (TK rfl) (TK rfl) ⟨_, rfl⟩ rfl rfl (by decide) rfl rfl rfl (by intro q h; cases h <;> decide) rfl rfl gx7) rfl ?_
 refine s0 assignA rfl ?_
 refine nil ?_
 refine hK6 _ ?_
 clear hK6 K6
 refine AWp.ret ?_
 repeat (first | refine xBlock_ret ?_ | refine xThen_ret ?_)
 obtain rfl := Option.some.inj hE
 refine retQ.retF H rfl ⟨rfl, rfl⟩ ?_
 exact (fun _ _ h => h)
theorem Z25_arr {a0 : (Sl Int)} {w0 : Option Nat}  {ar0 : Nat} {r : (Sl Int)} (hE : Z25 a0 = some r) (H : Heap) (har0 : H ar0 = some (.arr 1 []))  : ACalls Tryd.prog 81 [.d (Sl.d 1 (intE .i64) w0 a0)] H fun v h' => v = .a (.d (.arr 1 ar0 r.nl r.l.length)) ∧ h' = H.set ar0 (some (.arr 1 (r.l.map (intE .i64)))) := by
 unfold Z25 at hE
 refine ACalls.of_wp (fn := Tryd.f81) (c := _) Tryd.tab_ok (fun _ _ => Tryd.call81 _ _) Tryd.func81 rfl (n := 8) rfl (rs := [.tmp 2]) rfl rfl ?_
 refine AWp.heqA (h' := (H.set ar0 (some (.arr 1 [])))) (by funext n_; simp only [Heap.set]; (repeat' split) <;> simp_all) ?_
 refine seqK fun K1 hK1 => ?_
 refine region ?_
 refine s0 (assignNil (k' := 1) rfl) rfl ?_
 refine AOps.nilR 2 1 ar0 rfl hpG ?_
 refine nil ?_
 refine hK1 _ ?_
 clear hK1 K1
 refine seqK fun K2 hK2 => ?_
 refine seqK fun K3 hK3 => ?_
 refine region ?_
 refine s0 moveA rfl ?_
 refine s0 (eqNil (TK rfl) rfl rfl) rfl ?_
 refine nil ?_
 refine hK3 _ ?_
 clear hK3 K3
 refine condE hE rfl (fun hc4 hE => ?_) (fun hc4 hE => ?_)
 ·refine seqK fun K5 hK5 => ?_
  refine region ?_
  refine s0 (assignNil (k' := 1) rfl) rfl ?_
  refine AOps.nilR 2 1 ar0 rfl hpG ?_
  refine nil ?_
  refine hK5 _ ?_
  clear hK5 K5
  refine AWp.ret ?_
  repeat (first | refine xBlock_ret ?_ | refine xThen_ret ?_)
  obtain rfl := Option.some.inj hE
  refine retQ.retF (H.set ar0 (some (.arr 1 []))) rfl ⟨rfl, rfl⟩ ?_
  exact (fun _ _ h => h)
 refine AWp.skip ?_
 refine hK2 _ ?_
 clear hK2 K2
 refine seqK fun K6 hK6 => ?_
 refine region ?_
 refine s0 (buildSliceF (TK rfl) rfl (TK rfl) rfl rfl rfl rfl rfl rfl) rfl ?_
 refine AOps.fullR 5 1 ar0 rfl hpG ?_
 refine s0 moveA rfl ?_
 obtain ⟨x7, gx7, hE⟩ := bindO_some hE
 refine sH (appR (f := (intE .i64)) (s := (⟨false, []⟩ : Sl Int)) (TK rfl) rfl (TK rfl) (TK rfl) ⟨_, rfl⟩ rfl rfl rfl rfl rfl rfl hpG (by first | rfl | simp [Sl.setL, Sl.nil, sortL_len]) rfl gx7) rfl ?_
 refine AOps.heq (h' := (H.set ar0 (some (.arr 1 (x7.l.map (intE .i64)))))) (by first | rfl | (rw [Heap.set_set]; rfl) | (funext n_; simp only [Heap.set]; (repeat' split) <;> first | rfl | (exfalso; simp_all; done) | (simp_all; done))) ?_
 refine s0 assignA rfl ?_
 refine nil ?_
 refine hK6 _ ?_
 clear hK6 K6
 refine AWp.ret ?_
 repeat (first | refine xBlock_ret ?_ | refine xThen_ret ?_)
 obtain rfl := Option.some.inj hE
 refine retQ.retF (H.set ar0 (some (.arr 1 (x7.l.map (intE .i64))))) rfl ⟨rfl, rfl⟩ ?_
 exact (fun _ _ h => h)
end Go.Proofs

namespace Go.Proofs
open Go Go.Ab
open AOps Cert AWp
def Tryd.lay82_ren : Go.Shelf.Ren := ⟨fun | 10 => 82 | 6 => 91 | n => n, fun | 22 => 30 | 23 => 3 | 25 => 136 | 3 => 3 | 4 => 4 | 0 => 0 | n => n, fun | n => n⟩
theorem Tryd.lay82 : Go.Proofs.SlLaysH.n10 Tryd.prog Tryd.lay82_ren := {
 mixed := by kernel_rfl
 f6 := ⟨Tryd.f91.name, by decide, Tryd.func91.trans (congrArg some (by kernel_rfl))⟩
 f10 := ⟨Tryd.f82.name, by decide, Tryd.func82.trans (congrArg some (by kernel_rfl))⟩
 t0 := Tryd.underlying0
 a0 := Tryd.isAgg0
 z0 := Tryd.sizeOf0
 v0 := Tryd.zeroValue0
 t3 := Tryd.underlying3
 a3 := Tryd.isAgg3
 z3 := Tryd.sizeOf3
 v3 := Tryd.zeroValue3
 t4 := Tryd.underlying4
 a4 := Tryd.isAgg4
 z4 := Tryd.sizeOf4
 v4 := Tryd.zeroValue4
 t22 := Tryd.underlying30
 a22 := Tryd.isAgg30
 z22 := Tryd.sizeOf30
 v22 := Tryd.zeroValue30
 a23 := Tryd.isAgg3
 z23 := Tryd.sizeOf3
 t25 := Tryd.underlying136
 a25 := Tryd.isAgg136
 z25 := Tryd.sizeOf136
 v25 := Tryd.zeroValue136 }
theorem Z28_walk {s : Sl Int} {f : Int → Option Bool} {g : Nat} (ht : ∀ x, ∃ z, f x = some z) (eg : ∀ args w, (callFunc g args).run Tryd.prog w = .ok (.enter g args) w) (hg : ∀ x z w, f x = some z → Calls Tryd.prog g #[.int .i64 x] w fun e w' => e = .returned (.bool z) ∧ w' = w)
  {H : Heap} {id m : Nat} {nl : Bool} (hH : H id = some (.arr 1 (s.l.map (intE .i64)))) (hm : m = s.l.length) (hn : nl = s.nl) : ACalls Tryd.prog 82 [.d (.arr 1 id nl m), .d (.func g [])] H fun r h' => r = .a (.d (Sl.d 1 (intE .i64) none (delL f s))) ∧ h' = H.set id none :=
 delI_calls Tryd.lay82 Tryd.zeroValue3 ht eg hg hH hm hn rfl
def Z43 (a0 : Int) : Option Bool := some (decide (a0 = (1 : Int)))
theorem Z43_tot (x : Int) : ∃ z, Z43 x = some z := ⟨_, rfl⟩
theorem Z43_enter (args : Array Value) (w : World) : (callFunc 83 args).run Tryd.prog w = .ok (.enter 83 args) w := Tryd.call83 args w
theorem Z43_calls (x : Int) (z : Bool) (w : World) (h : Z43 x = some z) : Calls Tryd.prog 83 #[.int .i64 x] w fun e w' => e = .returned (.bool z) ∧ w' = w := by
 obtain rfl := Option.some.inj h
 go_enter Tryd.func83, Tryd.ntmps83
 go_wp2
 go_ret
 exact ⟨rfl, rfl⟩
def Z42 (a0 : (Sl Int)) : Option (Sl Int) := (Z25 a0).bind fun x3 => (some (delL Z43 x3)).bind fun x4 => some x4
theorem Z42_walk {a0 : (Sl Int)} {w0 : Option Nat}  {r : (Sl Int)} (hE : Z42 a0 = some r) (H : Heap)  : ACalls Tryd.prog 70 [.d (Sl.d 1 (intE .i64) w0 a0)] H fun v h' => v = .a (.d (Sl.d 1 (intE .i64) none r)) ∧ h' = H := by
 unfold Z42 at hE
 refine ACalls.of_wp (fn := Tryd.f70) (c := _) Tryd.tab_ok (fun _ _ => Tryd.call70 _ _) Tryd.func70 rfl (n := 6) rfl (rs := [.tmp 2]) rfl rfl ?_
 refine AWp.arrO 1 fun ar1 har1 => ?_
 refine seqK fun K1 hK1 => ?_
 refine region ?_
 refine s0 (assignNil (k' := 1) rfl) rfl ?_
 refine nil ?_
 refine hK1 _ ?_
 clear hK1 K1
 refine seqK fun K2 hK2 => ?_
 refine region ?_
 refine s0 moveA rfl ?_
 obtain ⟨x3, gx3, hE⟩ := bindO_some hE
 refine sH (callH rfl rfl (Z25_arr gx3 _ hpG)) rfl ?_
 refine AOps.heq (h' := (H.set ar1 (some (.arr 1 (x3.l.map (intE .i64)))))) (by first | rfl | (rw [Heap.set_set]; rfl) | (funext n_; simp only [Heap.set]; (repeat' split) <;> first | rfl | (exfalso; simp_all; done) | (simp_all; done))) ?_
 obtain ⟨x4, gx4, hE⟩ := bindO_some hE
 have ex4 := Option.some.inj gx4
 refine sH (callH rfl rfl (Z28_walk (s := x3) (f := Z43) Z43_tot Z43_enter Z43_calls hpG (by first | rfl | simp [Sl.setL, Sl.nil, sortL_len]) rfl)) rfl ?_
 refine AOps.heq (h' := H) (by first | rfl | (rw [Heap.set_set]; rfl) | (funext n_; simp only [Heap.set]; (repeat' split) <;> first | rfl | (exfalso; simp_all; done) | (simp_all; done))) ?_
 rw [ex4]
 refine s0 assignA rfl ?_
 refine nil ?_
 refine hK2 _ ?_
 clear hK2 K2
 refine AWp.ret ?_
 repeat (first | refine xBlock_ret ?_ | refine xThen_ret ?_)
 obtain rfl := Option.some.inj hE
 refine retQ.retF H rfl ⟨rfl, rfl⟩ ?_
 exact (fun _ _ h => h)
def Z40 (a0 : TRef) (a1 : TRef) : Option Bool := guardO (((a0.FName == a1.FName))) (Z42 a0.FWraps) (Sl.nil : Sl Int) fun x3 => guardO (((a0.FName == a1.FName))) (Z42 a1.FWraps) (Sl.nil : Sl Int) fun x4 => guardO (((a0.FName == a1.FName))) (Z29 x3 x4) false fun x5 => some (((a0.FName == a1.FName)) && x5)
theorem Z40_walk {a0 : TRef} {a1 : TRef}   {r : Bool} (hE : Z40 a0 a1 = some r) (H : Heap)  : ACalls Tryd.prog 54 [.agg (TRef.c a0), .agg (TRef.c a1)] H fun v h' => v = .a (.d (.bool r)) ∧ h' = H := by
 unfold Z40 at hE
 refine ACalls.of_wp (fn := Tryd.f54) (c := _) Tryd.tab_ok (fun _ _ => Tryd.call54 _ _) Tryd.func54 rfl (n := 19) rfl (rs := [.tmp 4]) rfl rfl ?_
 refine seqK fun K1 hK1 => ?_
 refine region ?_
 refine s0 (boxV rfl) rfl ?_
 refine s0 (boxV rfl) rfl ?_
 refine s0 assignA rfl ?_
 refine nil ?_
 refine hK1 _ ?_
 clear hK1 K1
 refine seqK fun K2 hK2 => ?_
 refine AWp.draw rfl ?_
 refine DOps.s0 (fieldVA (TK rfl) rfl rfl (TK rfl) rfl rfl) rfl ?_
 refine DOps.s0 (loadV (TK rfl) rfl rfl rfl) rfl ?_
 refine DOps.s0 (fieldVA (TK rfl) rfl rfl (TK rfl) rfl rfl) rfl ?_
 refine DOps.s0 (loadV (TK rfl) rfl rfl rfl) rfl ?_
 refine DOps.s0 (binS rfl rfl rfl) rfl ?_
 refine DOps.s0 moveA rfl ?_
 refine DOps.gC rfl rfl (fun hC => fieldVA (TK rfl) rfl rfl (TK rfl) rfl rfl) rfl ?_
 refine DOps.gC rfl rfl (fun hC => ungdA (k := 11) rfl (loadV (TK rfl) rfl rfl rfl)) rfl ?_
 obtain ⟨x3, gx3, hE⟩ := guardO_some hE
 refine DOps.gC rfl rfl (fun hC => ungdA (k := 12) rfl (callP rfl rfl (fun H => Z42_walk (gx3 hC) H))) rfl ?_
 refine DOps.gC rfl rfl (fun hC => fieldVA (TK rfl) rfl rfl (TK rfl) rfl rfl) rfl ?_
 refine DOps.gC rfl rfl (fun hC => ungdA (k := 14) rfl (loadV (TK rfl) rfl rfl rfl)) rfl ?_
 obtain ⟨x4, gx4, hE⟩ := guardO_some hE
 refine DOps.gC rfl rfl (fun hC => ungdA (k := 15) rfl (callP rfl rfl (fun H => Z42_walk (gx4 hC) H))) rfl ?_
 obtain ⟨x5, gx5, hE⟩ := guardO_some hE
 refine DOps.gC rfl rfl (fun hC => ungdA (k := 13) rfl (ungdA (k := 16) rfl (callP rfl rfl (fun H => Z29_walk (gx5 hC) H)))) rfl ?_
 refine DOps.s0 (pickAndA rfl rfl rfl) rfl ?_
 refine DOps.s0 assignA rfl ?_
 refine DOps.nil (by decide +kernel) ?_
 refine hK2 _ ?_
 clear hK2 K2
 refine AWp.ret ?_
 repeat (first | refine xBlock_ret ?_ | refine xThen_ret ?_)
 obtain rfl := Option.some.inj hE
 refine retQ.retF H rfl ⟨rfl, rfl⟩ ?_
 exact (fun _ _ h => h)
def Z35 (a0 : TRef) : Option Bool := guardO ((decide ((0 : Int) < ((a0.FWraps.l.length : Nat) : Int)))) (a0.FWraps.l[0]?) (0 : Int) fun x4 => some ((decide ((0 : Int) < ((a0.FWraps.l.length : Nat) : Int))) && (decide (x4 = (1 : Int))))
theorem Z35_walk {a0 : TRef}   {r : Bool} (hE : Z35 a0 = some r) (H : Heap)  : ACalls Tryd.prog 55 [.agg (TRef.c a0)] H fun v h' => v = .a (.d (.bool r)) ∧ h' = H := by
 unfold Z35 at hE
 refine ACalls.of_wp (fn := Tryd.f55) (c := _) Tryd.tab_ok (fun _ _ => Tryd.call55 _ _) Tryd.func55 rfl (n := 14) rfl (rs := [.tmp 2]) rfl rfl ?_
 refine seqK fun K1 hK1 => ?_
 refine region ?_
 refine s0 (boxV rfl) rfl ?_
 refine s0 assignA rfl ?_
 refine nil ?_
 refine hK1 _ ?_
 clear hK1 K1
 refine seqK fun K2 hK2 => ?_
 refine region ?_
 refine s0 (fieldVA (TK rfl) rfl rfl (TK rfl) rfl rfl) rfl ?_
 refine s0 (loadV (TK rfl) rfl rfl rfl) rfl ?_
 refine sLen (f := (intE .i64)) (s := a0.FWraps) (TK rfl) rfl rfl rfl rfl fun hL3 => ?_
 refine s0 (binI rfl rfl rfl) rfl ?_
 refine s0 moveA rfl ?_
 refine gC rfl rfl (fun hC => fieldVA (TK rfl) rfl rfl (TK rfl) rfl rfl) rfl ?_
 refine gC rfl rfl (fun hC => ungdA (k := 8) rfl (loadV (TK rfl) rfl rfl rfl)) rfl ?_
 obtain ⟨x4, gx4, hE⟩ := guardO_some hE
 refine gC rfl rfl (fun hC => ungdA (k := 9) rfl (idxMn (f := (intE .i64)) (n := 0) (TK rfl) rfl (TK rfl) rfl rfl rfl (gx4 hC))) rfl ?_
 refine gC rfl rfl (fun hC => ungdA (k := 10) rfl (loadV (TK rfl) rfl rfl rfl)) rfl ?_
 refine gC rfl rfl (fun hC => ungdA (k := 11) rfl (binI rfl rfl rfl)) rfl ?_
 refine s0 (pickAndA rfl rfl rfl) rfl ?_
 refine s0 assignA rfl ?_
 refine nil ?_
 refine hK2 _ ?_
 clear hK2 K2
 refine AWp.ret ?_
 repeat (first | refine xBlock_ret ?_ | refine xThen_ret ?_)
 obtain rfl := Option.some.inj hE
 refine retQ.retF H rfl ⟨rfl, rfl⟩ ?_
 exact (fun _ _ h => h)
def Z38_j3 (a0 : TRef)  (s3_4 : (Sl Int)) : Option TRef := (Z25 s3_4).bind fun x6 => some (TRef.mk a0.FName x6)
def Z38 (a0 : TRef) : Option TRef := (Z35 a0).bind fun x8 => bif x8 then ((partC a0.FWraps (some (1 : Int)) none).bind fun x10 => Z38_j3 a0  x10) else (Z38_j3 a0  a0.FWraps)
theorem Z38_walk {a0 : TRef}   {r : TRef} (hE : Z38 a0 = some r) (H : Heap)  : ACalls Tryd.prog 72 [.agg (TRef.c a0)] H fun v h' => v = .a (.agg (TRef.c r)) ∧ h' = H := by
 unfold Z38 at hE
 refine ACalls.of_wp (fn := Tryd.f72) (c := _) Tryd.tab_ok (fun _ _ => Tryd.call72 _ _) Tryd.func72 rfl (n := 15) rfl (rs := [.cell 2 32]) rfl rfl ?_
 refine seqK fun K1 hK1 => ?_
 refine region ?_
 refine s0 (boxV rfl) rfl ?_
 refine sL (allocLA (TK rfl) rfl) rfl ?_
 refine nil ?_
 refine hK1 _ ?_
 clear hK1 K1
 refine seqK fun K2 hK2 => ?_
 refine region ?_
 refine s0 (fieldVA (TK rfl) rfl rfl (TK rfl) rfl rfl) rfl ?_
 refine s0 (loadV (TK rfl) rfl rfl rfl) rfl ?_
 refine s0 assignA rfl ?_
 refine nil ?_
 refine hK2 _ ?_
 clear hK2 K2
 refine seqJH (KeepsT.A (k := 1) (KeepsT.A (k := 2) KeepsT.nil)) (fun (z : (Sl Int)) => [(3, .a (.d (Sl.d 1 (intE .i64) none z)))]) (fun z => H) (fun z => Z38_j3 a0 z = some r) ?_ ?_
 ·intro K3 hK3
  refine seqK fun K7 hK7 => ?_
  refine region ?_
  refine s0 (loadV (TK rfl) rfl rfl rfl) rfl ?_
  obtain ⟨x8, gx8, hE⟩ := bindO_some hE
  refine s0 (callP rfl rfl (fun H => Z35_walk gx8 H)) rfl ?_
  refine nil ?_
  refine hK7 _ ?_
  clear hK7 K7
  refine condE hE rfl (fun hc9 hE => ?_) (fun hc9 hE => ?_)
  ·refine region ?_
   refine s0 moveA rfl ?_
   obtain ⟨x10, gx10, hE⟩ := bindO_some hE
   refine s0 (partM (f := (intE .i64)) (l := (some (1 : Int))) (r := none) (TK rfl) rfl (TK rfl) rfl rfl rfl trivial gx10) rfl ?_
   refine s0 assignA rfl ?_
   refine nil ?_
   exact hK3 _ x10 Weak.toA hE
  refine AWp.skip ?_
  exact hK3 _ a0.FWraps Weak.toA hE
 rintro s3_4 hE
 try dsimp only at hE
 unfold Z38_j3 at hE
 refine seqK fun K5 hK5 => ?_
 refine AWp.draw rfl ?_
 refine DOps.s0 (fieldVA (TK rfl) rfl rfl (TK rfl) rfl rfl) rfl ?_
 refine DOps.s0 (loadV (TK rfl) rfl rfl rfl) rfl ?_
 refine DOps.s0 moveA rfl ?_
 obtain ⟨x6, gx6, hE⟩ := bindO_some hE
 refine DOps.s0 (callP rfl rfl (fun H => Z25_walk gx6 H)) rfl ?_
 refine DOps.s0 (build Tryd.tab_ok rfl rfl rfl rfl rfl rfl) rfl ?_
 refine DOps.sLn (storeLFA (TK rfl) rfl rfl rfl rfl rfl) ?_
 refine DOps.nil (by decide +kernel) ?_
 refine hK5 _ ?_
 clear hK5 K5
 refine AWp.ret ?_
 repeat (first | refine xBlock_ret ?_ | refine xThen_ret ?_)
 obtain rfl := Option.some.inj hE
 refine retQ.retF H rfl ⟨rfl, rfl⟩ ?_
 exact (fun _ _ h => h)
def Z34 (a0 : TRef) : Option Bool := (Z38 a0).bind fun x3 => guardO ((decide ((0 : Int) < ((x3.FWraps.l.length : Nat) : Int)))) (x3.FWraps.l[0]?) (0 : Int) fun x6 => some ((decide ((0 : Int) < ((x3.FWraps.l.length : Nat) : Int))) && (decide (x6 = (2 : Int))))
theorem Z34_walk {a0 : TRef}   {r : Bool} (hE : Z34 a0 = some r) (H : Heap)  : ACalls Tryd.prog 71 [.agg (TRef.c a0)] H fun v h' => v = .a (.d (.bool r)) ∧ h' = H := by
 unfold Z34 at hE
 refine ACalls.of_wp (fn := Tryd.f71) (c := _) Tryd.tab_ok (fun _ _ => Tryd.call71 _ _) Tryd.func71 rfl (n := 16) rfl (rs := [.tmp 2]) rfl rfl ?_
 refine seqK fun K1 hK1 => ?_
 refine region ?_
 refine sL (boxL rfl (by repeat (first | exact Snoc.nil | apply Snoc.cons))) rfl ?_
 refine s0 assignA rfl ?_
 refine nil ?_
 refine hK1 _ ?_
 clear hK1 K1
 refine seqK fun K2 hK2 => ?_
 refine region ?_
 refine s0 (loadL (TK rfl) rfl rfl rfl rfl) rfl ?_
 obtain ⟨x3, gx3, hE⟩ := bindO_some hE
 refine s0 (callP rfl rfl (fun H => Z38_walk gx3 H)) rfl ?_
 refine sLn (storeLFA (TK rfl) rfl rfl rfl rfl rfl) ?_
 refine nil ?_
 refine hK2 _ ?_
 clear hK2 K2
 refine seqK fun K4 hK4 => ?_
 refine region ?_
 refine s0 (fieldL (TK rfl) rfl rfl (TK rfl) rfl rfl) rfl ?_
 refine s0 (loadL (TK rfl) rfl rfl rfl rfl) rfl ?_
 refine sLen (f := (intE .i64)) (s := x3.FWraps) (TK rfl) rfl rfl rfl rfl fun hL5 => ?_
 refine s0 (binI rfl rfl rfl) rfl ?_
 refine s0 moveA rfl ?_
 refine gC rfl rfl (fun hC => fieldL (TK rfl) rfl rfl (TK rfl) rfl rfl) rfl ?_
 refine gC rfl rfl (fun hC => ungdLA (k := 10) rfl (loadL (TK rfl) rfl rfl rfl rfl)) rfl ?_
 obtain ⟨x6, gx6, hE⟩ := guardO_some hE
 refine gC rfl rfl (fun hC => ungdA (k := 11) rfl (idxMn (f := (intE .i64)) (n := 0) (TK rfl) rfl (TK rfl) rfl rfl rfl (gx6 hC))) rfl ?_
 refine gC rfl rfl (fun hC => ungdA (k := 12) rfl (loadV (TK rfl) rfl rfl rfl)) rfl ?_
 refine gC rfl rfl (fun hC => ungdA (k := 13) rfl (binI rfl rfl rfl)) rfl ?_
 refine s0 (pickAndA rfl rfl rfl) rfl ?_
 refine s0 assignA rfl ?_
 refine nil ?_
 refine hK4 _ ?_
 clear hK4 K4
 refine AWp.ret ?_
 repeat (first | refine xBlock_ret ?_ | refine xThen_ret ?_)
 obtain rfl := Option.some.inj hE
 refine retQ.retF H rfl ⟨rfl, rfl⟩ ?_
 exact (fun _ _ h => h)
def Z33 (a0 : TRef) : Option (TRef × Bool) := (Z34 a0).bind fun x4 => bif (!x4) then (some ((TRef.mk ([] : Bs) (Sl.nil : Sl Int)), false)) else ((Z38 a0).bind fun x8 => (partC x8.FWraps (some (1 : Int)) none).bind fun x10 => some ((TRef.mk x8.FName x10), true))
theorem Z33_walk {a0 : TRef}   {r : (TRef × Bool)} (hE : Z33 a0 = some r) (H : Heap)  : ACalls Tryd.prog 56 [.agg (TRef.c a0)] H fun v h' => v = .tup [.agg (TRef.c r.1), .d (.bool r.2)] ∧ h' = H := by
 unfold Z33 at hE
 refine ACalls.of_wp (fn := Tryd.f56) (c := _) Tryd.tab_ok (fun _ _ => Tryd.call56 _ _) Tryd.func56 rfl (n := 15) rfl (rs := [.cell 2 32, .tmp 3]) rfl rfl ?_
 refine seqK fun K1 hK1 => ?_
 refine region ?_
 refine sL (boxL rfl (by repeat (first | exact Snoc.nil | apply Snoc.cons))) rfl ?_
 refine sL (allocLA (TK rfl) rfl) rfl ?_
 refine s0 assignA rfl ?_
 refine nil ?_
 refine hK1 _ ?_
 clear hK1 K1
 refine seqK fun K2 hK2 => ?_
 refine seqK fun K3 hK3 => ?_
 refine region ?_
 refine s0 (loadL (TK rfl) rfl rfl rfl rfl) rfl ?_
 obtain ⟨x4, gx4, hE⟩ := bindO_some hE
 refine s0 (callP rfl rfl (fun H => Z34_walk gx4 H)) rfl ?_
 refine s0 (notB rfl) rfl ?_
 refine nil ?_
 refine hK3 _ ?_
 clear hK3 K3
 refine condE hE rfl (fun hc5 hE => ?_) (fun hc5 hE => ?_)
 ·refine seqK fun K6 hK6 => ?_
  refine region ?_
  refine s0 (build Tryd.tab_ok rfl rfl rfl rfl rfl rfl) rfl ?_
  refine sLn (storeLFA (TK rfl) rfl rfl rfl rfl rfl) ?_
  refine s0 assignA rfl ?_
  refine nil ?_
  refine hK6 _ ?_
  clear hK6 K6
  refine AWp.ret ?_
  repeat (first | refine xBlock_ret ?_ | refine xThen_ret ?_)
  obtain rfl := Option.some.inj hE
  refine retQ.retF H rfl ⟨rfl, rfl⟩ ?_
  exact (fun _ _ h => h)
 refine AWp.skip ?_
 refine hK2 _ ?_
 clear hK2 K2
 refine seqK fun K7 hK7 => ?_
 refine region ?_
 refine s0 (loadL (TK rfl) rfl rfl rfl rfl) rfl ?_
 obtain ⟨x8, gx8, hE⟩ := bindO_some hE
 refine s0 (callP rfl rfl (fun H => Z38_walk gx8 H)) rfl ?_
 refine sLn (storeLFA (TK rfl) rfl rfl rfl rfl rfl) ?_
 refine nil ?_
 refine hK7 _ ?_
 clear hK7 K7
 refine seqK fun K9 hK9 => ?_
 refine region ?_
 refine s0 (fieldL (TK rfl) rfl rfl (TK rfl) rfl rfl) rfl ?_
 refine s0 (loadL (TK rfl) rfl rfl rfl rfl) rfl ?_
 obtain ⟨x10, gx10, hE⟩ := bindO_some hE
 refine s0 (partM (f := (intE .i64)) (l := (some (1 : Int))) (r := none) (TK rfl) rfl (TK rfl) rfl rfl rfl trivial gx10) rfl ?_
 refine s0 (fieldL (TK rfl) rfl rfl (TK rfl) rfl rfl) rfl ?_
 refine sLn (storeL1 (TK rfl) rfl rfl rfl rfl (by repeat (first | exact SetAt.zero | apply SetAt.succ)) (by repeat (first | exact SetAt.zero | apply SetAt.succ))) ?_
 refine nil ?_
 refine hK9 _ ?_
 clear hK9 K9
 refine seqK fun K11 hK11 => ?_
 refine region ?_
 refine s0 (loadL (TK rfl) rfl rfl rfl rfl) rfl ?_
 refine sLn (storeLFA (TK rfl) rfl rfl rfl rfl rfl) ?_
 refine s0 assignA rfl ?_
 refine nil ?_
 refine hK11 _ ?_
 clear hK11 K11
 refine AWp.ret ?_
 repeat (first | refine xBlock_ret ?_ | refine xThen_ret ?_)
 obtain rfl := Option.some.inj hE
 refine retQ.retF H rfl ⟨rfl, rfl⟩ ?_
 exact (fun _ _ h => h)
def Z41_j14 (y10_l0 : TRef) (y11_l1 : TRef) (y12_l2 : TRef) (k_next_9 : TRef → TRef → TRef → TRef → Option (TRef × Bool)) (y15_l3 : TRef) : Option (TRef × Bool) := (Z33 y10_l0).bind fun x17 => (Z33 y11_l1).bind fun x19 => bif ((!x17.2) || (!x19.2)) then (some (y15_l3, true)) else ((appC 8 y15_l3.FWraps (⟨false, [(2 : Int)]⟩ : Sl Int)).bind fun x25 => k_next_9 x17.1 x19.1 y12_l2 (TRef.mk y15_l3.FName x25))
def Z41_l9  : Nat → TRef → TRef → TRef → TRef → Option (TRef × Bool)
 | 0, _, _, _, _ => none
 | n9 + 1, y10_l0, y11_l1, y12_l2, y13_l3 => (Z35 y10_l0).bind fun x27 => guardO (x27) (Z35 y11_l1) false fun x28 => bif (x27 && x28) then ((appC 8 y13_l3.FWraps (⟨false, [(1 : Int)]⟩ : Sl Int)).bind fun x30 => Z41_j14 y10_l0 y11_l1 y12_l2 ((Z41_l9  n9)) (TRef.mk y13_l3.FName x30)) else (Z41_j14 y10_l0 y11_l1 y12_l2 ((Z41_l9  n9)) y13_l3)
def Z41 (a0 : TRef) (a1 : TRef) : Option (TRef × Bool) := (Z40 a0 a1).bind fun x4 => bif (!x4) then (some ((TRef.mk ([] : Bs) (Sl.nil : Sl Int)), false)) else (Z41_l9 F0 a0 a1 TRef.zero (TRef.mk a0.FName (Sl.nil : Sl Int)))
theorem Z41_walk {a0 : TRef} {a1 : TRef}   {r : (TRef × Bool)} (hE : Z41 a0 a1 = some r) (H : Heap)  : ACalls Tryd.prog 36 [.agg (TRef.c a0), .agg (TRef.c a1)] H fun v h' => v = .tup [.agg (TRef.c r.1), .d (.bool r.2)] ∧ h' = H := by
 unfold Z41 at hE
 refine ACalls.of_wp (fn := Tryd.f36) (c := _) Tryd.tab_ok (fun _ _ => Tryd.call36 _ _) Tryd.func36 rfl (n := 54) rfl (rs := [.cell 4 32, .tmp 5]) rfl rfl ?_
 refine seqK fun K1 hK1 => ?_
 refine region ?_
 refine sL (boxL rfl (by repeat (first | exact Snoc.nil | apply Snoc.cons))) rfl ?_
 refine sL (boxL rfl (by repeat (first | exact Snoc.nil | apply Snoc.cons))) rfl ?_
 refine sL (allocLA (TK rfl) rfl) rfl ?_
 refine s0 assignA rfl ?_
 refine nil ?_
 refine hK1 _ ?_
 clear hK1 K1
 refine seqK fun K2 hK2 => ?_
 refine seqK fun K3 hK3 => ?_
 refine region ?_
 refine s0 (loadL (TK rfl) rfl rfl rfl rfl) rfl ?_
 refine s0 (loadL (TK rfl) rfl rfl rfl rfl) rfl ?_
 obtain ⟨x4, gx4, hE⟩ := bindO_some hE
 refine s0 (callP rfl rfl (fun H => Z40_walk gx4 H)) rfl ?_
 refine s0 (notB rfl) rfl ?_
 refine nil ?_
 refine hK3 _ ?_
 clear hK3 K3
 refine condE hE rfl (fun hc5 hE => ?_) (fun hc5 hE => ?_)
 ·refine seqK fun K6 hK6 => ?_
  refine region ?_
  refine s0 (build Tryd.tab_ok rfl rfl rfl rfl rfl rfl) rfl ?_
  refine sLn (storeLFA (TK rfl) rfl rfl rfl rfl rfl) ?_
  refine s0 assignA rfl ?_
  refine nil ?_
  refine hK6 _ ?_
  clear hK6 K6
  refine AWp.ret ?_
  repeat (first | refine xBlock_ret ?_ | refine xThen_ret ?_)
  obtain rfl := Option.some.inj hE
  refine retQ.retF H rfl ⟨rfl, rfl⟩ ?_
  exact (fun _ _ h => h)
 refine AWp.skip ?_
 refine hK2 _ ?_
 clear hK2 K2
 refine seqK fun K7 hK7 => ?_
 refine region ?_
 refine s0 (fieldL (TK rfl) rfl rfl (TK rfl) rfl rfl) rfl ?_
 refine s0 (loadL (TK rfl) rfl rfl rfl rfl) rfl ?_
 refine s0 (build Tryd.tab_ok rfl rfl rfl rfl rfl rfl) rfl ?_
 refine sL (allocLA (TK rfl) rfl) rfl ?_
 refine AOps.tok 1 fun tk6_8 htk6_8 => ?_
 refine AOps.relocal 3 _ rfl (fun j w cs hh hx => tok_cell 1 1 1 hh (t := tk6_8) hpG hx rfl) ?_
 refine sLn (storeLFA (TK rfl) rfl rfl rfl rfl rfl) ?_
 refine AOps.relocal 3 _ rfl (fun j w cs hh hx => tok_cell 1 1 1 hh (t := tk6_8) hpG hx rfl) ?_
 refine nil ?_
 refine hK7 _ ?_
 clear hK7 K7
 refine block ?_
 refine loopO (KeepsT.A (k := 2) (KeepsT.A (k := 3) (KeepsT.A (k := 4) (KeepsT.A (k := 6) KeepsT.nil)))) (fun (z : Nat × TRef × TRef × TRef × TRef) => []) (fun z => [TRef.c z.2.1, TRef.c z.2.2.1, TRef.c z.2.2.2.1, (strE z.2.2.2.2.FName ++ [Sl.d 1 (intE .i64) (some tk6_8) z.2.2.2.2.FWraps])]) (fun z => (H.set tk6_8 (some (.tok 1 z.2.2.2.2.FWraps.l.length)))) (fun z => z.1) (fun z => Z41_l9 z.1 z.2.1 z.2.2.1 z.2.2.2.1 z.2.2.2.2 = some r) (F0, a0, a1, TRef.zero, (TRef.mk a0.FName (Sl.nil : Sl Int))) hE Weak.toA ?_
 rintro ⟨n9, y10_l0, y11_l1, y12_l2, y13_l3⟩ hE K9 hK9
 try dsimp only at hE
 cases n9 with
 | zero => cases hE
 | succ n9 =>
   rw [Z41_l9] at hE
   refine block ?_
   refine seqJ (KeepsT.A (k := 2) (KeepsT.A (k := 3) (KeepsT.A (k := 4) (KeepsT.A (k := 6) KeepsT.nil)))) (fun (z : TRef) => []) (fun z => [TRef.c y10_l0, TRef.c y11_l1, TRef.c y12_l2, (strE z.FName ++ [Sl.d 1 (intE .i64) (some tk6_8) z.FWraps])]) (fun z => (H.set tk6_8 (some (.tok 1 z.FWraps.l.length)))) (fun z => Z41_j14 y10_l0 y11_l1 y12_l2 ((Z41_l9 n9)) z = some r) ?_ ?_
   ·intro K14 hK14
    refine seqK fun K26 hK26 => ?_
    refine region ?_
    refine s0 (loadL (TK rfl) rfl rfl rfl rfl) rfl ?_
    obtain ⟨x27, gx27, hE⟩ := bindO_some hE
    refine s0 (callP rfl rfl (fun H => Z35_walk gx27 H)) rfl ?_
    refine s0 moveA rfl ?_
    refine gC rfl rfl (fun hC => loadL (TK rfl) rfl rfl rfl rfl) rfl ?_
    obtain ⟨x28, gx28, hE⟩ := guardO_some hE
    refine gC rfl rfl (fun hC => ungdA (k := 22) rfl (callP rfl rfl (fun H => Z35_walk (gx28 hC) H))) rfl ?_
    refine s0 (pickAndA rfl rfl rfl) rfl ?_
    refine nil ?_
    refine hK26 _ ?_
    clear hK26 K26
    refine condE hE rfl (fun hc29 hE => ?_) (fun hc29 hE => ?_)
    ·refine region ?_
     refine s0 (fieldL (TK rfl) rfl rfl (TK rfl) rfl rfl) rfl ?_
     refine s0 (loadL (TK rfl) rfl rfl rfl rfl) rfl ?_
     refine s0 (buildSlice (TK rfl) rfl (TK rfl) rfl rfl rfl rfl rfl rfl) rfl ?_
     obtain ⟨x30, gx30, hE⟩ := bindO_some hE
     refine sH (appM (f := (intE .i64)) (TK rfl) rfl (TK rfl) (TK rfl) ⟨_, rfl⟩ rfl rfl (by decide) rfl rfl rfl rfl hpG rfl gx30) rfl ?_
     refine AOps.heq (h' := (H.set tk6_8 (some (.tok 1 x30.l.length)))) (by first | rfl | (rw [Heap.set_set]; rfl) | (funext n_; simp only [Heap.set]; (repeat' split) <;> first | rfl | (exfalso; simp_all; done) | (simp_all; done))) ?_
     refine s0 (fieldL (TK rfl) rfl rfl (TK rfl) rfl rfl) rfl ?_
     refine sLn (storeL1 (TK rfl) rfl rfl rfl rfl (by repeat (first | exact SetAt.zero | apply SetAt.succ)) (by repeat (first | exact SetAt.zero | apply SetAt.succ))) ?_
     refine nil ?_
     exact hK14 _ (TRef.mk y13_l3.FName x30) Weak.toA hE
    refine AWp.skip ?_
    exact hK14 _ y13_l3 Weak.toA hE
   rintro y15_l3 hE
   try dsimp only at hE
   unfold Z41_j14 at hE
   refine seqK fun K16 hK16 => ?_
   refine region ?_
   refine s0 (loadL (TK rfl) rfl rfl rfl rfl) rfl ?_
   obtain ⟨x17, gx17, hE⟩ := bindO_some hE
   refine s0 (callP rfl rfl (fun H => Z33_walk gx17 H)) rfl ?_
   refine s0 moveA rfl ?_
   refine s0 (extract rfl rfl) rfl ?_
   refine s0 (extract rfl rfl) rfl ?_
   refine sL (allocLA (TK rfl) rfl) rfl ?_
   refine sLn (storeLFA (TK rfl) rfl rfl rfl rfl rfl) ?_
   refine s0 assignA rfl ?_
   refine nil ?_
   refine hK16 _ ?_
   clear hK16 K16
   refine freezeA 7 _ rfl (Keeps.c (k := 2) (by conv => lhs; whnf) (by rfl) (Keeps.c (k := 3) (by conv => lhs; whnf) (by rfl) (Keeps.c (k := 4) (by conv => lhs; whnf) (by rfl) (Keeps.c (k := 6) (by conv => lhs; whnf) (by rfl) (Keeps.c (k := 8) (by conv => lhs; whnf) (by rfl) Keeps.nil))))) ?_
   refine seqK fun K18 hK18 => ?_
   refine region ?_
   refine s0 (loadL (TK rfl) rfl rfl rfl rfl) rfl ?_
   obtain ⟨x19, gx19, hE⟩ := bindO_some hE
   refine s0 (callP rfl rfl (fun H => Z33_walk gx19 H)) rfl ?_
   refine s0 moveA rfl ?_
   refine s0 (extract rfl rfl) rfl ?_
   refine s0 (extract rfl rfl) rfl ?_
   refine sL (allocLA (TK rfl) rfl) rfl ?_
   refine sLn (storeLFA (TK rfl) rfl rfl rfl rfl rfl) ?_
   refine s0 assignA rfl ?_
   refine nil ?_
   refine hK18 _ ?_
   clear hK18 K18
   refine freezeA 9 _ rfl (Keeps.c (k := 2) (by conv => lhs; whnf) (by rfl) (Keeps.c (k := 3) (by conv => lhs; whnf) (by rfl) (Keeps.c (k := 4) (by conv => lhs; whnf) (by rfl) (Keeps.c (k := 6) (by conv => lhs; whnf) (by rfl) (Keeps.c (k := 7) (by conv => lhs; whnf) (by rfl) (Keeps.c (k := 8) (by conv => lhs; whnf) (by rfl) (Keeps.c (k := 10) (by conv => lhs; whnf) (by rfl) Keeps.nil))))))) ?_
   refine seqK fun K20 hK20 => ?_
   refine seqK fun K21 hK21 => ?_
   refine region ?_
   refine s0 moveA rfl ?_
   refine s0 (notB rfl) rfl ?_
   refine s0 moveA rfl ?_
   refine gC rfl rfl (fun hC => moveA) rfl ?_
   refine gC rfl rfl (fun hC => ungdA (k := 43) rfl (notB rfl)) rfl ?_
   refine s0 (pickOrA rfl rfl rfl) rfl ?_
   refine nil ?_
   refine hK21 _ ?_
   clear hK21 K21
   refine condE hE rfl (fun hc22 hE => ?_) (fun hc22 hE => ?_)
   ·refine seqK fun K23 hK23 => ?_
    refine AWp.relocal 3 _ rfl (fun j w cs hh hx => untok_cell 1 hx rfl) ?_
    refine region ?_
    refine s0 (loadL (TK rfl) rfl rfl rfl rfl) rfl ?_
    refine sLn (storeLFA (TK rfl) rfl rfl rfl rfl rfl) ?_
    refine s0 assignA rfl ?_
    refine nil ?_
    refine hK23 _ ?_
    clear hK23 K23
    refine AWp.ret ?_
    repeat (first | refine xBlock_ret ?_ | refine xThen_ret ?_)
    obtain rfl := Option.some.inj hE
    refine retQ.retF H rfl ⟨rfl, rfl⟩ ?_
    first | exact Heap.sub_set htk6_8 | (simp only [Heap.set_set]; exact Heap.sub_set htk6_8)
   refine AWp.skip ?_
   refine hK20 _ ?_
   clear hK20 K20
   refine seqK fun K24 hK24 => ?_
   refine region ?_
   refine s0 (fieldL (TK rfl) rfl rfl (TK rfl) rfl rfl) rfl ?_
   refine s0 (loadL (TK rfl) rfl rfl rfl rfl) rfl ?_
   refine s0 (buildSlice (TK rfl) rfl (TK rfl) rfl rfl rfl rfl rfl rfl) rfl ?_
   obtain ⟨x25, gx25, hE⟩ := bindO_some hE
   refine sH (appM (f := (intE .i64)) (TK rfl) rfl (TK rfl) (TK rfl) ⟨_, rfl⟩ rfl rfl (by decide) rfl rfl rfl rfl hpG rfl gx25) rfl ?_
   refine AOps.heq (h' := (H.set tk6_8 (some (.tok 1 x25.l.length)))) (by first | rfl | (rw [Heap.set_set]; rfl) | (funext n_; simp only [Heap.set]; (repeat' split) <;> first | rfl | (exfalso; simp_all; done) | (simp_all; done))) ?_
   refine s0 (fieldL (TK rfl) rfl rfl (TK rfl) rfl rfl) rfl ?_
   refine sLn (storeL1 (TK rfl) rfl rfl rfl rfl (by repeat (first | exact SetAt.zero | apply SetAt.succ)) (by repeat (first | exact SetAt.zero | apply SetAt.succ))) ?_
   refine nil ?_
   refine hK24 _ ?_
   clear hK24 K24
   refine AWp.draw rfl ?_
   refine DOps.s0 (loadV (TK rfl) rfl rfl rfl) rfl ?_
   refine DOps.s0 (loadV (TK rfl) rfl rfl rfl) rfl ?_
   refine DOps.sLn (storeLFA (TK rfl) rfl rfl rfl rfl rfl) ?_
   refine DOps.sLn (storeLFA (TK rfl) rfl rfl rfl rfl rfl) ?_
   refine DOps.nil (by decide +kernel) ?_
   exact hK9 _ (n9, x17.1, x19.1, y12_l2, (TRef.mk y15_l3.FName x25)) Weak.toA hE (Nat.lt_succ_self _)
def Z39 (a0 : TRef) (a1 : TRef) : Option Bool := guardO (((a0.FName == a1.FName))) (Z29 a0.FWraps a1.FWraps) false fun x3 => some (((a0.FName == a1.FName)) && x3)
theorem Z39_walk {a0 : TRef} {a1 : TRef}   {r : Bool} (hE : Z39 a0 a1 = some r) (H : Heap)  : ACalls Tryd.prog 37 [.agg (TRef.c a0), .agg (TRef.c a1)] H fun v h' => v = .a (.d (.bool r)) ∧ h' = H := by
 unfold Z39 at hE
 refine ACalls.of_wp (fn := Tryd.f37) (c := _) Tryd.tab_ok (fun _ _ => Tryd.call37 _ _) Tryd.func37 rfl (n := 17) rfl (rs := [.tmp 4]) rfl rfl ?_
 refine seqK fun K1 hK1 => ?_
 refine region ?_
 refine s0 (boxV rfl) rfl ?_
 refine s0 (boxV rfl) rfl ?_
 refine s0 assignA rfl ?_
 refine nil ?_
 refine hK1 _ ?_
 clear hK1 K1
 refine seqK fun K2 hK2 => ?_
 refine region ?_
 refine s0 (fieldVA (TK rfl) rfl rfl (TK rfl) rfl rfl) rfl ?_
 refine s0 (loadV (TK rfl) rfl rfl rfl) rfl ?_
 refine s0 (fieldVA (TK rfl) rfl rfl (TK rfl) rfl rfl) rfl ?_
 refine s0 (loadV (TK rfl) rfl rfl rfl) rfl ?_
 refine s0 (binS rfl rfl rfl) rfl ?_
 refine s0 moveA rfl ?_
 refine gC rfl rfl (fun hC => fieldVA (TK rfl) rfl rfl (TK rfl) rfl rfl) rfl ?_
 refine gC rfl rfl (fun hC => ungdA (k := 11) rfl (loadV (TK rfl) rfl rfl rfl)) rfl ?_
 refine gC rfl rfl (fun hC => fieldVA (TK rfl) rfl rfl (TK rfl) rfl rfl) rfl ?_
 refine gC rfl rfl (fun hC => ungdA (k := 13) rfl (loadV (TK rfl) rfl rfl rfl)) rfl ?_
 obtain ⟨x3, gx3, hE⟩ := guardO_some hE
 refine gC rfl rfl (fun hC => ungdA (k := 12) rfl (ungdA (k := 14) rfl (callP rfl rfl (fun H => Z29_walk (gx3 hC) H)))) rfl ?_
 refine s0 (pickAndA rfl rfl rfl) rfl ?_
 refine s0 assignA rfl ?_
 refine nil ?_
 refine hK2 _ ?_
 clear hK2 K2
 refine AWp.ret ?_
 repeat (first | refine xBlock_ret ?_ | refine xThen_ret ?_)
 obtain rfl := Option.some.inj hE
 refine retQ.retF H rfl ⟨rfl, rfl⟩ ?_
 exact (fun _ _ h => h)
def Z32 (a0 : TRef) (a1 : TRef) : Option Bool := (Z41 a0 a1).bind fun x3 => guardO (x3.2) (Z39 x3.1 a1) false fun x5 => some (x3.2 && x5)
theorem Z32_walk {a0 : TRef} {a1 : TRef}   {r : Bool} (hE : Z32 a0 a1 = some r) (H : Heap)  : ACalls Tryd.prog 20 [.agg (TRef.c a0), .agg (TRef.c a1)] H fun v h' => v = .a (.d (.bool r)) ∧ h' = H := by
 unfold Z32 at hE
 refine ACalls.of_wp (fn := Tryd.f20) (c := _) Tryd.tab_ok (fun _ _ => Tryd.call20 _ _) Tryd.func20 rfl (n := 19) rfl (rs := [.tmp 4]) rfl rfl ?_
 refine seqK fun K1 hK1 => ?_
 refine region ?_
 refine s0 (boxV rfl) rfl ?_
 refine s0 (boxV rfl) rfl ?_
 refine s0 assignA rfl ?_
 refine nil ?_
 refine hK1 _ ?_
 clear hK1 K1
 refine seqK fun K2 hK2 => ?_
 refine region ?_
 refine s0 (loadV (TK rfl) rfl rfl rfl) rfl ?_
 refine s0 (loadV (TK rfl) rfl rfl rfl) rfl ?_
 obtain ⟨x3, gx3, hE⟩ := bindO_some hE
 refine s0 (callP rfl rfl (fun H => Z41_walk gx3 H)) rfl ?_
 refine s0 moveA rfl ?_
 refine s0 (extract rfl rfl) rfl ?_
 refine s0 (extract rfl rfl) rfl ?_
 refine sL (allocLA (TK rfl) rfl) rfl ?_
 refine sLn (storeLFA (TK rfl) rfl rfl rfl rfl rfl) ?_
 refine s0 assignA rfl ?_
 refine nil ?_
 refine hK2 _ ?_
 clear hK2 K2
 refine freezeA 5 _ rfl (Keeps.c (k := 3) (by conv => lhs; whnf) (by rfl) (Keeps.c (k := 6) (by conv => lhs; whnf) (by rfl) Keeps.nil)) ?_
 refine seqK fun K4 hK4 => ?_
 refine region ?_
 refine s0 moveA rfl ?_
 refine s0 moveA rfl ?_
 refine gC rfl rfl (fun hC => loadV (TK rfl) rfl rfl rfl) rfl ?_
 refine gC rfl rfl (fun hC => loadV (TK rfl) rfl rfl rfl) rfl ?_
 obtain ⟨x5, gx5, hE⟩ := guardO_some hE
 refine gC rfl rfl (fun hC => ungdA (k := 15) rfl (ungdA (k := 16) rfl (callP rfl rfl (fun H => Z39_walk (gx5 hC) H)))) rfl ?_
 refine s0 (pickAndA rfl rfl rfl) rfl ?_
 refine s0 assignA rfl ?_
 refine nil ?_
 refine hK4 _ ?_
 clear hK4 K4
 refine AWp.ret ?_
 repeat (first | refine xBlock_ret ?_ | refine xThen_ret ?_)
 obtain rfl := Option.some.inj hE
 refine retQ.retF H rfl ⟨rfl, rfl⟩ ?_
 exact (fun _ _ h => h)
def Z45 (a0 : TDoc) (a1 : TVar) (a2 : TRef) (a3 : Bool) : Option Bool := (Z32 a1.FType a2).bind fun x3 => some x3
theorem Z45_walk {a0 : TDoc} {a1 : TVar} {a2 : TRef} {a3 : Bool}   {r : Bool} (hE : Z45 a0 a1 a2 a3 = some r) (H : Heap)  : ACalls Tryd.prog 10 [.agg (TDoc.c a0), .agg (TVar.c a1), .agg (TRef.c a2), .d (.bool a3)] H fun v h' => v = .a (.d (.bool r)) ∧ h' = H := by
 unfold Z45 at hE
 refine ACalls.of_wp (fn := Tryd.f10) (c := _) Tryd.tab_ok (fun _ _ => Tryd.call10 _ _) Tryd.func10 rfl (n := 13) rfl (rs := [.tmp 8]) rfl rfl ?_
 refine seqK fun K1 hK1 => ?_
 refine region ?_
 refine s0 (boxV rfl) rfl ?_
 refine s0 (boxV rfl) rfl ?_
 refine s0 (boxV rfl) rfl ?_
 refine s0 assignA rfl ?_
 refine nil ?_
 refine hK1 _ ?_
 clear hK1 K1
 refine seqK fun K2 hK2 => ?_
 refine region ?_
 refine s0 (fieldVA (TK rfl) rfl rfl (TK rfl) rfl rfl) rfl ?_
 refine s0 (loadV (TK rfl) rfl rfl rfl) rfl ?_
 refine s0 (loadV (TK rfl) rfl rfl rfl) rfl ?_
 obtain ⟨x3, gx3, hE⟩ := bindO_some hE
 refine s0 (callP rfl rfl (fun H => Z32_walk gx3 H)) rfl ?_
 refine s0 assignA rfl ?_
 refine nil ?_
 refine hK2 _ ?_
 clear hK2 K2
 refine AWp.ret ?_
 repeat (first | refine xBlock_ret ?_ | refine xThen_ret ?_)
 obtain rfl := Option.some.inj hE
 refine retQ.retF H rfl ⟨rfl, rfl⟩ ?_
 exact (fun _ _ h => h)
theorem eqt_73 : eqTab Tryd.prog 73 = some [.int .i64, .str] := by kernel_rfl
def Z7_j8   : Option Bool := some true
def Z7_l11 (a0 : (Sl TFault)) (a1 : (Sl TFault))  : Nat → Nat → Option Bool
 | 0, _ => none
 | n11 + 1, s5_12 => bif (decide (((s5_12 : Nat) : Int) < ((a0.l.length : Nat) : Int))) then ((a0.l[s5_12]?).bind fun x19 => (a1.l[s5_12]?).bind fun x20 => bif (!(decide (x19.FErr = x20.FErr) && ((x19.FAt == x20.FAt) && true))) then (some false) else ((Z7_l11 a0 a1 n11) (s5_12 + 1))) else (Z7_j8   )
def Z7 (a0 : (Sl TFault)) (a1 : (Sl TFault)) : Option Bool := bif (!decide (((a0.l.length : Nat) : Int) = ((a1.l.length : Nat) : Int))) then (some false) else (Z7_l11 a0 a1 (a0.l.length + 1) 0)
theorem Z7_walk {a0 : (Sl TFault)} {a1 : (Sl TFault)} {w0 : Option Nat} {w1 : Option Nat}  {r : Bool} (hE : Z7 a0 a1 = some r) (H : Heap)  : ACalls Tryd.prog 14 [.d (Sl.d 2 TFault.c w0 a0), .d (Sl.d 2 TFault.c w1 a1)] H fun v h' => v = .a (.d (.bool r)) ∧ h' = H := by
 unfold Z7 at hE
 refine ACalls.of_wp (fn := Tryd.f14) (c := _) Tryd.tab_ok (fun _ _ => Tryd.call14 _ _) Tryd.func14 rfl (n := 26) rfl (rs := [.tmp 4]) rfl rfl ?_
 refine seqK fun K1 hK1 => ?_
 refine region ?_
 refine s0 assignA rfl ?_
 refine nil ?_
 refine hK1 _ ?_
 clear hK1 K1
 refine seqK fun K2 hK2 => ?_
 refine seqK fun K3 hK3 => ?_
 refine region ?_
 refine s0 moveA rfl ?_
 refine sLen (f := TFault.c) (s := a0) (TK rfl) rfl rfl rfl rfl fun hL4 => ?_
 refine s0 moveA rfl ?_
 refine sLen (f := TFault.c) (s := a1) (TK rfl) rfl rfl rfl rfl fun hL5 => ?_
 refine s0 (binI rfl rfl rfl) rfl ?_
 refine nil ?_
 refine hK3 _ ?_
 clear hK3 K3
 refine condE hE rfl (fun hc6 hE => ?_) (fun hc6 hE => ?_)
 ·refine seqK fun K7 hK7 => ?_
  refine region ?_
  refine s0 assignA rfl ?_
  refine nil ?_
  refine hK7 _ ?_
  clear hK7 K7
  refine AWp.ret ?_
  repeat (first | refine xBlock_ret ?_ | refine xThen_ret ?_)
  obtain rfl := Option.some.inj hE
  refine retQ.retF H rfl ⟨rfl, rfl⟩ ?_
  exact (fun _ _ h => h)
 refine AWp.skip ?_
 refine hK2 _ ?_
 clear hK2 K2
 refine seqJH KeepsT.nil (fun (z : Unit) => []) (fun z => H) (fun z => Z7_j8  = some r) ?_ ?_
 ·intro K8 hK8
  refine seqK fun K10 hK10 => ?_
  refine region ?_
  refine s0 assignA rfl ?_
  refine nil ?_
  refine hK10 _ ?_
  clear hK10 K10
  refine block ?_
  refine loopH (KeepsT.A (k := 0) (KeepsT.A (k := 1) KeepsT.nil)) (fun (z : Nat × Nat) => [(5, .a (.d (.int .i64 ((z.2 : Nat) : Int))))]) (fun z => H) (fun z => z.1) (fun z => Z7_l11 a0 a1 z.1 z.2 = some r) ((a0.l.length + 1), 0) hE Weak.toA ?_
  rintro ⟨n11, s5_12⟩ hE K11 hK11
  try dsimp only at hE
  cases n11 with
  | zero => cases hE
  | succ n11 =>
    rw [Z7_l11] at hE
    refine seqK fun K13 hK13 => ?_
    refine seqK fun K14 hK14 => ?_
    refine region ?_
    refine s0 moveA rfl ?_
    refine s0 moveA rfl ?_
    refine sLen (f := TFault.c) (s := a0) (TK rfl) rfl rfl rfl rfl fun hL15 => ?_
    refine s0 (binI rfl rfl rfl) rfl ?_
    refine nil ?_
    refine hK14 _ ?_
    clear hK14 K14
    refine condE hE rfl (fun hc16 hE => ?_) (fun hc16 hE => ?_)
    ·try dsimp only at hc16
     have hf16 := of_decide_eq_true hc16
     refine AWp.skip ?_
     refine hK13 _ ?_
     clear hK13 K13
     refine seqK fun K17 hK17 => ?_
     refine block ?_
     refine seqK fun K18 hK18 => ?_
     refine AWp.draw rfl ?_
     refine DOps.s0 moveA rfl ?_
     refine DOps.s0 moveA rfl ?_
     obtain ⟨x19, gx19, hE⟩ := bindO_some hE
     refine DOps.s0 (idxMn (f := TFault.c) (n := s5_12) (TK rfl) rfl (TK rfl) rfl rfl rfl gx19) rfl ?_
     refine DOps.s0 (loadV (TK rfl) rfl rfl rfl) rfl ?_
     refine DOps.s0 moveA rfl ?_
     refine DOps.s0 moveA rfl ?_
     obtain ⟨x20, gx20, hE⟩ := bindO_some hE
     refine DOps.s0 (idxMn (f := TFault.c) (n := s5_12) (TK rfl) rfl (TK rfl) rfl rfl rfl gx20) rfl ?_
     refine DOps.s0 (loadV (TK rfl) rfl rfl rfl) rfl ?_
     refine DOps.s0 (neStruct eqt_73 rfl rfl rfl rfl) rfl ?_
     refine DOps.nil (by decide +kernel) ?_
     refine hK18 _ ?_
     clear hK18 K18
     refine condE hE rfl (fun hc21 hE => ?_) (fun hc21 hE => ?_)
     ·refine seqK fun K22 hK22 => ?_
      refine region ?_
      refine s0 assignA rfl ?_
      refine nil ?_
      refine hK22 _ ?_
      clear hK22 K22
      refine AWp.ret ?_
      repeat (first | refine xBlock_ret ?_ | refine xThen_ret ?_)
      obtain rfl := Option.some.inj hE
      refine retQ.retF H rfl ⟨rfl, rfl⟩ ?_
      exact (fun _ _ h => h)
     refine AWp.skip ?_
     refine hK17 _ ?_
     clear hK17 K17
     refine region ?_
     refine s0 moveA rfl ?_
     refine s0 (addIA rfl rfl) rfl ?_
     refine s0 assignA rfl ?_
     refine nil ?_
     exact hK11 _ (n11, (s5_12 + 1)) Weak.toA hE (Nat.lt_succ_self _)
    refine AWp.exit ?_
    exact hK8 _ () Weak.toA hE
 rintro _ hE
 try dsimp only at hE
 unfold Z7_j8 at hE
 refine seqK fun K9 hK9 => ?_
 refine region ?_
 refine s0 assignA rfl ?_
 refine nil ?_
 refine hK9 _ ?_
 clear hK9 K9
 refine AWp.ret ?_
 repeat (first | refine xBlock_ret ?_ | refine xThen_ret ?_)
 obtain rfl := Option.some.inj hE
 refine retQ.retF H rfl ⟨rfl, rfl⟩ ?_
 exact (fun _ _ h => h)
def Z30_j2   : Option Int := some (-1 : Int)
def Z30_l6 (a0 : (Sl TVar)) (a1 : (TVar → Option Bool))  : Nat → Nat → Option Int
 | 0, _ => none
 | n6 + 1, s8_7 => bif (decide (((s8_7 : Nat) : Int) < ((a0.l.length : Nat) : Int))) then ((a0.l[s8_7]?).bind fun x14 => (a1 x14).bind fun x15 => bif x15 then (some ((s8_7 : Nat) : Int)) else ((Z30_l6 a0 a1 n6) (s8_7 + 1))) else (Z30_j2   )
def Z30 (a0 : (Sl TVar)) (a1 : (TVar → Option Bool)) : Option Int := Z30_l6 a0 a1 (a0.l.length + 1) 0
theorem Z30_walk {a0 : (Sl TVar)} {a1 : (TVar → Option Bool)} {w0 : Option Nat} {cl1 : List D} {k1 : Nat} {r : Int} (hE : Z30 a0 a1 = some r) (H : Heap) (hf1 : ∀ x0 r, a1 x0 = some r → ∀ H, ACalls Tryd.prog k1 ([.agg (TVar.c x0)] ++ cl1.map A.d) H fun v h' => v = .a (.d (.bool r)) ∧ h' = H) : ACalls Tryd.prog 58 [.d (Sl.d 9 TVar.c w0 a0), .d (.func k1 cl1)] H fun v h' => v = .a (.d (.int .i64 r)) ∧ h' = H := by
 unfold Z30 at hE
 refine ACalls.of_wp (fn := Tryd.f58) (c := _) Tryd.tab_ok (fun _ _ => Tryd.call58 _ _) Tryd.func58 rfl (n := 19) rfl (rs := [.tmp 4]) rfl rfl ?_
 refine seqK fun K1 hK1 => ?_
 refine region ?_
 refine s0 assignA rfl ?_
 refine nil ?_
 refine hK1 _ ?_
 clear hK1 K1
 refine seqJH KeepsT.nil (fun (z : Unit) => []) (fun z => H) (fun z => Z30_j2  = some r) ?_ ?_
 ·intro K2 hK2
  refine seqK fun K4 hK4 => ?_
  refine region ?_
  refine s0 moveA rfl ?_
  refine sLen (f := TVar.c) (s := a0) (TK rfl) rfl rfl rfl rfl fun hL5 => ?_
  refine s0 moveA rfl ?_
  refine nil ?_
  refine hK4 _ ?_
  clear hK4 K4
  refine block ?_
  refine loopH (KeepsT.A (k := 0) (KeepsT.A (k := 1) (KeepsT.A (k := 7) KeepsT.nil))) (fun (z : Nat × Nat) => [(8, .a (.d (.int .i64 ((z.2 : Nat) : Int))))]) (fun z => H) (fun z => z.1) (fun z => Z30_l6 a0 a1 z.1 z.2 = some r) ((a0.l.length + 1), 0) hE Weak.toA ?_
  rintro ⟨n6, s8_7⟩ hE K6 hK6
  try dsimp only at hE
  cases n6 with
  | zero => cases hE
  | succ n6 =>
    rw [Z30_l6] at hE
    refine seqK fun K8 hK8 => ?_
    refine region ?_
    refine s0 (binI rfl rfl rfl) rfl ?_
    refine nil ?_
    refine hK8 _ ?_
    clear hK8 K8
    refine seqK fun K9 hK9 => ?_
    refine condE hE rfl (fun hc10 hE => ?_) (fun hc10 hE => ?_)
    ·try dsimp only at hc10
     have hf10 := of_decide_eq_true hc10
     refine AWp.skip ?_
     refine hK9 _ ?_
     clear hK9 K9
     refine seqK fun K11 hK11 => ?_
     refine block ?_
     refine seqK fun K12 hK12 => ?_
     refine region ?_
     refine s0 moveA rfl ?_
     refine s0 assignA rfl ?_
     refine nil ?_
     refine hK12 _ ?_
     clear hK12 K12
     refine seqK fun K13 hK13 => ?_
     refine region ?_
     refine s0 moveA rfl ?_
     refine s0 moveA rfl ?_
     refine s0 moveA rfl ?_
     obtain ⟨x14, gx14, hE⟩ := bindO_some hE
     refine s0 (idxMn (f := TVar.c) (n := s8_7) (TK rfl) rfl (TK rfl) rfl rfl rfl gx14) rfl ?_
     refine s0 (loadV (TK rfl) rfl rfl rfl) rfl ?_
     obtain ⟨x15, gx15, hE⟩ := bindO_some hE
     refine s0 (callP rfl rfl (hf1 _ _ gx15)) rfl ?_
     refine nil ?_
     refine hK13 _ ?_
     clear hK13 K13
     refine condE hE rfl (fun hc16 hE => ?_) (fun hc16 hE => ?_)
     ·refine seqK fun K17 hK17 => ?_
      refine region ?_
      refine s0 moveA rfl ?_
      refine s0 assignA rfl ?_
      refine nil ?_
      refine hK17 _ ?_
      clear hK17 K17
      refine AWp.ret ?_
      repeat (first | refine xBlock_ret ?_ | refine xThen_ret ?_)
      obtain rfl := Option.some.inj hE
      refine retQ.retF H rfl ⟨rfl, rfl⟩ ?_
      exact (fun _ _ h => h)
     refine AWp.skip ?_
     refine hK11 _ ?_
     clear hK11 K11
     refine region ?_
     refine s0 (addIA rfl rfl) rfl ?_
     refine s0 moveA rfl ?_
     refine nil ?_
     exact hK6 _ (n6, (s8_7 + 1)) Weak.toA hE (Nat.lt_succ_self _)
    refine AWp.exit ?_
    exact hK2 _ () Weak.toA hE
 rintro _ hE
 try dsimp only at hE
 unfold Z30_j2 at hE
 refine seqK fun K3 hK3 => ?_
 refine region ?_
 refine s0 assignA rfl ?_
 refine nil ?_
 refine hK3 _ ?_
 clear hK3 K3
 refine AWp.ret ?_
 repeat (first | refine xBlock_ret ?_ | refine xThen_ret ?_)
 obtain rfl := Option.some.inj hE
 refine retQ.retF H rfl ⟨rfl, rfl⟩ ?_
 exact (fun _ _ h => h)
end Go.Proofs
