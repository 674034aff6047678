import Derived.Test.YtmjbloiidajknaaGreatDoorV3
import Derived.Test.YtmjbloiidajknaaGreatDoorRows
set_option maxRecDepth 100000
set_option maxHeartbeats 2000000
set_option linter.unusedVariables false
set_option linter.unusedSimpArgs false
namespace Go.Proofs
open Go Go.Ab
open AOps Cert AWp
variable {lou : Lou}
def Z22_j3  (s3_4 : (Sl Int)) : Option (Sl Int) := some s3_4
def Z22_j14 (s4_9 : Nat) (k_next_7 : (Sl Int) → Nat → Option (Sl Int)) (s3_15 : (Sl Int)) : Option (Sl Int) := k_next_7 s3_15 (s4_9 + 1)
def Z22_l7 (a0 : TRef)  : Nat → (Sl Int) → Nat → Option (Sl Int)
 | 0, _, _ => none
 | n7 + 1, s3_8, s4_9 => bif (decide (((s4_9 : Nat) : Int) < ((a0.FWraps.l.length : Nat) : Int))) then ((a0.FWraps.l[s4_9]?).bind fun x17 => bif (!decide (x17 = (1 : Int))) then ((a0.FWraps.l[s4_9]?).bind fun x19 => (appC 8 s3_8 (⟨false, [x19]⟩ : Sl Int)).bind fun x20 => Z22_j14 s4_9 ((Z22_l7 a0 n7)) x20) else (Z22_j14 s4_9 ((Z22_l7 a0 n7)) s3_8)) else (Z22_j3   s3_8)
def Z22 (a0 : TRef) : Option (Sl Int) := Z22_l7 a0 (a0.FWraps.l.length + 1) (Sl.nil : Sl Int) 0
theorem Z22_walk {a0 : TRef}   {r : (Sl Int)} (hE : Z22 a0 = some r) (H : Heap)  : ACalls Tryz.prog 43 [.agg (TRef.c a0)] H fun v h' => v = .a (.d (Sl.d 1 (intE .i64) none r)) ∧ h' = H := by
 unfold Z22 at hE
 refine ACalls.of_wp (fn := Tryz.f43) (c := _) Tryz.tab_ok (fun _ _ => Tryz.call43 _ _) Tryz.func43 rfl (n := 27) rfl (rs := [.tmp 2]) rfl rfl ?_
 refine AWp.tok 1 fun tk1 htk1 => ?_
 refine seqK fun K1 hK1 => ?_
 refine region ?_
 refine s0 (boxV rfl) rfl ?_
 refine s0 (assignNil (k' := 1) rfl) rfl ?_
 refine nil ?_
 refine hK1 _ ?_
 clear hK1 K1
 refine seqK fun K2 hK2 => ?_
 refine region ?_
 refine s0 assignA rfl ?_
 refine nil ?_
 refine hK2 _ ?_
 clear hK2 K2
 refine AWp.nilTok 3 1 tk1 rfl hpG ?_
 refine seqJH KeepsT.nil (fun (z : (Sl Int)) => [(3, .a (.d (Sl.d 1 (intE .i64) (some tk1) z)))]) (fun z => (H.set tk1 (some (.tok 1 z.l.length)))) (fun z => Z22_j3 z = some r) ?_ ?_
 ·intro K3 hK3
  refine seqK fun K6 hK6 => ?_
  refine region ?_
  refine s0 assignA rfl ?_
  refine nil ?_
  refine hK6 _ ?_
  clear hK6 K6
  refine block ?_
  refine loopH (KeepsT.A (k := 1) KeepsT.nil) (fun (z : Nat × (Sl Int) × Nat) => [(3, .a (.d (Sl.d 1 (intE .i64) (some tk1) z.2.1))), (4, .a (.d (.int .i64 ((z.2.2 : Nat) : Int))))]) (fun z => (H.set tk1 (some (.tok 1 z.2.1.l.length)))) (fun z => z.1) (fun z => Z22_l7 a0 z.1 z.2.1 z.2.2 = some r) ((a0.FWraps.l.length + 1), (Sl.nil : Sl Int), 0) hE Weak.toA ?_
  rintro ⟨n7, s3_8, s4_9⟩ hE K7 hK7
  try dsimp only at hE
  cases n7 with
  | zero => cases hE
  | succ n7 =>
    rw [Z22_l7] at hE
    refine seqK fun K10 hK10 => ?_
    refine seqK fun K11 hK11 => ?_
    refine region ?_
    refine s0 moveA rfl ?_
    refine s0 (fieldVA (TK rfl) rfl rfl (TK rfl) rfl rfl) rfl ?_
    refine s0 (loadV (TK rfl) rfl rfl rfl) rfl ?_
    refine sLen (f := (intE .i64)) (s := a0.FWraps) (TK rfl) rfl rfl rfl rfl fun hL12 => ?_
    refine s0 (binI rfl rfl rfl) rfl ?_
    refine nil ?_
    refine hK11 _ ?_
    clear hK11 K11
    refine condE hE rfl (fun hc13 hE => ?_) (fun hc13 hE => ?_)
    ·try dsimp only at hc13
     have hf13 := of_decide_eq_true hc13
     refine AWp.skip ?_
     refine hK10 _ ?_
     clear hK10 K10
     refine seqJH (KeepsT.A (k := 1) (KeepsT.A (k := 4) KeepsT.nil)) (fun (z : (Sl Int)) => [(3, .a (.d (Sl.d 1 (intE .i64) (some tk1) z)))]) (fun z => (H.set tk1 (some (.tok 1 z.l.length)))) (fun z => Z22_j14 s4_9 ((Z22_l7 a0 n7)) z = some r) ?_ ?_
     ·intro K14 hK14
      refine block ?_
      refine seqK fun K16 hK16 => ?_
      refine region ?_
      refine s0 (fieldVA (TK rfl) rfl rfl (TK rfl) rfl rfl) rfl ?_
      refine s0 (loadV (TK rfl) rfl rfl rfl) rfl ?_
      refine s0 moveA rfl ?_
      obtain ⟨x17, gx17, hE⟩ := bindO_some hE
      refine s0 (idxMn (f := (intE .i64)) (n := s4_9) (TK rfl) rfl (TK rfl) rfl rfl rfl gx17) rfl ?_
      refine s0 (loadV (TK rfl) rfl rfl rfl) rfl ?_
      refine s0 (binI rfl rfl rfl) rfl ?_
      refine nil ?_
      refine hK16 _ ?_
      clear hK16 K16
      refine condE hE rfl (fun hc18 hE => ?_) (fun hc18 hE => ?_)
      ·refine region ?_
       refine s0 moveA rfl ?_
       refine s0 (fieldVA (TK rfl) rfl rfl (TK rfl) rfl rfl) rfl ?_
       refine s0 (loadV (TK rfl) rfl rfl rfl) rfl ?_
       refine s0 moveA rfl ?_
       obtain ⟨x19, gx19, hE⟩ := bindO_some hE
       refine s0 (idxMn (f := (intE .i64)) (n := s4_9) (TK rfl) rfl (TK rfl) rfl rfl rfl gx19) rfl ?_
       refine s0 (loadV (TK rfl) rfl rfl rfl) rfl ?_
       refine s0 (buildSlice (TK rfl) rfl (TK rfl) rfl rfl rfl rfl rfl rfl) rfl ?_
       obtain ⟨x20, gx20, hE⟩ := bindO_some hE
       refine sH (appM (f := (intE .i64)) (TK rfl) rfl (TK rfl) (TK rfl) ⟨_, rfl⟩ rfl rfl (by decide) rfl rfl rfl rfl hpG rfl gx20) rfl ?_
       refine AOps.heq (h' := (H.set tk1 (some (.tok 1 x20.l.length)))) (by first | rfl | (rw [Heap.set_set]; rfl) | (funext n_; simp only [Heap.set]; (repeat' split) <;> first | rfl | (exfalso; simp_all; done) | (simp_all; done))) ?_
       refine s0 assignA rfl ?_
       refine nil ?_
       exact hK14 _ x20 Weak.toA hE
      refine AWp.skip ?_
      exact hK14 _ s3_8 Weak.toA hE
     rintro s3_15 hE
     try dsimp only at hE
     unfold Z22_j14 at hE
     refine region ?_
     refine s0 moveA rfl ?_
     refine s0 (addIA rfl rfl) rfl ?_
     refine s0 assignA rfl ?_
     refine nil ?_
     exact hK7 _ (n7, s3_15, (s4_9 + 1)) Weak.toA hE (Nat.lt_succ_self _)
    refine AWp.exit ?_
    exact hK3 _ s3_8 Weak.toA hE
 rintro s3_4 hE
 try dsimp only at hE
 unfold Z22_j3 at hE
 refine seqK fun K5 hK5 => ?_
 refine region ?_
 refine s0 moveA rfl ?_
 refine s0 assignA rfl ?_
 refine nil ?_
 refine hK5 _ ?_
 clear hK5 K5
 refine AWp.dropTok 2 rfl ?_
 refine AWp.ret ?_
 repeat (first | refine xBlock_ret ?_ | refine xThen_ret ?_)
 obtain rfl := Option.some.inj hE
 refine retQ.retF H rfl ⟨rfl, rfl⟩ ?_
 first | exact Heap.sub_set htk1 | (simp only [Heap.set_set]; exact Heap.sub_set htk1)
def Z19 (a0 : TRef) (a1 : TRef) : Option Bool := guardO (((a0.FName == a1.FName))) (Z22 a0) (Sl.nil : Sl Int) fun x3 => guardO (((a0.FName == a1.FName))) (Z22 a1) (Sl.nil : Sl Int) fun x4 => guardO (((a0.FName == a1.FName))) (Z23 x3 x4) false fun x5 => some (((a0.FName == a1.FName)) && x5)
theorem Z19_walk {a0 : TRef} {a1 : TRef}   {r : Bool} (hE : Z19 a0 a1 = some r) (H : Heap)  : ACalls Tryz.prog 27 [.agg (TRef.c a0), .agg (TRef.c a1)] H fun v h' => v = .a (.d (.bool r)) ∧ h' = H := by
 unfold Z19 at hE
 refine ACalls.of_wp (fn := Tryz.f27) (c := _) Tryz.tab_ok (fun _ _ => Tryz.call27 _ _) Tryz.func27 rfl (n := 17) rfl (rs := [.tmp 4]) rfl rfl ?_
 refine seqK fun K1 hK1 => ?_
 refine region ?_
 refine s0 (boxV rfl) rfl ?_
 refine s0 (boxV rfl) rfl ?_
 refine s0 assignA rfl ?_
 refine nil ?_
 refine hK1 _ ?_
 clear hK1 K1
 refine seqK fun K2 hK2 => ?_
 refine AWp.draw rfl ?_
 refine DOps.s0 (fieldVA (TK rfl) rfl rfl (TK rfl) rfl rfl) rfl ?_
 refine DOps.s0 (loadV (TK rfl) rfl rfl rfl) rfl ?_
 refine DOps.s0 (fieldVA (TK rfl) rfl rfl (TK rfl) rfl rfl) rfl ?_
 refine DOps.s0 (loadV (TK rfl) rfl rfl rfl) rfl ?_
 refine DOps.s0 (binS rfl rfl rfl) rfl ?_
 refine DOps.s0 moveA rfl ?_
 refine DOps.gC rfl rfl (fun hC => loadV (TK rfl) rfl rfl rfl) rfl ?_
 obtain ⟨x3, gx3, hE⟩ := guardO_some hE
 refine DOps.gC rfl rfl (fun hC => ungdA (k := 11) rfl (callP rfl rfl (fun H => Z22_walk (gx3 hC) H))) rfl ?_
 refine DOps.gC rfl rfl (fun hC => loadV (TK rfl) rfl rfl rfl) rfl ?_
 obtain ⟨x4, gx4, hE⟩ := guardO_some hE
 refine DOps.gC rfl rfl (fun hC => ungdA (k := 13) rfl (callP rfl rfl (fun H => Z22_walk (gx4 hC) H))) rfl ?_
 obtain ⟨x5, gx5, hE⟩ := guardO_some hE
 refine DOps.gC rfl rfl (fun hC => ungdA (k := 12) rfl (ungdA (k := 14) rfl (callP rfl rfl (fun H => Z23_walk (gx5 hC) H)))) rfl ?_
 refine DOps.s0 (pickAndA rfl rfl rfl) rfl ?_
 refine DOps.s0 assignA rfl ?_
 refine DOps.nil (by decide +kernel) ?_
 refine hK2 _ ?_
 clear hK2 K2
 refine AWp.ret ?_
 repeat (first | refine xBlock_ret ?_ | refine xThen_ret ?_)
 obtain rfl := Option.some.inj hE
 refine retQ.retF H rfl ⟨rfl, rfl⟩ ?_
 exact (fun _ _ h => h)
def Z20_j15  (y16_l1 : TRef) : Option (TRef × Bool) := some (y16_l1, true)
def Z20_j13 (a0 : TRef) (a1 : TRef)  (y14_l1 : TRef) : Option (TRef × Bool) := (Z12 a0).bind fun x19 => guardO (x19) (Z12 a1) false fun x20 => bif (x19 && x20) then ((Z15 y14_l1).bind fun x22 => Z20_j15   x22) else (Z20_j15   y14_l1)
def Z20_n : Nat → TRef → TRef → Option (TRef × Bool)
 | 0, _, _ => none
 | n + 1, a0, a1 => (Z19 a0 a1).bind fun x4 => bif (!x4) then (some ((TRef.mk ([] : Bs) (Sl.nil : Sl Int)), false)) else ((Z14 a0.FName).bind fun x8 => (Z10 a0).bind fun x10 => (Z10 a1).bind fun x12 => bif (x10.2 && x12.2) then (((Z20_n n) x10.1 x12.1).bind fun x26 => (Z13 x26.1).bind fun x27 => Z20_j13 a0 a1  x27) else (Z20_j13 a0 a1  x8))
theorem Z20_step (n : Nat) (ih_29 : ∀ {a0 : TRef} {a1 : TRef}   {r : (TRef × Bool)}, Z20_n n a0 a1 = some r → ∀ (H : Heap), ACalls Tryz.prog 29 [.agg (TRef.c a0), .agg (TRef.c a1)] H fun v h' => v = .tup [.agg (TRef.c r.1), .d (.bool r.2)] ∧ h' = H) : ∀ {a0 : TRef} {a1 : TRef}   {r : (TRef × Bool)}, Z20_n (n + 1) a0 a1 = some r → ∀ (H : Heap), ACalls Tryz.prog 29 [.agg (TRef.c a0), .agg (TRef.c a1)] H fun v h' => v = .tup [.agg (TRef.c r.1), .d (.bool r.2)] ∧ h' = H := by
 intro a0 a1   r hE H 
 rw [Z20_n] at hE
 refine ACalls.of_wp (fn := Tryz.f29) (c := _) Tryz.tab_ok (fun _ _ => Tryz.call29 _ _) Tryz.func29 rfl (n := 50) rfl (rs := [.cell 4 24, .tmp 5]) rfl rfl ?_
 refine seqK fun K1 hK1 => ?_
 refine region ?_
 refine s0 (boxV rfl) rfl ?_
 refine s0 (boxV rfl) rfl ?_
 refine sL (allocLA (TK rfl) rfl) rfl ?_
 refine s0 assignA rfl ?_
 refine nil ?_
 refine hK1 _ ?_
 clear hK1 K1
 refine seqK fun K2 hK2 => ?_
 refine seqK fun K3 hK3 => ?_
 refine region ?_
 refine s0 (loadV (TK rfl) rfl rfl rfl) rfl ?_
 refine s0 (loadV (TK rfl) rfl rfl rfl) rfl ?_
 obtain ⟨x4, gx4, hE⟩ := bindO_some hE
 refine s0 (callP rfl rfl (fun H => Z19_walk gx4 H)) rfl ?_
 refine s0 (notB rfl) rfl ?_
 refine nil ?_
 refine hK3 _ ?_
 clear hK3 K3
 refine condE hE rfl (fun hc5 hE => ?_) (fun hc5 hE => ?_)
 ·refine seqK fun K6 hK6 => ?_
  refine region ?_
  refine s0 (build Tryz.tab_ok rfl rfl rfl rfl rfl rfl) rfl ?_
  refine sLn (storeLFA (TK rfl) rfl rfl rfl rfl rfl) ?_
  refine s0 assignA rfl ?_
  refine nil ?_
  refine hK6 _ ?_
  clear hK6 K6
  refine AWp.ret ?_
  repeat (first | refine xBlock_ret ?_ | refine xThen_ret ?_)
  obtain rfl := Option.some.inj hE
  refine retQ.retF H rfl ⟨rfl, rfl⟩ ?_
  exact (fun _ _ h => h)
 refine AWp.skip ?_
 refine hK2 _ ?_
 clear hK2 K2
 refine seqK fun K7 hK7 => ?_
 refine region ?_
 refine s0 (fieldVA (TK rfl) rfl rfl (TK rfl) rfl rfl) rfl ?_
 refine s0 (loadV (TK rfl) rfl rfl rfl) rfl ?_
 obtain ⟨x8, gx8, hE⟩ := bindO_some hE
 refine s0 (callP rfl rfl (fun H => Z14_walk gx8 H)) rfl ?_
 refine sL (allocLA (TK rfl) rfl) rfl ?_
 refine sLn (storeLFA (TK rfl) rfl rfl rfl rfl rfl) ?_
 refine nil ?_
 refine hK7 _ ?_
 clear hK7 K7
 refine seqK fun K9 hK9 => ?_
 refine region ?_
 refine s0 (loadV (TK rfl) rfl rfl rfl) rfl ?_
 obtain ⟨x10, gx10, hE⟩ := bindO_some hE
 refine s0 (callP rfl rfl (fun H => Z10_walk gx10 H)) rfl ?_
 refine s0 moveA rfl ?_
 refine s0 (extract rfl rfl) rfl ?_
 refine s0 (extract rfl rfl) rfl ?_
 refine sL (allocLA (TK rfl) rfl) rfl ?_
 refine sLn (storeLFA (TK rfl) rfl rfl rfl rfl rfl) ?_
 refine s0 assignA rfl ?_
 refine nil ?_
 refine hK9 _ ?_
 clear hK9 K9
 refine freezeA 7 _ rfl (Keeps.c (k := 2) (by conv => lhs; whnf) (by rfl) (Keeps.c (k := 3) (by conv => lhs; whnf) (by rfl) (Keeps.c (k := 4) (by conv => lhs; whnf) (by rfl) (Keeps.c (k := 6) (by conv => lhs; whnf) (by rfl) (Keeps.c (k := 8) (by conv => lhs; whnf) (by rfl) Keeps.nil))))) ?_
 refine seqK fun K11 hK11 => ?_
 refine region ?_
 refine s0 (loadV (TK rfl) rfl rfl rfl) rfl ?_
 obtain ⟨x12, gx12, hE⟩ := bindO_some hE
 refine s0 (callP rfl rfl (fun H => Z10_walk gx12 H)) rfl ?_
 refine s0 moveA rfl ?_
 refine s0 (extract rfl rfl) rfl ?_
 refine s0 (extract rfl rfl) rfl ?_
 refine sL (allocLA (TK rfl) rfl) rfl ?_
 refine sLn (storeLFA (TK rfl) rfl rfl rfl rfl rfl) ?_
 refine s0 assignA rfl ?_
 refine nil ?_
 refine hK11 _ ?_
 clear hK11 K11
 refine freezeA 9 _ rfl (Keeps.c (k := 2) (by conv => lhs; whnf) (by rfl) (Keeps.c (k := 3) (by conv => lhs; whnf) (by rfl) (Keeps.c (k := 4) (by conv => lhs; whnf) (by rfl) (Keeps.c (k := 6) (by conv => lhs; whnf) (by rfl) (Keeps.c (k := 7) (by conv => lhs; whnf) (by rfl) (Keeps.c (k := 8) (by conv => lhs; whnf) (by rfl) (Keeps.c (k := 10) (by conv => lhs; whnf) (by rfl) Keeps.nil))))))) ?_
 refine seqJ (KeepsT.A (k := 2) (KeepsT.A (k := 3) (KeepsT.A (k := 4) (KeepsT.A (k := 6) KeepsT.nil)))) (fun (z : TRef) => []) (fun z => [TRef.c TRef.zero, TRef.c z]) (fun z => H) (fun z => Z20_j13 a0 a1 z = some r) ?_ ?_
 ·intro K13 hK13
  refine seqK fun K23 hK23 => ?_
  refine region ?_
  refine s0 moveA rfl ?_
  refine s0 moveA rfl ?_
  refine gC rfl rfl (fun hC => moveA) rfl ?_
  refine s0 (pickAndA rfl rfl rfl) rfl ?_
  refine nil ?_
  refine hK23 _ ?_
  clear hK23 K23
  refine condE hE rfl (fun hc24 hE => ?_) (fun hc24 hE => ?_)
  ·refine seqK fun K25 hK25 => ?_
   refine region ?_
   refine s0 (loadV (TK rfl) rfl rfl rfl) rfl ?_
   refine s0 (loadV (TK rfl) rfl rfl rfl) rfl ?_
   obtain ⟨x26, gx26, hE⟩ := bindO_some hE
   refine s0 (callP rfl rfl (fun H => ih_29 gx26 H)) rfl ?_
   refine s0 moveA rfl ?_
   refine s0 (extract rfl rfl) rfl ?_
   refine s0 (extract rfl rfl) rfl ?_
   refine sLn (storeLFA (TK rfl) rfl rfl rfl rfl rfl) ?_
   refine nil ?_
   refine hK25 _ ?_
   clear hK25 K25
   refine region ?_
   refine s0 (loadL (TK rfl) rfl rfl rfl rfl) rfl ?_
   obtain ⟨x27, gx27, hE⟩ := bindO_some hE
   refine s0 (callP rfl rfl (fun H => Z13_walk gx27 H)) rfl ?_
   refine sLn (storeLFA (TK rfl) rfl rfl rfl rfl rfl) ?_
   refine nil ?_
   exact hK13 _ x27 Weak.toA hE
  refine AWp.skip ?_
  exact hK13 _ x8 Weak.toA hE
 rintro y14_l1 hE
 try dsimp only at hE
 unfold Z20_j13 at hE
 refine seqJ (KeepsT.A (k := 4) (KeepsT.A (k := 6) KeepsT.nil)) (fun (z : TRef) => []) (fun z => [TRef.c TRef.zero, TRef.c z]) (fun z => H) (fun z => Z20_j15 z = some r) ?_ ?_
 ·intro K15 hK15
  refine seqK fun K18 hK18 => ?_
  refine region ?_
  refine s0 (loadV (TK rfl) rfl rfl rfl) rfl ?_
  obtain ⟨x19, gx19, hE⟩ := bindO_some hE
  refine s0 (callP rfl rfl (fun H => Z12_walk gx19 H)) rfl ?_
  refine s0 moveA rfl ?_
  refine gC rfl rfl (fun hC => loadV (TK rfl) rfl rfl rfl) rfl ?_
  obtain ⟨x20, gx20, hE⟩ := guardO_some hE
  refine gC rfl rfl (fun hC => ungdA (k := 44) rfl (callP rfl rfl (fun H => Z12_walk (gx20 hC) H))) rfl ?_
  refine s0 (pickAndA rfl rfl rfl) rfl ?_
  refine nil ?_
  refine hK18 _ ?_
  clear hK18 K18
  refine condE hE rfl (fun hc21 hE => ?_) (fun hc21 hE => ?_)
  ·refine region ?_
   refine s0 (loadL (TK rfl) rfl rfl rfl rfl) rfl ?_
   obtain ⟨x22, gx22, hE⟩ := bindO_some hE
   refine s0 (callP rfl rfl (fun H => Z15_walk gx22 H)) rfl ?_
   refine sLn (storeLFA (TK rfl) rfl rfl rfl rfl rfl) ?_
   refine nil ?_
   exact hK15 _ x22 Weak.toA hE
  refine AWp.skip ?_
  exact hK15 _ y14_l1 Weak.toA hE
 rintro y16_l1 hE
 try dsimp only at hE
 unfold Z20_j15 at hE
 refine seqK fun K17 hK17 => ?_
 refine region ?_
 refine s0 (loadL (TK rfl) rfl rfl rfl rfl) rfl ?_
 refine sLn (storeLFA (TK rfl) rfl rfl rfl rfl rfl) ?_
 refine s0 assignA rfl ?_
 refine nil ?_
 refine hK17 _ ?_
 clear hK17 K17
 refine AWp.ret ?_
 repeat (first | refine xBlock_ret ?_ | refine xThen_ret ?_)
 obtain rfl := Option.some.inj hE
 refine retQ.retF H rfl ⟨rfl, rfl⟩ ?_
 exact (fun _ _ h => h)
theorem Z20_all : ∀ (n : Nat), (∀ {a0 : TRef} {a1 : TRef}   {r : (TRef × Bool)}, Z20_n n a0 a1 = some r → ∀ (H : Heap), ACalls Tryz.prog 29 [.agg (TRef.c a0), .agg (TRef.c a1)] H fun v h' => v = .tup [.agg (TRef.c r.1), .d (.bool r.2)] ∧ h' = H)
 | 0 => fun hE => by first | cases hE | (rw [Z20_n] at hE; cases hE)
 | n + 1 => Z20_step n (Z20_all n)
def Z20 (a0 : TRef) (a1 : TRef) : Option (TRef × Bool) := Z20_n F0 a0 a1
theorem Z20_walk {a0 : TRef} {a1 : TRef}   {r : (TRef × Bool)} (hE : Z20 a0 a1 = some r) (H : Heap)  : ACalls Tryz.prog 29 [.agg (TRef.c a0), .agg (TRef.c a1)] H fun v h' => v = .tup [.agg (TRef.c r.1), .d (.bool r.2)] ∧ h' = H := (Z20_all F0) hE H 
def Z9_n : Nat → TRef → TRef → Option Bool
 | 0, _, _ => none
 | n + 1, a0, a1 => (Z19 a0 a1).bind fun x4 => guardO (!(!x4)) (Z12 a1) false fun x5 => guardO ((!(!x4) && x5)) (Z12 a0) false fun x6 => bif ((!x4) || (x5 && (!x6))) then (some false) else ((Z10 a0).bind fun x10 => (Z10 a1).bind fun x12 => guardO (!((!x10.2) || (!x12.2))) ((Z9_n n) x10.1 x12.1) false fun x14 => some (((!x10.2) || (!x12.2)) || x14))
theorem Z9_step (n : Nat) (ih_31 : ∀ {a0 : TRef} {a1 : TRef}   {r : Bool}, Z9_n n a0 a1 = some r → ∀ (H : Heap), ACalls Tryz.prog 31 [.agg (TRef.c a0), .agg (TRef.c a1)] H fun v h' => v = .a (.d (.bool r)) ∧ h' = H) : ∀ {a0 : TRef} {a1 : TRef}   {r : Bool}, Z9_n (n + 1) a0 a1 = some r → ∀ (H : Heap), ACalls Tryz.prog 31 [.agg (TRef.c a0), .agg (TRef.c a1)] H fun v h' => v = .a (.d (.bool r)) ∧ h' = H := by
 intro a0 a1   r hE H 
 rw [Z9_n] at hE
 refine ACalls.of_wp (fn := Tryz.f31) (c := _) Tryz.tab_ok (fun _ _ => Tryz.call31 _ _) Tryz.func31 rfl (n := 43) rfl (rs := [.tmp 4]) rfl rfl ?_
 refine seqK fun K1 hK1 => ?_
 refine region ?_
 refine s0 (boxV rfl) rfl ?_
 refine s0 (boxV rfl) rfl ?_
 refine s0 assignA rfl ?_
 refine nil ?_
 refine hK1 _ ?_
 clear hK1 K1
 refine seqK fun K2 hK2 => ?_
 refine seqK fun K3 hK3 => ?_
 refine region ?_
 refine s0 (loadV (TK rfl) rfl rfl rfl) rfl ?_
 refine s0 (loadV (TK rfl) rfl rfl rfl) rfl ?_
 obtain ⟨x4, gx4, hE⟩ := bindO_some hE
 refine s0 (callP rfl rfl (fun H => Z19_walk gx4 H)) rfl ?_
 refine s0 (notB rfl) rfl ?_
 refine s0 moveA rfl ?_
 refine gC rfl rfl (fun hC => loadV (TK rfl) rfl rfl rfl) rfl ?_
 obtain ⟨x5, gx5, hE⟩ := guardO_some hE
 refine gC rfl rfl (fun hC => ungdA (k := 14) rfl (callP rfl rfl (fun H => Z12_walk (gx5 hC) H))) rfl ?_
 refine gC rfl rfl (fun hC => ungdA (k := 15) rfl moveA) rfl ?_
 refine gC rfl rfl (fun hC => loadV (TK rfl) rfl rfl rfl) rfl ?_
 obtain ⟨x6, gx6, hE⟩ := guardO_some hE
 refine gC rfl rfl (fun hC => ungdA (k := 17) rfl (callP rfl rfl (fun H => Z12_walk (gx6 hC) H))) rfl ?_
 refine gC rfl rfl (fun hC => ungdA (k := 18) rfl (notB rfl)) rfl ?_
 refine gC rfl rfl (fun hC => ungdA (k := 16) rfl (pickAndA rfl rfl rfl)) rfl ?_
 refine s0 (pickOrA rfl rfl rfl) rfl ?_
 refine nil ?_
 refine hK3 _ ?_
 clear hK3 K3
 refine condE hE rfl (fun hc7 hE => ?_) (fun hc7 hE => ?_)
 ·refine seqK fun K8 hK8 => ?_
  refine region ?_
  refine s0 assignA rfl ?_
  refine nil ?_
  refine hK8 _ ?_
  clear hK8 K8
  refine AWp.ret ?_
  repeat (first | refine xBlock_ret ?_ | refine xThen_ret ?_)
  obtain rfl := Option.some.inj hE
  refine retQ.retF H rfl ⟨rfl, rfl⟩ ?_
  exact (fun _ _ h => h)
 refine AWp.skip ?_
 refine hK2 _ ?_
 clear hK2 K2
 refine seqK fun K9 hK9 => ?_
 refine region ?_
 refine s0 (loadV (TK rfl) rfl rfl rfl) rfl ?_
 obtain ⟨x10, gx10, hE⟩ := bindO_some hE
 refine s0 (callP rfl rfl (fun H => Z10_walk gx10 H)) rfl ?_
 refine s0 moveA rfl ?_
 refine s0 (extract rfl rfl) rfl ?_
 refine s0 (extract rfl rfl) rfl ?_
 refine sL (allocLA (TK rfl) rfl) rfl ?_
 refine sLn (storeLFA (TK rfl) rfl rfl rfl rfl rfl) ?_
 refine s0 assignA rfl ?_
 refine nil ?_
 refine hK9 _ ?_
 clear hK9 K9
 refine freezeA 5 _ rfl (Keeps.c (k := 3) (by conv => lhs; whnf) (by rfl) (Keeps.c (k := 6) (by conv => lhs; whnf) (by rfl) Keeps.nil)) ?_
 refine seqK fun K11 hK11 => ?_
 refine region ?_
 refine s0 (loadV (TK rfl) rfl rfl rfl) rfl ?_
 obtain ⟨x12, gx12, hE⟩ := bindO_some hE
 refine s0 (callP rfl rfl (fun H => Z10_walk gx12 H)) rfl ?_
 refine s0 moveA rfl ?_
 refine s0 (extract rfl rfl) rfl ?_
 refine s0 (extract rfl rfl) rfl ?_
 refine sL (allocLA (TK rfl) rfl) rfl ?_
 refine sLn (storeLFA (TK rfl) rfl rfl rfl rfl rfl) ?_
 refine s0 assignA rfl ?_
 refine nil ?_
 refine hK11 _ ?_
 clear hK11 K11
 refine freezeA 7 _ rfl (Keeps.c (k := 5) (by conv => lhs; whnf) (by rfl) (Keeps.c (k := 6) (by conv => lhs; whnf) (by rfl) (Keeps.c (k := 8) (by conv => lhs; whnf) (by rfl) Keeps.nil))) ?_
 refine seqK fun K13 hK13 => ?_
 refine region ?_
 refine s0 moveA rfl ?_
 refine s0 (notB rfl) rfl ?_
 refine s0 moveA rfl ?_
 refine gC rfl rfl (fun hC => moveA) rfl ?_
 refine gC rfl rfl (fun hC => ungdA (k := 35) rfl (notB rfl)) rfl ?_
 refine s0 (pickOrA rfl rfl rfl) rfl ?_
 refine s0 moveA rfl ?_
 refine gC rfl rfl (fun hC => loadV (TK rfl) rfl rfl rfl) rfl ?_
 refine gC rfl rfl (fun hC => loadV (TK rfl) rfl rfl rfl) rfl ?_
 obtain ⟨x14, gx14, hE⟩ := guardO_some hE
 refine gC rfl rfl (fun hC => ungdA (k := 39) rfl (ungdA (k := 40) rfl (callP rfl rfl (fun H => ih_31 (gx14 hC) H)))) rfl ?_
 refine s0 (pickOrA rfl rfl rfl) rfl ?_
 refine s0 assignA rfl ?_
 refine nil ?_
 refine hK13 _ ?_
 clear hK13 K13
 refine AWp.ret ?_
 repeat (first | refine xBlock_ret ?_ | refine xThen_ret ?_)
 obtain rfl := Option.some.inj hE
 refine retQ.retF H rfl ⟨rfl, rfl⟩ ?_
 exact (fun _ _ h => h)
theorem Z9_all : ∀ (n : Nat), (∀ {a0 : TRef} {a1 : TRef}   {r : Bool}, Z9_n n a0 a1 = some r → ∀ (H : Heap), ACalls Tryz.prog 31 [.agg (TRef.c a0), .agg (TRef.c a1)] H fun v h' => v = .a (.d (.bool r)) ∧ h' = H)
 | 0 => fun hE => by first | cases hE | (rw [Z9_n] at hE; cases hE)
 | n + 1 => Z9_step n (Z9_all n)
def Z9 (a0 : TRef) (a1 : TRef) : Option Bool := Z9_n F0 a0 a1
theorem Z9_walk {a0 : TRef} {a1 : TRef}   {r : Bool} (hE : Z9 a0 a1 = some r) (H : Heap)  : ACalls Tryz.prog 31 [.agg (TRef.c a0), .agg (TRef.c a1)] H fun v h' => v = .a (.d (.bool r)) ∧ h' = H := (Z9_all F0) hE H 
def Z2 (a0 : TRef) (a1 : TRef) : Option Bool := (Z4 a0).bind fun x4 => guardO (!(!x4)) (Z4 a1) false fun x5 => bif ((!x4) || (!x5)) then ((Z5 ).bind fun x8 => some x8) else ((Z60 a0 a1).bind fun x11 => (Z18 a0 a1).bind fun x12 => guardO (!(!(x11 == x12))) (Z61 a0 a1) false fun x13 => guardO (!(!(x11 == x12))) (Z19 a0 a1) false fun x14 => bif ((!(x11 == x12)) || (!(x13 == x14))) then (some false) else ((Z17 a0).bind fun x19 => guardO (!(!x19)) (Z17 a1) false fun x20 => bif ((!x19) || (!x20)) then ((Z5 ).bind fun x23 => some x23) else ((Z62 a0 a1).bind fun x25 => (Z20 a0 a1).bind fun x27 => guardO (((x25.2 == x27.2))) (Z18 x25.1 x27.1) false fun x29 => guardO ((((x25.2 == x27.2)) && x29)) (Z49 a0 a1) false fun x30 => guardO ((((x25.2 == x27.2)) && x29)) (Z9 a0 a1) false fun x31 => guardO (((((x25.2 == x27.2)) && x29) && ((x30 == x31)))) (Z5 ) false fun x32 => some (((((x25.2 == x27.2)) && x29) && ((x30 == x31))) && x32))))
theorem Z2_walk {a0 : TRef} {a1 : TRef}   {r : Bool} (hE : Z2 a0 a1 = some r) (H : Heap)  : ACalls Tryz.prog 4 [.agg (TRef.c a0), .agg (TRef.c a1)] H fun v h' => v = .a (.d (.bool r)) ∧ h' = H := by
 unfold Z2 at hE
 refine ACalls.of_wp (fn := Tryz.f4) (c := _) Tryz.tab_ok (fun _ _ => Tryz.call4 _ _) Tryz.func4 rfl (n := 75) rfl (rs := [.tmp 4]) rfl rfl ?_
 refine seqK fun K1 hK1 => ?_
 refine region ?_
 refine s0 (boxV rfl) rfl ?_
 refine s0 (boxV rfl) rfl ?_
 refine s0 assignA rfl ?_
 refine nil ?_
 refine hK1 _ ?_
 clear hK1 K1
 refine seqK fun K2 hK2 => ?_
 refine seqK fun K3 hK3 => ?_
 refine region ?_
 refine s0 (loadV (TK rfl) rfl rfl rfl) rfl ?_
 obtain ⟨x4, gx4, hE⟩ := bindO_some hE
 refine s0 (callP rfl rfl (fun H => Z4_walk gx4 H)) rfl ?_
 refine s0 (notB rfl) rfl ?_
 refine s0 moveA rfl ?_
 refine gC rfl rfl (fun hC => loadV (TK rfl) rfl rfl rfl) rfl ?_
 obtain ⟨x5, gx5, hE⟩ := guardO_some hE
 refine gC rfl rfl (fun hC => ungdA (k := 13) rfl (callP rfl rfl (fun H => Z4_walk (gx5 hC) H))) rfl ?_
 refine gC rfl rfl (fun hC => ungdA (k := 14) rfl (notB rfl)) rfl ?_
 refine s0 (pickOrA rfl rfl rfl) rfl ?_
 refine nil ?_
 refine hK3 _ ?_
 clear hK3 K3
 refine condE hE rfl (fun hc6 hE => ?_) (fun hc6 hE => ?_)
 ·refine seqK fun K7 hK7 => ?_
  refine region ?_
  obtain ⟨x8, gx8, hE⟩ := bindO_some hE
  refine s0 (callP rfl rfl (fun H => Z5_walk gx8 H)) rfl ?_
  refine s0 assignA rfl ?_
  refine nil ?_
  refine hK7 _ ?_
  clear hK7 K7
  refine AWp.ret ?_
  repeat (first | refine xBlock_ret ?_ | refine xThen_ret ?_)
  obtain rfl := Option.some.inj hE
  refine retQ.retF H rfl ⟨rfl, rfl⟩ ?_
  exact (fun _ _ h => h)
 refine AWp.skip ?_
 refine hK2 _ ?_
 clear hK2 K2
 refine seqK fun K9 hK9 => ?_
 refine seqK fun K10 hK10 => ?_
 refine AWp.draw rfl ?_
 refine DOps.s0 (loadV (TK rfl) rfl rfl rfl) rfl ?_
 refine DOps.s0 (loadV (TK rfl) rfl rfl rfl) rfl ?_
 obtain ⟨x11, gx11, hE⟩ := bindO_some hE
 refine DOps.s0 (callP rfl rfl (fun H => Z60_walk gx11 H)) rfl ?_
 refine DOps.s0 (loadV (TK rfl) rfl rfl rfl) rfl ?_
 refine DOps.s0 (loadV (TK rfl) rfl rfl rfl) rfl ?_
 obtain ⟨x12, gx12, hE⟩ := bindO_some hE
 refine DOps.s0 (callP rfl rfl (fun H => Z18_walk gx12 H)) rfl ?_
 refine DOps.s0 (neB (TK rfl) rfl rfl rfl) rfl ?_
 refine DOps.s0 moveA rfl ?_
 refine DOps.gC rfl rfl (fun hC => loadV (TK rfl) rfl rfl rfl) rfl ?_
 refine DOps.gC rfl rfl (fun hC => loadV (TK rfl) rfl rfl rfl) rfl ?_
 obtain ⟨x13, gx13, hE⟩ := guardO_some hE
 refine DOps.gC rfl rfl (fun hC => ungdA (k := 26) rfl (ungdA (k := 27) rfl (callP rfl rfl (fun H => Z61_walk (gx13 hC) H)))) rfl ?_
 refine DOps.gC rfl rfl (fun hC => loadV (TK rfl) rfl rfl rfl) rfl ?_
 refine DOps.gC rfl rfl (fun hC => loadV (TK rfl) rfl rfl rfl) rfl ?_
 obtain ⟨x14, gx14, hE⟩ := guardO_some hE
 refine DOps.gC rfl rfl (fun hC => ungdA (k := 29) rfl (ungdA (k := 30) rfl (callP rfl rfl (fun H => Z19_walk (gx14 hC) H)))) rfl ?_
 refine DOps.gC rfl rfl (fun hC => ungdA (k := 28) rfl (ungdA (k := 31) rfl (neB (TK rfl) rfl rfl rfl))) rfl ?_
 refine DOps.s0 (pickOrA rfl rfl rfl) rfl ?_
 refine DOps.nil (by decide +kernel) ?_
 refine hK10 _ ?_
 clear hK10 K10
 refine condE hE rfl (fun hc15 hE => ?_) (fun hc15 hE => ?_)
 ·refine seqK fun K16 hK16 => ?_
  refine region ?_
  refine s0 assignA rfl ?_
  refine nil ?_
  refine hK16 _ ?_
  clear hK16 K16
  refine AWp.ret ?_
  repeat (first | refine xBlock_ret ?_ | refine xThen_ret ?_)
  obtain rfl := Option.some.inj hE
  refine retQ.retF H rfl ⟨rfl, rfl⟩ ?_
  exact (fun _ _ h => h)
 refine AWp.skip ?_
 refine hK9 _ ?_
 clear hK9 K9
 refine seqK fun K17 hK17 => ?_
 refine seqK fun K18 hK18 => ?_
 refine region ?_
 refine s0 (loadV (TK rfl) rfl rfl rfl) rfl ?_
 obtain ⟨x19, gx19, hE⟩ := bindO_some hE
 refine s0 (callP rfl rfl (fun H => Z17_walk gx19 H)) rfl ?_
 refine s0 (notB rfl) rfl ?_
 refine s0 moveA rfl ?_
 refine gC rfl rfl (fun hC => loadV (TK rfl) rfl rfl rfl) rfl ?_
 obtain ⟨x20, gx20, hE⟩ := guardO_some hE
 refine gC rfl rfl (fun hC => ungdA (k := 38) rfl (callP rfl rfl (fun H => Z17_walk (gx20 hC) H))) rfl ?_
 refine gC rfl rfl (fun hC => ungdA (k := 39) rfl (notB rfl)) rfl ?_
 refine s0 (pickOrA rfl rfl rfl) rfl ?_
 refine nil ?_
 refine hK18 _ ?_
 clear hK18 K18
 refine condE hE rfl (fun hc21 hE => ?_) (fun hc21 hE => ?_)
 ·refine seqK fun K22 hK22 => ?_
  refine region ?_
  obtain ⟨x23, gx23, hE⟩ := bindO_some hE
  refine s0 (callP rfl rfl (fun H => Z5_walk gx23 H)) rfl ?_
  refine s0 assignA rfl ?_
  refine nil ?_
  refine hK22 _ ?_
  clear hK22 K22
  refine AWp.ret ?_
  repeat (first | refine xBlock_ret ?_ | refine xThen_ret ?_)
  obtain rfl := Option.some.inj hE
  refine retQ.retF H rfl ⟨rfl, rfl⟩ ?_
  exact (fun _ _ h => h)
 refine AWp.skip ?_
 refine hK17 _ ?_
 clear hK17 K17
 refine seqK fun K24 hK24 => ?_
 refine region ?_
 refine s0 (loadV (TK rfl) rfl rfl rfl) rfl ?_
 refine s0 (loadV (TK rfl) rfl rfl rfl) rfl ?_
 obtain ⟨x25, gx25, hE⟩ := bindO_some hE
 refine s0 (callP rfl rfl (fun H => Z62_walk gx25 H)) rfl ?_
 refine s0 moveA rfl ?_
 refine s0 (extract rfl rfl) rfl ?_
 refine s0 (extract rfl rfl) rfl ?_
 refine sL (allocLA (TK rfl) rfl) rfl ?_
 refine sLn (storeLFA (TK rfl) rfl rfl rfl rfl rfl) ?_
 refine s0 assignA rfl ?_
 refine nil ?_
 refine hK24 _ ?_
 clear hK24 K24
 refine freezeA 5 _ rfl (Keeps.c (k := 2) (by conv => lhs; whnf) (by rfl) (Keeps.c (k := 3) (by conv => lhs; whnf) (by rfl) (Keeps.c (k := 6) (by conv => lhs; whnf) (by rfl) Keeps.nil))) ?_
 refine seqK fun K26 hK26 => ?_
 refine region ?_
 refine s0 (loadV (TK rfl) rfl rfl rfl) rfl ?_
 refine s0 (loadV (TK rfl) rfl rfl rfl) rfl ?_
 obtain ⟨x27, gx27, hE⟩ := bindO_some hE
 refine s0 (callP rfl rfl (fun H => Z20_walk gx27 H)) rfl ?_
 refine s0 moveA rfl ?_
 refine s0 (extract rfl rfl) rfl ?_
 refine s0 (extract rfl rfl) rfl ?_
 refine sL (allocLA (TK rfl) rfl) rfl ?_
 refine sLn (storeLFA (TK rfl) rfl rfl rfl rfl rfl) ?_
 refine s0 assignA rfl ?_
 refine nil ?_
 refine hK26 _ ?_
 clear hK26 K26
 refine freezeA 7 _ rfl (Keeps.c (k := 2) (by conv => lhs; whnf) (by rfl) (Keeps.c (k := 3) (by conv => lhs; whnf) (by rfl) (Keeps.c (k := 5) (by conv => lhs; whnf) (by rfl) (Keeps.c (k := 6) (by conv => lhs; whnf) (by rfl) (Keeps.c (k := 8) (by conv => lhs; whnf) (by rfl) Keeps.nil))))) ?_
 refine seqK fun K28 hK28 => ?_
 refine AWp.draw rfl ?_
 refine DOps.s0 moveA rfl ?_
 refine DOps.s0 moveA rfl ?_
 refine DOps.s0 (eqB (TK rfl) rfl rfl rfl) rfl ?_
 refine DOps.s0 moveA rfl ?_
 refine DOps.gC rfl rfl (fun hC => loadV (TK rfl) rfl rfl rfl) rfl ?_
 refine DOps.gC rfl rfl (fun hC => loadV (TK rfl) rfl rfl rfl) rfl ?_
 obtain ⟨x29, gx29, hE⟩ := guardO_some hE
 refine DOps.gC rfl rfl (fun hC => ungdA (k := 59) rfl (ungdA (k := 60) rfl (callP rfl rfl (fun H => Z18_walk (gx29 hC) H)))) rfl ?_
 refine DOps.s0 (pickAndA rfl rfl rfl) rfl ?_
 refine DOps.s0 moveA rfl ?_
 refine DOps.gC rfl rfl (fun hC => loadV (TK rfl) rfl rfl rfl) rfl ?_
 refine DOps.gC rfl rfl (fun hC => loadV (TK rfl) rfl rfl rfl) rfl ?_
 obtain ⟨x30, gx30, hE⟩ := guardO_some hE
 refine DOps.gC rfl rfl (fun hC => ungdA (k := 64) rfl (ungdA (k := 65) rfl (callP rfl rfl (fun H => Z49_walk (gx30 hC) H)))) rfl ?_
 refine DOps.gC rfl rfl (fun hC => loadV (TK rfl) rfl rfl rfl) rfl ?_
 refine DOps.gC rfl rfl (fun hC => loadV (TK rfl) rfl rfl rfl) rfl ?_
 obtain ⟨x31, gx31, hE⟩ := guardO_some hE
 refine DOps.gC rfl rfl (fun hC => ungdA (k := 67) rfl (ungdA (k := 68) rfl (callP rfl rfl (fun H => Z9_walk (gx31 hC) H)))) rfl ?_
 refine DOps.gC rfl rfl (fun hC => ungdA (k := 66) rfl (ungdA (k := 69) rfl (eqB (TK rfl) rfl rfl rfl))) rfl ?_
 refine DOps.s0 (pickAndA rfl rfl rfl) rfl ?_
 refine DOps.s0 moveA rfl ?_
 obtain ⟨x32, gx32, hE⟩ := guardO_some hE
 refine DOps.gC rfl rfl (fun hC => callP rfl rfl (fun H => Z5_walk (gx32 hC) H)) rfl ?_
 refine DOps.s0 (pickAndA rfl rfl rfl) rfl ?_
 refine DOps.s0 assignA rfl ?_
 refine DOps.nil (by decide +kernel) ?_
 refine hK28 _ ?_
 clear hK28 K28
 refine AWp.ret ?_
 repeat (first | refine xBlock_ret ?_ | refine xThen_ret ?_)
 obtain rfl := Option.some.inj hE
 refine retQ.retF H rfl ⟨rfl, rfl⟩ ?_
 exact (fun _ _ h => h)
end Go.Proofs

namespace Go.Proofs
open Go Go.Ab
def Z4_q (a0 : TRef) : Bool := (decide (((a0.FWraps.l.length : Nat) : Int) ≤ (200 : Int)))
theorem Z4_eq (a0 : TRef) : Z4 a0 = some (Z4_q a0) := by
 unfold Z4 Z4_q
 all_goals rfl
def Z52_q (a0 : TRef) : Bool := on (bif (decide ((0 : Int) < ((a0.FWraps.l.length : Nat) : Int))) then ((a0.FWraps.l)[0]?.getD (0 : Int)) else (0 : Int)) fun x4 => ((decide ((0 : Int) < ((a0.FWraps.l.length : Nat) : Int))) && (decide (x4 = (1 : Int))))
theorem Z52_eq (a0 : TRef) : Z52 a0 = some (Z52_q a0) := by
 unfold Z52 Z52_q
 refine Q.guardT (fun hc => Q.getD_some (by simp at hc; omega)) fun x4 hx_x4 => ?_
 all_goals rfl
def Z25_q (a0 : (Sl Int)) : Option (Sl Int) := bif a0.nl then (some (Sl.nil : Sl Int)) else ((appC 8 (⟨false, []⟩ : Sl Int) a0).bind fun x7 => some x7)
theorem Z25_eq (a0 : (Sl Int)) : Z25 a0 = Z25_q a0 := by
 unfold Z25 Z25_q
 refine Eq.trans ?_ (Q.some_bind _)
 refine Q.condO ?_ ?_
 ·all_goals rfl
 refine Q.bindO rfl fun x7 => ?_
 all_goals rfl
def Z56_q (a0 : TRef) : Option TRef := on (Z52_q a0) fun x8 => Option.bind (bif x8 then ((partC a0.FWraps (some (1 : Int)) none).bind fun x10 => some x10) else (some a0.FWraps)) fun s3_4 => (Z25_q s3_4).bind fun x6 => some (TRef.mk a0.FName x6)
theorem Z56_eq (a0 : TRef) : Z56 a0 = Z56_q a0 := by
 unfold Z56 Z56_q
 refine Eq.trans ?_ (Q.some_bind _)
 refine Q.bindPO (Z52_eq _) fun x8 hx_x8 => ?_
 refine Q.wrapOO fun Kj3 hKj3 => ?_
 have hj3 : ∀ (s3_4 : (Sl Int)), Z56_j3 a0 s3_4 = Kj3 s3_4 := by
  intro s3_4
  refine Eq.trans ?_ (hKj3 _).symm
  unfold Z56_j3
  refine Q.bindO (Z25_eq _) fun x6 => ?_
  all_goals rfl
 refine Q.condO ?_ ?_
 ·refine Q.bindO rfl fun x10 => ?_
  all_goals exact hj3 _
 all_goals exact hj3 _
def Z51_q (a0 : TRef) : Option Bool := (Z56_q a0).bind fun x3 => on (bif (decide ((0 : Int) < ((x3.FWraps.l.length : Nat) : Int))) then ((x3.FWraps.l)[0]?.getD (0 : Int)) else (0 : Int)) fun x6 => some ((decide ((0 : Int) < ((x3.FWraps.l.length : Nat) : Int))) && (decide (x6 = (2 : Int))))
theorem Z51_eq (a0 : TRef) : Z51 a0 = Z51_q a0 := by
 unfold Z51 Z51_q
 refine Eq.trans ?_ (Q.some_bind _)
 refine Q.bindO (Z56_eq _) fun x3 => ?_
 refine Q.guardTO (fun hc => Q.getD_some (by simp at hc; omega)) fun x6 hx_x6 => ?_
 all_goals rfl
def Z50_q (a0 : TRef) : Option (TRef × Bool) := (Z51_q a0).bind fun x4 => bif (!x4) then (some ((TRef.mk ([] : Bs) (Sl.nil : Sl Int)), false)) else ((Z56_q a0).bind fun x8 => (partC x8.FWraps (some (1 : Int)) none).bind fun x10 => some ((TRef.mk x8.FName x10), true))
theorem Z50_eq (a0 : TRef) : Z50 a0 = Z50_q a0 := by
 unfold Z50 Z50_q
 refine Eq.trans ?_ (Q.some_bind _)
 refine Q.bindO (Z51_eq _) fun x4 => ?_
 refine Q.condO ?_ ?_
 ·all_goals rfl
 refine Q.bindO (Z56_eq _) fun x8 => ?_
 refine Q.bindO rfl fun x10 => ?_
 all_goals rfl
def Z23_q11 (a1 : (Sl Int)) : List Int → Nat → Option (Unit ⊕ Bool)
 | [], s5_12 => some (Sum.inl ())
 | h11 :: r11, s5_12 => on (h11) fun x19 => (a1.l[s5_12]?).bind fun x20 => bif (!decide (x19 = x20)) then (some (Sum.inr false)) else (Z23_q11 a1 (r11) (s5_12 + 1) )
theorem Z23_l11_qe {a0 : (Sl Int)} {a1 : (Sl Int)}  (Kb11 : (Unit ⊕ Bool) → Option Bool) (hend : ∀ (n11 : Nat) (s5_12 : Nat), Z23_j8    = Kb11 (Sum.inl ())) (hret : ∀ e : Bool, some e = Kb11 (Sum.inr e)) : ∀ (n11 : Nat) (s5_12 : Nat), (0 < n11 ∧ a0.l.length < s5_12 + n11) → Z23_l11 a0 a1 n11 s5_12 = Option.bind (Z23_q11 a1 (a0.l.drop s5_12) s5_12 ) Kb11 := by
 intro n11
 induction n11 with
 | zero => intro s5_12 hn; exact absurd hn.1 (by omega)
 | succ n11 ih11 =>
  intro s5_12 hn
  rw [Z23_l11]
  by_cases hlt : s5_12 < a0.l.length
  ·obtain ⟨h11, hh11⟩ : ∃ x, a0.l[s5_12]? = some x := ⟨_, List.getElem?_eq_getElem hlt⟩
   rw [Q.drop_of hh11, Z23_q11]
   refine Q.condT (Q.ltT hlt) ?_
   refine Q.bindPO hh11 fun x19 hx_x19 => ?_
   refine Q.bindO rfl fun x20 => ?_
   refine Q.condO ?_ ?_
   ·all_goals exact hret _
   all_goals exact ih11 _ ⟨by omega, by omega⟩
  rw [List.drop_of_length_le (by omega), Z23_q11]
  refine Q.condF (Q.ltF hlt) ?_
  exact hend n11 s5_12
def Z23_q (a0 : (Sl Int)) (a1 : (Sl Int)) : Option Bool := bif (!decide (((a0.l.length : Nat) : Int) = ((a1.l.length : Nat) : Int))) then (some false) else (Option.bind (Z23_q11 a1 a0.l 0 ) fun o11 => match o11 with | Sum.inl _ => (on (()) fun _ => some true) | Sum.inr e11 => (some e11))
theorem Z23_eq (a0 : (Sl Int)) (a1 : (Sl Int)) : Z23 a0 a1 = Z23_q a0 a1 := by
 unfold Z23 Z23_q
 refine Eq.trans ?_ (Q.some_bind _)
 refine Q.condO ?_ ?_
 ·all_goals rfl
 refine Q.wrapOO fun Kb11 hKb11 => ?_
 refine Z23_l11_qe  Kb11 ?_ ?_ _ _ ⟨Nat.succ_pos _, by omega⟩
 ·intro n11 s5_12
  refine Eq.trans ?_ (hKb11 _).symm
  try dsimp only
  refine Q.wrapPO fun Kj8 hKj8 => ?_
  have hj8 : Z23_j8   = Kj8 () := by
   refine Eq.trans ?_ (hKj8 _).symm
   unfold Z23_j8
   all_goals rfl
  all_goals exact hj8
 intro e11
 refine Eq.trans ?_ (hKb11 _).symm
 try dsimp only
 all_goals rfl
def Z18_q (a0 : TRef) (a1 : TRef) : Option Bool := guardO (((a0.FName == a1.FName))) (Z23_q a0.FWraps a1.FWraps) false fun x3 => some (((a0.FName == a1.FName)) && x3)
theorem Z18_eq (a0 : TRef) (a1 : TRef) : Z18 a0 a1 = Z18_q a0 a1 := by
 unfold Z18 Z18_q
 refine Eq.trans ?_ (Q.some_bind _)
 refine Q.guardOO (Z23_eq _ _) fun x3 => ?_
 all_goals rfl
def Z54_q (a0 : Bs) : TRef := (TRef.mk a0 (Sl.nil : Sl Int))
theorem Z54_eq (a0 : Bs) : Z54 a0 = some (Z54_q a0) := by
 unfold Z54 Z54_q
 all_goals rfl
def Z55_q (a0 : TRef) : Option TRef := on (Z52_q a0) fun x4 => bif x4 then ((Z25_q a0.FWraps).bind fun x7 => some (TRef.mk a0.FName x7)) else ((appC 8 (⟨false, [(1 : Int)]⟩ : Sl Int) a0.FWraps).bind fun x9 => some (TRef.mk a0.FName x9))
theorem Z55_eq (a0 : TRef) : Z55 a0 = Z55_q a0 := by
 unfold Z55 Z55_q
 refine Eq.trans ?_ (Q.some_bind _)
 refine Q.bindPO (Z52_eq _) fun x4 hx_x4 => ?_
 refine Q.condO ?_ ?_
 ·refine Q.bindO (Z25_eq _) fun x7 => ?_
  all_goals rfl
 refine Q.bindO rfl fun x9 => ?_
 all_goals rfl
def Z53_q (a0 : TRef) : Option TRef := (appC 8 (⟨false, [(2 : Int)]⟩ : Sl Int) a0.FWraps).bind fun x3 => some (TRef.mk a0.FName x3)
theorem Z53_eq (a0 : TRef) : Z53 a0 = Z53_q a0 := by
 unfold Z53 Z53_q
 refine Eq.trans ?_ (Q.some_bind _)
 refine Q.bindO rfl fun x3 => ?_
 all_goals rfl
def Z39_q12  : List UInt8 → Unit ⊕ Bool
 | [] => Sum.inl ()
 | h12 :: r12 => on (h12) fun x20 => bif (!(((((decide ((97 : Int) ≤ ((x20.toNat : Nat) : Int))) && (decide (((x20.toNat : Nat) : Int) ≤ (122 : Int)))) || ((decide ((65 : Int) ≤ ((x20.toNat : Nat) : Int))) && (decide (((x20.toNat : Nat) : Int) ≤ (90 : Int))))) || ((decide ((48 : Int) ≤ ((x20.toNat : Nat) : Int))) && (decide (((x20.toNat : Nat) : Int) ≤ (57 : Int))))) || (decide (((x20.toNat : Nat) : Int) = (95 : Int))))) then (Sum.inr false) else (Z39_q12  (r12) )
theorem Z39_l12_qe {a0 : Bs}  (Kb12 : (Unit ⊕ Bool) → Option Bool) (hend : ∀ (n12 : Nat) (s24_13 : Nat), Z39_j8    = Kb12 (Sum.inl ())) (hret : ∀ e : Bool, some e = Kb12 (Sum.inr e)) : ∀ (n12 : Nat) (s24_13 : Nat), (0 < n12 ∧ a0.length < s24_13 + n12) → Z39_l12 a0 n12 s24_13 = Kb12 (Z39_q12  (a0.drop s24_13) ) := by
 intro n12
 induction n12 with
 | zero => intro s24_13 hn; exact absurd hn.1 (by omega)
 | succ n12 ih12 =>
  intro s24_13 hn
  rw [Z39_l12]
  by_cases hlt : s24_13 < a0.length
  ·obtain ⟨h12, hh12⟩ : ∃ x, a0[s24_13]? = some x := ⟨_, List.getElem?_eq_getElem hlt⟩
   rw [Q.drop_of hh12, Z39_q12]
   refine Q.condT (Q.ltT hlt) ?_
   refine Q.bindP hh12 fun x20 hx_x20 => ?_
   refine Q.condP ?_ ?_
   ·all_goals exact hret _
   all_goals exact ih12 _ ⟨by omega, by omega⟩
  rw [List.drop_of_length_le (by omega), Z39_q12]
  refine Q.condF (Q.ltF hlt) ?_
  exact hend n12 s24_13
def Z39_q (a0 : Bs) : Option Bool := guardO (!(((a0 == ([] : Bs))) || (decide ((64 : Int) < ((a0.length : Nat) : Int))))) (a0[0]?) (0 : UInt8) fun x4 => guardO ((!(((a0 == ([] : Bs))) || (decide ((64 : Int) < ((a0.length : Nat) : Int)))) && (decide ((48 : Int) ≤ ((x4.toNat : Nat) : Int))))) (a0[0]?) (0 : UInt8) fun x5 => bif ((((a0 == ([] : Bs))) || (decide ((64 : Int) < ((a0.length : Nat) : Int)))) || ((decide ((48 : Int) ≤ ((x4.toNat : Nat) : Int))) && (decide (((x5.toNat : Nat) : Int) ≤ (57 : Int))))) then (some false) else (on (Z39_q12  a0 ) fun o12 => match o12 with | Sum.inl _ => (on (()) fun _ => some true) | Sum.inr e12 => (some e12))
theorem Z39_eq (a0 : Bs) : Z39 a0 = Z39_q a0 := by
 unfold Z39 Z39_q
 refine Eq.trans ?_ (Q.some_bind _)
 refine Q.guardOO rfl fun x4 => ?_
 refine Q.guardOO rfl fun x5 => ?_
 refine Q.condO ?_ ?_
 ·all_goals rfl
 refine Q.wrapPO fun Kb12 hKb12 => ?_
 refine Z39_l12_qe  Kb12 ?_ ?_ _ _ ⟨Nat.succ_pos _, by omega⟩
 ·intro n12 s24_13
  refine Eq.trans ?_ (hKb12 _).symm
  try dsimp only
  refine Q.wrapPO fun Kj8 hKj8 => ?_
  have hj8 : Z39_j8   = Kj8 () := by
   refine Eq.trans ?_ (hKj8 _).symm
   unfold Z39_j8
   all_goals rfl
  all_goals exact hj8
 intro e12
 refine Eq.trans ?_ (hKb12 _).symm
 try dsimp only
 all_goals rfl
def Z59_q11 (a0 : TRef) : List Int → Nat → Option (Unit ⊕ Bool)
 | [], s18_12 => some (Sum.inl ())
 | h11 :: r11, s18_12 => on (h11) fun x18 => guardO ((!((!decide (x18 = (1 : Int))) && (!decide (x18 = (2 : Int)))) && ((decide (x18 = (1 : Int))) && (decide ((0 : Int) < ((s18_12 : Nat) : Int)))))) (subC ((s18_12 : Nat) : Int) (1 : Int)) (0 : Int) fun x20 => guardO ((!((!decide (x18 = (1 : Int))) && (!decide (x18 = (2 : Int)))) && ((decide (x18 = (1 : Int))) && (decide ((0 : Int) < ((s18_12 : Nat) : Int)))))) (idxC a0.FWraps.l x20) (0 : Int) fun x21 => bif (((!decide (x18 = (1 : Int))) && (!decide (x18 = (2 : Int)))) || (((decide (x18 = (1 : Int))) && (decide ((0 : Int) < ((s18_12 : Nat) : Int)))) && (decide (x21 = x18)))) then (some (Sum.inr false)) else (Z59_q11 a0 (r11) (s18_12 + 1) )
theorem Z59_l11_qe {a0 : TRef}  (Kb11 : (Unit ⊕ Bool) → Option Bool) (hend : ∀ (n11 : Nat) (s18_12 : Nat), Z59_j7    = Kb11 (Sum.inl ())) (hret : ∀ e : Bool, some e = Kb11 (Sum.inr e)) : ∀ (n11 : Nat) (s18_12 : Nat), (0 < n11 ∧ a0.FWraps.l.length < s18_12 + n11) → Z59_l11 a0 n11 s18_12 = Option.bind (Z59_q11 a0 (a0.FWraps.l.drop s18_12) s18_12 ) Kb11 := by
 intro n11
 induction n11 with
 | zero => intro s18_12 hn; exact absurd hn.1 (by omega)
 | succ n11 ih11 =>
  intro s18_12 hn
  rw [Z59_l11]
  by_cases hlt : s18_12 < a0.FWraps.l.length
  ·obtain ⟨h11, hh11⟩ : ∃ x, a0.FWraps.l[s18_12]? = some x := ⟨_, List.getElem?_eq_getElem hlt⟩
   rw [Q.drop_of hh11, Z59_q11]
   refine Q.condT (Q.ltT hlt) ?_
   refine Q.bindPO hh11 fun x18 hx_x18 => ?_
   refine Q.guardOO rfl fun x20 => ?_
   refine Q.guardOO rfl fun x21 => ?_
   refine Q.condO ?_ ?_
   ·all_goals exact hret _
   all_goals exact ih11 _ ⟨by omega, by omega⟩
  rw [List.drop_of_length_le (by omega), Z59_q11]
  refine Q.condF (Q.ltF hlt) ?_
  exact hend n11 s18_12
def Z59_q (a0 : TRef) : Option Bool := (Z39_q a0.FName).bind fun x4 => bif ((!x4) || (decide ((24 : Int) < ((a0.FWraps.l.length : Nat) : Int)))) then (some false) else (Option.bind (Z59_q11 a0 a0.FWraps.l 0 ) fun o11 => match o11 with | Sum.inl _ => (on (()) fun _ => some true) | Sum.inr e11 => (some e11))
theorem Z59_eq (a0 : TRef) : Z59 a0 = Z59_q a0 := by
 unfold Z59 Z59_q
 refine Eq.trans ?_ (Q.some_bind _)
 refine Q.bindO (Z39_eq _) fun x4 => ?_
 refine Q.condO ?_ ?_
 ·all_goals rfl
 refine Q.wrapOO fun Kb11 hKb11 => ?_
 refine Z59_l11_qe  Kb11 ?_ ?_ _ _ ⟨Nat.succ_pos _, by omega⟩
 ·intro n11 s18_12
  refine Eq.trans ?_ (hKb11 _).symm
  try dsimp only
  refine Q.wrapPO fun Kj7 hKj7 => ?_
  have hj7 : Z59_j7   = Kj7 () := by
   refine Eq.trans ?_ (hKj7 _).symm
   unfold Z59_j7
   all_goals rfl
  all_goals exact hj7
 intro e11
 refine Eq.trans ?_ (hKb11 _).symm
 try dsimp only
 all_goals rfl
def Z27_q12 (a1 : (Sl Int)) : List Int → Nat → Option (Unit ⊕ Bool)
 | [], s13_13 => some (Sum.inl ())
 | h12 :: r12, s13_13 => on (h12) fun x20 => (a1.l[s13_13]?).bind fun x21 => bif (!decide (x20 = x21)) then (some (Sum.inr false)) else (Z27_q12 a1 (r12) (s13_13 + 1) )
theorem Z27_l12_qe {a0 : (Sl Int)} {a1 : (Sl Int)}  (Kb12 : (Unit ⊕ Bool) → Option Bool) (hend : ∀ (n12 : Nat) (s13_13 : Nat), Z27_j8    = Kb12 (Sum.inl ())) (hret : ∀ e : Bool, some e = Kb12 (Sum.inr e)) : ∀ (n12 : Nat) (s13_13 : Nat), (0 < n12 ∧ a0.l.length < s13_13 + n12) → Z27_l12 a0 a1 n12 s13_13 = Option.bind (Z27_q12 a1 (a0.l.drop s13_13) s13_13 ) Kb12 := by
 intro n12
 induction n12 with
 | zero => intro s13_13 hn; exact absurd hn.1 (by omega)
 | succ n12 ih12 =>
  intro s13_13 hn
  rw [Z27_l12]
  by_cases hlt : s13_13 < a0.l.length
  ·obtain ⟨h12, hh12⟩ : ∃ x, a0.l[s13_13]? = some x := ⟨_, List.getElem?_eq_getElem hlt⟩
   rw [Q.drop_of hh12, Z27_q12]
   refine Q.condT (Q.ltT hlt) ?_
   refine Q.bindPO hh12 fun x20 hx_x20 => ?_
   refine Q.bindO rfl fun x21 => ?_
   refine Q.condO ?_ ?_
   ·all_goals exact hret _
   all_goals exact ih12 _ ⟨by omega, by omega⟩
  rw [List.drop_of_length_le (by omega), Z27_q12]
  refine Q.condF (Q.ltF hlt) ?_
  exact hend n12 s13_13
def Z27_q (a0 : (Sl Int)) (a1 : (Sl Int)) : Option Bool := bif (!decide (((a0.l.length : Nat) : Int) = ((a1.l.length : Nat) : Int))) then (some false) else (Option.bind (Z27_q12 a1 a0.l 0 ) fun o12 => match o12 with | Sum.inl _ => (on (()) fun _ => some true) | Sum.inr e12 => (some e12))
theorem Z27_eq (a0 : (Sl Int)) (a1 : (Sl Int)) : Z27 a0 a1 = Z27_q a0 a1 := by
 unfold Z27 Z27_q
 refine Eq.trans ?_ (Q.some_bind _)
 refine Q.condO ?_ ?_
 ·all_goals rfl
 refine Q.wrapOO fun Kb12 hKb12 => ?_
 refine Z27_l12_qe  Kb12 ?_ ?_ _ _ ⟨Nat.succ_pos _, by omega⟩
 ·intro n12 s13_13
  refine Eq.trans ?_ (hKb12 _).symm
  try dsimp only
  refine Q.wrapPO fun Kj8 hKj8 => ?_
  have hj8 : Z27_j8   = Kj8 () := by
   refine Eq.trans ?_ (hKj8 _).symm
   unfold Z27_j8
   all_goals rfl
  all_goals exact hj8
 intro e12
 refine Eq.trans ?_ (hKb12 _).symm
 try dsimp only
 all_goals rfl
def Z63_q (a0 : (Sl Int)) : Option (Sl Int) := (Z25_q a0).bind fun x3 => (some (delL Z64 x3)).bind fun x4 => some x4
theorem Z63_eq (a0 : (Sl Int)) : Z63 a0 = Z63_q a0 := by
 unfold Z63 Z63_q
 refine Eq.trans ?_ (Q.some_bind _)
 refine Q.bindO (Z25_eq _) fun x3 => ?_
 refine Q.bindO rfl fun x4 => ?_
 all_goals rfl
def Z61_q (a0 : TRef) (a1 : TRef) : Option Bool := guardO (((a0.FName == a1.FName))) (Z63_q a0.FWraps) (Sl.nil : Sl Int) fun x3 => guardO (((a0.FName == a1.FName))) (Z63_q a1.FWraps) (Sl.nil : Sl Int) fun x4 => guardO (((a0.FName == a1.FName))) (Z27_q x3 x4) false fun x5 => some (((a0.FName == a1.FName)) && x5)
theorem Z61_eq (a0 : TRef) (a1 : TRef) : Z61 a0 a1 = Z61_q a0 a1 := by
 unfold Z61 Z61_q
 refine Eq.trans ?_ (Q.some_bind _)
 refine Q.guardOO (Z63_eq _) fun x3 => ?_
 refine Q.guardOO (Z63_eq _) fun x4 => ?_
 refine Q.guardOO (Z27_eq _ _) fun x5 => ?_
 all_goals rfl
def Z62_q (a0 : TRef) (a1 : TRef) : Option (TRef × Bool) := Z62 a0 a1
theorem Z62_eq (a0 : TRef) (a1 : TRef) : Z62 a0 a1 = Z62_q a0 a1 := rfl
def Z60_q (a0 : TRef) (a1 : TRef) : Option Bool := guardO (((a0.FName == a1.FName))) (Z27_q a0.FWraps a1.FWraps) false fun x3 => some (((a0.FName == a1.FName)) && x3)
theorem Z60_eq (a0 : TRef) (a1 : TRef) : Z60 a0 a1 = Z60_q a0 a1 := by
 unfold Z60 Z60_q
 refine Eq.trans ?_ (Q.some_bind _)
 refine Q.guardOO (Z27_eq _ _) fun x3 => ?_
 all_goals rfl
def Z49_q (a0 : TRef) (a1 : TRef) : Option Bool := (Z62_q a0 a1).bind fun x3 => guardO (x3.2) (Z60_q x3.1 a1) false fun x5 => some (x3.2 && x5)
theorem Z49_eq (a0 : TRef) (a1 : TRef) : Z49 a0 a1 = Z49_q a0 a1 := by
 unfold Z49 Z49_q
 refine Eq.trans ?_ (Q.some_bind _)
 refine Q.bindO (Z62_eq _ _) fun x3 => ?_
 refine Q.guardOO (Z60_eq _ _) fun x5 => ?_
 all_goals rfl
def Z12_q (a0 : TRef) : Bool := on (bif (decide ((0 : Int) < ((a0.FWraps.l.length : Nat) : Int))) then ((a0.FWraps.l)[0]?.getD (0 : Int)) else (0 : Int)) fun x4 => ((decide ((0 : Int) < ((a0.FWraps.l.length : Nat) : Int))) && (decide (x4 = (1 : Int))))
theorem Z12_eq (a0 : TRef) : Z12 a0 = some (Z12_q a0) := by
 unfold Z12 Z12_q
 refine Q.guardT (fun hc => Q.getD_some (by simp at hc; omega)) fun x4 hx_x4 => ?_
 all_goals rfl
def Z21_q (a0 : TRef) : Option TRef := (partC a0.FWraps (some (1 : Int)) none).bind fun x3 => (appC 8 (⟨false, []⟩ : Sl Int) x3).bind fun x4 => some (TRef.mk a0.FName x4)
theorem Z21_eq (a0 : TRef) : Z21 a0 = Z21_q a0 := by
 unfold Z21 Z21_q
 refine Eq.trans ?_ (Q.some_bind _)
 refine Q.bindO rfl fun x3 => ?_
 refine Q.bindO rfl fun x4 => ?_
 all_goals rfl
def Z16_q (a0 : TRef) : Option TRef := on (Z12_q a0) fun x4 => bif x4 then ((Z21_q a0).bind fun x7 => some x7) else ((appC 8 (⟨false, []⟩ : Sl Int) a0.FWraps).bind fun x9 => some (TRef.mk a0.FName x9))
theorem Z16_eq (a0 : TRef) : Z16 a0 = Z16_q a0 := by
 unfold Z16 Z16_q
 refine Eq.trans ?_ (Q.some_bind _)
 refine Q.bindPO (Z12_eq _) fun x4 hx_x4 => ?_
 refine Q.condO ?_ ?_
 ·refine Q.bindO (Z21_eq _) fun x7 => ?_
  all_goals rfl
 refine Q.bindO rfl fun x9 => ?_
 all_goals rfl
def Z11_q (a0 : TRef) : Option Bool := (Z16_q a0).bind fun x3 => on (bif (decide ((0 : Int) < ((x3.FWraps.l.length : Nat) : Int))) then ((x3.FWraps.l)[0]?.getD (0 : Int)) else (0 : Int)) fun x6 => some ((decide ((0 : Int) < ((x3.FWraps.l.length : Nat) : Int))) && (decide (x6 = (2 : Int))))
theorem Z11_eq (a0 : TRef) : Z11 a0 = Z11_q a0 := by
 unfold Z11 Z11_q
 refine Eq.trans ?_ (Q.some_bind _)
 refine Q.bindO (Z16_eq _) fun x3 => ?_
 refine Q.guardTO (fun hc => Q.getD_some (by simp at hc; omega)) fun x6 hx_x6 => ?_
 all_goals rfl
def Z10_q (a0 : TRef) : Option (TRef × Bool) := (Z11_q a0).bind fun x4 => bif (!x4) then (some ((TRef.mk ([] : Bs) (Sl.nil : Sl Int)), false)) else ((Z16_q a0).bind fun x8 => (Z21_q x8).bind fun x9 => some (x9, true))
theorem Z10_eq (a0 : TRef) : Z10 a0 = Z10_q a0 := by
 unfold Z10 Z10_q
 refine Eq.trans ?_ (Q.some_bind _)
 refine Q.bindO (Z11_eq _) fun x4 => ?_
 refine Q.condO ?_ ?_
 ·all_goals rfl
 refine Q.bindO (Z16_eq _) fun x8 => ?_
 refine Q.bindO (Z21_eq _) fun x9 => ?_
 all_goals rfl
def Z14_q (a0 : Bs) : TRef := (TRef.mk a0 (Sl.nil : Sl Int))
theorem Z14_eq (a0 : Bs) : Z14 a0 = some (Z14_q a0) := by
 unfold Z14 Z14_q
 all_goals rfl
def Z24_q (a0 : Int) (a1 : TRef) : Option TRef := (appC 8 (⟨false, [a0]⟩ : Sl Int) a1.FWraps).bind fun x3 => some (TRef.mk a1.FName x3)
theorem Z24_eq (a0 : Int) (a1 : TRef) : Z24 a0 a1 = Z24_q a0 a1 := by
 unfold Z24 Z24_q
 refine Eq.trans ?_ (Q.some_bind _)
 refine Q.bindO rfl fun x3 => ?_
 all_goals rfl
def Z15_q (a0 : TRef) : Option TRef := on (Z12_q a0) fun x4 => bif x4 then ((appC 8 (⟨false, []⟩ : Sl Int) a0.FWraps).bind fun x7 => some (TRef.mk a0.FName x7)) else ((Z24_q (1 : Int) a0).bind fun x9 => some x9)
theorem Z15_eq (a0 : TRef) : Z15 a0 = Z15_q a0 := by
 unfold Z15 Z15_q
 refine Eq.trans ?_ (Q.some_bind _)
 refine Q.bindPO (Z12_eq _) fun x4 hx_x4 => ?_
 refine Q.condO ?_ ?_
 ·refine Q.bindO rfl fun x7 => ?_
  all_goals rfl
 refine Q.bindO (Z24_eq _ _) fun x9 => ?_
 all_goals rfl
def Z13_q (a0 : TRef) : Option TRef := (Z24_q (2 : Int) a0).bind fun x3 => some x3
theorem Z13_eq (a0 : TRef) : Z13 a0 = Z13_q a0 := by
 unfold Z13 Z13_q
 refine Eq.trans ?_ (Q.some_bind _)
 refine Q.bindO (Z24_eq _ _) fun x3 => ?_
 all_goals rfl
def Z8_q (a0 : Int) : Bool := ((((decide ((65 : Int) ≤ a0)) && (decide (a0 ≤ (90 : Int)))) || ((decide ((97 : Int) ≤ a0)) && (decide (a0 ≤ (122 : Int))))) || (decide (a0 = (95 : Int))))
theorem Z8_eq (a0 : Int) : Z8 a0 = some (Z8_q a0) := by
 unfold Z8 Z8_q
 all_goals rfl
def Z7_q (a0 : Int) : Bool := ((decide ((48 : Int) ≤ a0)) && (decide (a0 ≤ (57 : Int))))
theorem Z7_eq (a0 : Int) : Z7 a0 = some (Z7_q a0) := by
 unfold Z7 Z7_q
 all_goals rfl
def Z6_q10  : List UInt8 → Nat → Unit ⊕ Bool
 | [], s3_11 => Sum.inl ()
 | h10 :: r10, s3_11 => on (h10) fun x18 => on (Z8_q ((x18.toNat : Nat) : Int)) fun x19 => on (bif ((!x19) && !(decide (((s3_11 : Nat) : Int) = (0 : Int)))) then h10 else (0 : UInt8)) fun x20 => on (bif ((!x19) && !(decide (((s3_11 : Nat) : Int) = (0 : Int)))) then Z7_q ((x20.toNat : Nat) : Int) else false) fun x21 => bif ((!x19) && ((decide (((s3_11 : Nat) : Int) = (0 : Int))) || (!x21))) then (Sum.inr false) else (Z6_q10  (r10) (s3_11 + 1) )
theorem Z6_l10_qe {a0 : Bs}  (Kb10 : (Unit ⊕ Bool) → Option Bool) (hend : ∀ (n10 : Nat) (s3_11 : Nat), Z6_j7    = Kb10 (Sum.inl ())) (hret : ∀ e : Bool, some e = Kb10 (Sum.inr e)) : ∀ (n10 : Nat) (s3_11 : Nat), (0 < n10 ∧ a0.length < s3_11 + n10) → Z6_l10 a0 n10 s3_11 = Kb10 (Z6_q10  (a0.drop s3_11) s3_11 ) := by
 intro n10
 induction n10 with
 | zero => intro s3_11 hn; exact absurd hn.1 (by omega)
 | succ n10 ih10 =>
  intro s3_11 hn
  rw [Z6_l10]
  by_cases hlt : s3_11 < a0.length
  ·obtain ⟨h10, hh10⟩ : ∃ x, a0[s3_11]? = some x := ⟨_, List.getElem?_eq_getElem hlt⟩
   rw [Q.drop_of hh10, Z6_q10]
   refine Q.condT (Q.ltT hlt) ?_
   refine Q.bindP hh10 fun x18 hx_x18 => ?_
   refine Q.bindP (Z8_eq _) fun x19 hx_x19 => ?_
   refine Q.guardP hh10 fun x20 hx_x20 => ?_
   refine Q.guardP (Z7_eq _) fun x21 hx_x21 => ?_
   refine Q.condP ?_ ?_
   ·all_goals exact hret _
   all_goals exact ih10 _ ⟨by omega, by omega⟩
  rw [List.drop_of_length_le (by omega), Z6_q10]
  refine Q.condF (Q.ltF hlt) ?_
  exact hend n10 s3_11
def Z6_q (a0 : Bs) : Bool := bif ((decide (((a0.length : Nat) : Int) < (1 : Int))) || (decide ((64 : Int) < ((a0.length : Nat) : Int)))) then (false) else (on (Z6_q10  a0 0 ) fun o10 => match o10 with | Sum.inl _ => (on (()) fun _ => true) | Sum.inr e10 => (e10))
theorem Z6_eq (a0 : Bs) : Z6 a0 = some (Z6_q a0) := by
 unfold Z6 Z6_q
 refine Q.condP ?_ ?_
 ·all_goals rfl
 refine Q.wrapPP fun Kb10 hKb10 => ?_
 refine Z6_l10_qe  Kb10 ?_ ?_ _ _ ⟨Nat.succ_pos _, by omega⟩
 ·intro n10 s3_11
  refine Eq.trans ?_ (hKb10 _).symm
  try dsimp only
  refine Q.wrapPP fun Kj7 hKj7 => ?_
  have hj7 : Z6_j7   = Kj7 () := by
   refine Eq.trans ?_ (hKj7 _).symm
   unfold Z6_j7
   all_goals rfl
  all_goals exact hj7
 intro e10
 refine Eq.trans ?_ (hKb10 _).symm
 try dsimp only
 all_goals rfl
def Z17_q10 (a0 : TRef) : List Int → Nat → Option (Unit ⊕ Bool)
 | [], s3_11 => some (Sum.inl ())
 | h10 :: r10, s3_11 => on (h10) fun x19 => on (bif (!decide (x19 = (1 : Int))) then h10 else (0 : Int)) fun x20 => bif ((!decide (x19 = (1 : Int))) && (!decide (x20 = (2 : Int)))) then (some (Sum.inr false)) else (on (bif (decide ((0 : Int) < ((s3_11 : Nat) : Int))) then h10 else (0 : Int)) fun x24 => guardO (((decide ((0 : Int) < ((s3_11 : Nat) : Int))) && (decide (x24 = (1 : Int))))) (subC ((s3_11 : Nat) : Int) (1 : Int)) (0 : Int) fun x25 => guardO (((decide ((0 : Int) < ((s3_11 : Nat) : Int))) && (decide (x24 = (1 : Int))))) (idxC a0.FWraps.l x25) (0 : Int) fun x26 => bif (((decide ((0 : Int) < ((s3_11 : Nat) : Int))) && (decide (x24 = (1 : Int)))) && (decide (x26 = (1 : Int)))) then (some (Sum.inr false)) else (Z17_q10 a0 (r10) (s3_11 + 1) ))
theorem Z17_l10_qe {a0 : TRef}  (Kb10 : (Unit ⊕ Bool) → Option Bool) (hend : ∀ (n10 : Nat) (s3_11 : Nat), Z17_j7    = Kb10 (Sum.inl ())) (hret : ∀ e : Bool, some e = Kb10 (Sum.inr e)) : ∀ (n10 : Nat) (s3_11 : Nat), (0 < n10 ∧ a0.FWraps.l.length < s3_11 + n10) → Z17_l10 a0 n10 s3_11 = Option.bind (Z17_q10 a0 (a0.FWraps.l.drop s3_11) s3_11 ) Kb10 := by
 intro n10
 induction n10 with
 | zero => intro s3_11 hn; exact absurd hn.1 (by omega)
 | succ n10 ih10 =>
  intro s3_11 hn
  rw [Z17_l10]
  by_cases hlt : s3_11 < a0.FWraps.l.length
  ·obtain ⟨h10, hh10⟩ : ∃ x, a0.FWraps.l[s3_11]? = some x := ⟨_, List.getElem?_eq_getElem hlt⟩
   rw [Q.drop_of hh10, Z17_q10]
   refine Q.condT (Q.ltT hlt) ?_
   refine Q.bindPO hh10 fun x19 hx_x19 => ?_
   refine Q.guardPO hh10 fun x20 hx_x20 => ?_
   refine Q.condO ?_ ?_
   ·all_goals exact hret _
   refine Q.guardPO hh10 fun x24 hx_x24 => ?_
   refine Q.guardOO rfl fun x25 => ?_
   refine Q.guardOO rfl fun x26 => ?_
   refine Q.condO ?_ ?_
   ·all_goals exact hret _
   all_goals exact ih10 _ ⟨by omega, by omega⟩
  rw [List.drop_of_length_le (by omega), Z17_q10]
  refine Q.condF (Q.ltF hlt) ?_
  exact hend n10 s3_11
def Z17_q (a0 : TRef) : Option Bool := on (Z6_q a0.FName) fun x4 => bif ((!x4) || (decide ((24 : Int) < ((a0.FWraps.l.length : Nat) : Int)))) then (some false) else (Option.bind (Z17_q10 a0 a0.FWraps.l 0 ) fun o10 => match o10 with | Sum.inl _ => (on (()) fun _ => some true) | Sum.inr e10 => (some e10))
theorem Z17_eq (a0 : TRef) : Z17 a0 = Z17_q a0 := by
 unfold Z17 Z17_q
 refine Eq.trans ?_ (Q.some_bind _)
 refine Q.bindPO (Z6_eq _) fun x4 hx_x4 => ?_
 refine Q.condO ?_ ?_
 ·all_goals rfl
 refine Q.wrapOO fun Kb10 hKb10 => ?_
 refine Z17_l10_qe  Kb10 ?_ ?_ _ _ ⟨Nat.succ_pos _, by omega⟩
 ·intro n10 s3_11
  refine Eq.trans ?_ (hKb10 _).symm
  try dsimp only
  refine Q.wrapPO fun Kj7 hKj7 => ?_
  have hj7 : Z17_j7   = Kj7 () := by
   refine Eq.trans ?_ (hKj7 _).symm
   unfold Z17_j7
   all_goals rfl
  all_goals exact hj7
 intro e10
 refine Eq.trans ?_ (hKb10 _).symm
 try dsimp only
 all_goals rfl
def Z22_q7  : List Int → (Sl Int) → Option ((Sl Int))
 | [], s3_8 => some s3_8
 | h7 :: r7, s3_8 => on (h7) fun x17 => Option.bind (bif (!decide (x17 = (1 : Int))) then (on (h7) fun x19 => (appC 8 s3_8 (⟨false, [x19]⟩ : Sl Int)).bind fun x20 => some x20) else (some s3_8)) fun s3_15 => Z22_q7  (r7) s3_15
theorem Z22_l7_qe {a0 : TRef}  (Kb7 : ((Sl Int)) → Option (Sl Int)) (hend : ∀ (n7 : Nat) (s3_8 : (Sl Int)) (s4_9 : Nat), Z22_j3   s3_8 = Kb7 s3_8) : ∀ (n7 : Nat) (s3_8 : (Sl Int)) (s4_9 : Nat), (0 < n7 ∧ a0.FWraps.l.length < s4_9 + n7) → Z22_l7 a0 n7 s3_8 s4_9 = Option.bind (Z22_q7  (a0.FWraps.l.drop s4_9) s3_8) Kb7 := by
 intro n7
 induction n7 with
 | zero => intro s3_8 s4_9 hn; exact absurd hn.1 (by omega)
 | succ n7 ih7 =>
  intro s3_8 s4_9 hn
  rw [Z22_l7]
  by_cases hlt : s4_9 < a0.FWraps.l.length
  ·obtain ⟨h7, hh7⟩ : ∃ x, a0.FWraps.l[s4_9]? = some x := ⟨_, List.getElem?_eq_getElem hlt⟩
   rw [Q.drop_of hh7, Z22_q7]
   refine Q.condT (Q.ltT hlt) ?_
   refine Q.bindPO hh7 fun x17 hx_x17 => ?_
   refine Q.wrapOO fun Kj14 hKj14 => ?_
   have hj14 : ∀ (s3_15 : (Sl Int)), Z22_j14 s4_9 (Z22_l7 a0 n7) s3_15 = Kj14 s3_15 := by
    intro s3_15
    refine Eq.trans ?_ (hKj14 _).symm
    unfold Z22_j14
    all_goals exact ih7 _ _ ⟨by omega, by omega⟩
   refine Q.condO ?_ ?_
   ·refine Q.bindPO hh7 fun x19 hx_x19 => ?_
    refine Q.bindO rfl fun x20 => ?_
    all_goals exact hj14 _
   all_goals exact hj14 _
  rw [List.drop_of_length_le (by omega), Z22_q7]
  refine Q.condF (Q.ltF hlt) ?_
  exact hend n7 s3_8 s4_9
def Z22_q (a0 : TRef) : Option (Sl Int) := Option.bind (Z22_q7  a0.FWraps.l (Sl.nil : Sl Int)) fun s3_8 => on (s3_8) fun s3_4 => some s3_4
theorem Z22_eq (a0 : TRef) : Z22 a0 = Z22_q a0 := by
 unfold Z22 Z22_q
 refine Eq.trans ?_ (Q.some_bind _)
 refine Q.wrapOO fun Kb7 hKb7 => ?_
 refine Z22_l7_qe  Kb7 ?_ _ _ _ ⟨Nat.succ_pos _, by omega⟩
 intro n7 s3_8 s4_9
 refine Eq.trans ?_ (hKb7 _).symm
 refine Q.wrapPO fun Kj3 hKj3 => ?_
 have hj3 : ∀ (s3_4 : (Sl Int)), Z22_j3  s3_4 = Kj3 s3_4 := by
  intro s3_4
  refine Eq.trans ?_ (hKj3 _).symm
  unfold Z22_j3
  all_goals rfl
 all_goals exact hj3 _
def Z19_q (a0 : TRef) (a1 : TRef) : Option Bool := guardO (((a0.FName == a1.FName))) (Z22_q a0) (Sl.nil : Sl Int) fun x3 => guardO (((a0.FName == a1.FName))) (Z22_q a1) (Sl.nil : Sl Int) fun x4 => guardO (((a0.FName == a1.FName))) (Z23_q x3 x4) false fun x5 => some (((a0.FName == a1.FName)) && x5)
theorem Z19_eq (a0 : TRef) (a1 : TRef) : Z19 a0 a1 = Z19_q a0 a1 := by
 unfold Z19 Z19_q
 refine Eq.trans ?_ (Q.some_bind _)
 refine Q.guardOO (Z22_eq _) fun x3 => ?_
 refine Q.guardOO (Z22_eq _) fun x4 => ?_
 refine Q.guardOO (Z23_eq _ _) fun x5 => ?_
 all_goals rfl
def Z20_qn : Nat → TRef → TRef → Option (TRef × Bool)
 | 0, _, _ => none
 | n + 1, a0, a1 => (Z19_q a0 a1).bind fun x4 => bif (!x4) then (some ((TRef.mk ([] : Bs) (Sl.nil : Sl Int)), false)) else (on (Z14_q a0.FName) fun x8 => (Z10_q a0).bind fun x10 => (Z10_q a1).bind fun x12 => Option.bind (bif (x10.2 && x12.2) then (((Z20_qn n) x10.1 x12.1).bind fun x26 => (Z13_q x26.1).bind fun x27 => some x27) else (some x8)) fun y14_l1 => on (Z12_q a0) fun x19 => on (bif x19 then Z12_q a1 else false) fun x20 => Option.bind (bif (x19 && x20) then ((Z15_q y14_l1).bind fun x22 => some x22) else (some y14_l1)) fun y16_l1 => some (y16_l1, true))
theorem Z20_qall : ∀ n : Nat, Z20_n n = Z20_qn n := by
 intro n
 induction n with
 | zero => exact (by funext a0 a1; first | rfl | (rw [Z20_n, Z20_qn]))
 | succ n ih =>
  funext a0 a1
  refine Eq.trans ?_ (Q.some_bind _)
  rw [Z20_n, Z20_qn]
  try rw [ih]
  refine Q.bindO (Z19_eq _ _) fun x4 => ?_
  refine Q.condO ?_ ?_
  ·all_goals rfl
  refine Q.bindPO (Z14_eq _) fun x8 hx_x8 => ?_
  refine Q.bindO (Z10_eq _) fun x10 => ?_
  refine Q.bindO (Z10_eq _) fun x12 => ?_
  refine Q.wrapOO fun Kj13 hKj13 => ?_
  have hj13 : ∀ (y14_l1 : TRef), Z20_j13 a0 a1 y14_l1 = Kj13 y14_l1 := by
   intro y14_l1
   refine Eq.trans ?_ (hKj13 _).symm
   unfold Z20_j13
   refine Q.bindPO (Z12_eq _) fun x19 hx_x19 => ?_
   refine Q.guardPO (Z12_eq _) fun x20 hx_x20 => ?_
   refine Q.wrapOO fun Kj15 hKj15 => ?_
   have hj15 : ∀ (y16_l1 : TRef), Z20_j15  y16_l1 = Kj15 y16_l1 := by
    intro y16_l1
    refine Eq.trans ?_ (hKj15 _).symm
    unfold Z20_j15
    all_goals rfl
   refine Q.condO ?_ ?_
   ·refine Q.bindO (Z15_eq _) fun x22 => ?_
    all_goals exact hj15 _
   all_goals exact hj15 _
  refine Q.condO ?_ ?_
  ·refine Q.bindO rfl fun x26 => ?_
   refine Q.bindO (Z13_eq _) fun x27 => ?_
   all_goals exact hj13 _
  all_goals exact hj13 _
def Z20_q (a0 : TRef) (a1 : TRef) : Option (TRef × Bool) := Z20_qn F0 a0 a1
theorem Z20_eq (a0 : TRef) (a1 : TRef) : Z20 a0 a1 = Z20_q a0 a1 := by
 unfold Z20 Z20_q; rw [(Z20_qall F0)]
def Z9_qn : Nat → TRef → TRef → Option Bool
 | 0, _, _ => none
 | n + 1, a0, a1 => (Z19_q a0 a1).bind fun x4 => on (bif !(!x4) then Z12_q a1 else false) fun x5 => on (bif (!(!x4) && x5) then Z12_q a0 else false) fun x6 => bif ((!x4) || (x5 && (!x6))) then (some false) else ((Z10_q a0).bind fun x10 => (Z10_q a1).bind fun x12 => guardO (!((!x10.2) || (!x12.2))) ((Z9_qn n) x10.1 x12.1) false fun x14 => some (((!x10.2) || (!x12.2)) || x14))
theorem Z9_qall : ∀ n : Nat, Z9_n n = Z9_qn n := by
 intro n
 induction n with
 | zero => exact (by funext a0 a1; first | rfl | (rw [Z9_n, Z9_qn]))
 | succ n ih =>
  funext a0 a1
  refine Eq.trans ?_ (Q.some_bind _)
  rw [Z9_n, Z9_qn]
  try rw [ih]
  refine Q.bindO (Z19_eq _ _) fun x4 => ?_
  refine Q.guardPO (Z12_eq _) fun x5 hx_x5 => ?_
  refine Q.guardPO (Z12_eq _) fun x6 hx_x6 => ?_
  refine Q.condO ?_ ?_
  ·all_goals rfl
  refine Q.bindO (Z10_eq _) fun x10 => ?_
  refine Q.bindO (Z10_eq _) fun x12 => ?_
  refine Q.guardOO rfl fun x14 => ?_
  all_goals rfl
def Z9_q (a0 : TRef) (a1 : TRef) : Option Bool := Z9_qn F0 a0 a1
theorem Z9_eq (a0 : TRef) (a1 : TRef) : Z9 a0 a1 = Z9_q a0 a1 := by
 unfold Z9 Z9_q; rw [(Z9_qall F0)]
end Go.Proofs

namespace Go.Proofs
open Go Go.Ab
def nnW (w : List Int) : Bool := w.head? == some 1
def liW (w : List Int) : Bool := w.head? == some 2
def barS (s : Sl Int) : Sl Int := bif nnW s.l then ⟨s.nl, s.l.drop 1⟩ else s
def bar (t : TRef) : TRef := ⟨t.FName, barS t.FWraps⟩
def innerT (t : TRef) : TRef := ⟨t.FName, ⟨(barS t.FWraps).nl, (barS t.FWraps).l.drop 1⟩⟩
theorem clone_eq {s : Sl Int} (h : SOk s) : Z25_q s = some s := by
 unfold Z25_q
 obtain ⟨nl, l⟩ := s
 cases nl with
 | true => have := h.1 rfl; simp only at this; subst this; rfl
 | false =>
  simp only [cond_false]
  rw [appC_ok (by omega) (by have := h.2; simp at this ⊢; omega)]
  simp
theorem isNonNull_eq (t : TRef) : Z52_q t = nnW t.FWraps.l := by
 unfold Z52_q nnW on
 cases t.FWraps.l with
 | nil => rfl
 | cons a r => simp; by_cases h : a = 1 <;> simp [h]
theorem head_one {w : List Int} (h : nnW w = true) : 1 ≤ w.length := by cases w <;> simp [nnW] at h ⊢
theorem sok_drop {α : Type} {s : Sl α} (n : Nat) (h : SOk s) : SOk ⟨s.nl, s.l.drop n⟩ := ⟨fun e => by simp [h.1 e], by have := h.2; simp; omega⟩
theorem barS_ok {s : Sl Int} (h : SOk s) : SOk (barS s) := by
 unfold barS
 cases nnW s.l with
 | true => exact sok_drop 1 h
 | false => exact h
theorem innerT_ok {t : TRef} (h : SOk t.FWraps) : SOk (innerT t).FWraps := sok_drop 1 (barS_ok h)
theorem nullable_eq {t : TRef} (h : SOk t.FWraps) : Z56_q t = some (bar t) := by
 unfold Z56_q bar barS on
 simp only [isNonNull_eq]
 cases hn : nnW t.FWraps.l with
 | true =>
  simp only [cond_true]
  rw [partC_tail (head_one hn)]
  simp only [Option.bind_some]
  rw [clone_eq (sok_drop 1 h)]; rfl
 | false =>
  simp only [cond_false, Option.bind_some]
  rw [clone_eq h]; rfl
theorem isList_eq {t : TRef} (h : SOk t.FWraps) : Z51_q t = some (liW (barS t.FWraps).l) := by
 unfold Z51_q
 rw [nullable_eq h]
 simp only [Option.bind_some, on, bar, liW]
 cases (barS t.FWraps).l with
 | nil => rfl
 | cons a r => simp; by_cases h : a = 2 <;> simp [h]
theorem list_one {w : List Int} (h : liW w = true) : 1 ≤ w.length := by cases w <;> simp [liW] at h ⊢
theorem inner_eq {t : TRef} (h : SOk t.FWraps) : Z50_q t = some (bif liW (barS t.FWraps).l then (innerT t, true) else (⟨[], Sl.nil⟩, false)) := by
 unfold Z50_q
 rw [isList_eq h]
 simp only [Option.bind_some]
 cases hl : liW (barS t.FWraps).l with
 | false => rfl
 | true =>
  simp only [Bool.not_true, cond_false, cond_true]
  rw [nullable_eq h]
  simp only [Option.bind_some, bar]
  rw [partC_tail (list_one hl)]
  rfl
end Go.Proofs

namespace Go.Proofs
open Go Go.Ab
def fil (l : List Int) : List Int := l.filter fun x => !decide (x = 1)
theorem equalAux (a1 : Sl Int) : ∀ (l : List Int) (s : Nat), l.length + s = a1.l.length → Z27_q12 a1 l s = some (if l = a1.l.drop s then Sum.inl () else Sum.inr false)
 | [], s, h => by
  rw [Z27_q12, if_pos]
  rw [List.drop_eq_nil_of_le]; simp at h; omega
 | x :: r, s, h => by
  simp only [List.length_cons] at h
  have hs : s < a1.l.length := by omega
  have hg := List.getElem?_eq_getElem hs
  rw [Z27_q12]
  simp only [Ab.on]
  rw [hg, Option.bind_some, equalAux a1 r (s + 1) (by omega), Q.drop_of hg]
  generalize a1.l[s] = y
  generalize a1.l.drop (s + 1) = t
  by_cases e : x = y
  ·subst e; simp only [decide_true, Bool.not_true, cond_false, List.cons.injEq, true_and]
  ·simp [e]
theorem equal_eq (a b : Sl Int) : Z27_q a b = some (decide (a.l = b.l)) := by
 unfold Z27_q
 by_cases h : a.l.length = b.l.length
 ·rw [show decide ((a.l.length : Int) = (b.l.length : Int)) = true from decide_eq_true (by omega)]
  simp only [Bool.not_true, cond_false]
  rw [equalAux b a.l 0 (by omega), List.drop_zero]
  by_cases e : a.l = b.l <;> simp [e, Ab.on]
 ·rw [show decide ((a.l.length : Int) = (b.l.length : Int)) = false from decide_eq_false (by omega)]
  have : a.l ≠ b.l := fun e => h (by rw [e])
  simp [this]
theorem sameAux (a1 : Sl Int) : ∀ (l : List Int) (s : Nat), Z23_q11 a1 l s = Z27_q12 a1 l s
 | [], s => rfl
 | x :: r, s => by rw [Z23_q11, Z27_q12]; simp only [Ab.on, sameAux a1 r]
theorem Z23_eq' (a b : Sl Int) : Z23_q a b = some (decide (a.l = b.l)) := by
 rw [← equal_eq]; unfold Z23_q Z27_q; rw [sameAux]; all_goals rfl
theorem loose_eq {s : Sl Int} (h : SOk s) : ∃ nl, Z63_q s = some ⟨nl, fil s.l⟩ := by
 unfold Z63_q
 rw [clone_eq h, Option.bind_some, Option.bind_some]
 exact ⟨s.nl, rfl⟩
theorem shape_eq {a b : TRef} (ha : SOk a.FWraps) (hb : SOk b.FWraps) : Z61_q a b = some (a.FName == b.FName && decide (fil a.FWraps.l = fil b.FWraps.l)) := by
 obtain ⟨n1, h1⟩ := loose_eq ha
 obtain ⟨n2, h2⟩ := loose_eq hb
 unfold Z61_q
 rw [h1, h2]
 cases h : a.FName == b.FName
 ·simp [guardO]
 ·simp [guardO, equal_eq]
theorem listsAux : ∀ (l : List Int) (s : Sl Int), s.l.length + l.length ≤ 1073741824 → ∃ nl, Z22_q7 l s = some ⟨nl, s.l ++ fil l⟩
 | [], s, _ => ⟨s.nl, by rw [Z22_q7]; simp [fil]⟩
 | x :: r, s, h => by
  simp only [List.length_cons] at h
  rw [Z22_q7]
  simp only [Ab.on]
  by_cases e : x = 1
  ·subst e
   obtain ⟨nl, h1⟩ := listsAux r s (by omega)
   exact ⟨nl, by simp [h1, fil]⟩
  ·obtain ⟨nl, h1⟩ := listsAux r ⟨s.nl && false, s.l ++ [x]⟩ (by simp; omega)
   refine ⟨nl, ?_⟩
   rw [show decide (x = 1) = false by simpa using e]
   simp only [Bool.not_false, cond_true]
   rw [appC_ok (by decide) (by simp; omega), Option.bind_some, Option.bind_some]
   rw [show (List.isEmpty (⟨false, [x]⟩ : Sl Int).l) = false from rfl, h1]
   simp [fil, e]
theorem Z22_is {t : TRef} (h : t.FWraps.l.length ≤ 1048576) : ∃ nl, Z22_q t = some ⟨nl, fil t.FWraps.l⟩ := by
 obtain ⟨nl, h1⟩ := listsAux t.FWraps.l Sl.nil (by simp [Sl.nil]; omega)
 refine ⟨nl, ?_⟩
 unfold Z22_q
 rw [h1]
 simp [Ab.on, Sl.nil]
theorem r05_shape_eq {a b : TRef} (ha : a.FWraps.l.length ≤ 1048576) (hb : b.FWraps.l.length ≤ 1048576) : Z19_q a b = some (a.FName == b.FName && decide (fil a.FWraps.l = fil b.FWraps.l)) := by
 obtain ⟨n1, h1⟩ := Z22_is ha
 obtain ⟨n2, h2⟩ := Z22_is hb
 unfold Z19_q
 rw [h1, h2]
 cases h : a.FName == b.FName
 ·simp [guardO]
 ·simp [guardO, Z23_eq']
theorem r05_isNonNull_eq (t : TRef) : Z12_q t = nnW t.FWraps.l := isNonNull_eq t
theorem Z21_is {t : TRef} (h : t.FWraps.l.length ≤ 1048576) (h1 : 1 ≤ t.FWraps.l.length) : Z21_q t = some ⟨t.FName, ⟨false, t.FWraps.l.drop 1⟩⟩ := by
 unfold Z21_q
 rw [partC_tail h1, Option.bind_some, appC_ok (by decide) (by simp; omega)]
 simp
theorem r05_nullable_eq {t : TRef} (h : t.FWraps.l.length ≤ 1048576) : Z16_q t = some ⟨t.FName, ⟨false, (barS t.FWraps).l⟩⟩ := by
 unfold Z16_q barS
 simp only [Ab.on, r05_isNonNull_eq]
 cases hn : nnW t.FWraps.l
 ·simp only [cond_false]
  rw [appC_ok (by decide) (by simp; omega)]
  simp
 ·simp only [cond_true]
  rw [Z21_is h (head_one hn)]; rfl
theorem barS_len (s : Sl Int) : (barS s).l.length ≤ s.l.length := by unfold barS; cases nnW s.l <;> simp
theorem r05_isList_eq {t : TRef} (h : t.FWraps.l.length ≤ 1048576) : Z11_q t = some (liW (barS t.FWraps).l) := by
 unfold Z11_q
 rw [r05_nullable_eq h]
 simp only [Option.bind_some, Ab.on, liW]
 cases (barS t.FWraps).l with
 | nil => rfl
 | cons a r => simp; by_cases h : a = 2 <;> simp [h]
theorem r05_inner_is {t : TRef} (h : t.FWraps.l.length ≤ 1048576) : Z10_q t = some (bif liW (barS t.FWraps).l then (⟨t.FName, ⟨false, (barS t.FWraps).l.drop 1⟩⟩, true) else (⟨[], Sl.nil⟩, false)) := by
 unfold Z10_q
 rw [r05_isList_eq h]
 simp only [Option.bind_some]
 cases hl : liW (barS t.FWraps).l with
 | false => rfl
 | true =>
  simp only [Bool.not_true, cond_false, cond_true]
  rw [r05_nullable_eq h, Option.bind_some, Z21_is (by have := barS_len t.FWraps; simp only; omega) (list_one hl)]
  rfl
def barL (l : List Int) : List Int := bif nnW l then l.drop 1 else l
theorem barS_l (s : Sl Int) : (barS s).l = barL s.l := by unfold barS barL; cases nnW s.l <;> rfl
def wk : Nat → List Int → List Int → List Int
 | 0, _, _ => []
 | n + 1, a, b => (bif nnW a && nnW b then [1] else []) ++ (bif liW (barL a) && liW (barL b) then 2 :: wk n ((barL a).drop 1) ((barL b).drop 1) else [])
def rf : Nat → List Int → List Int → Bool
 | 0, _, _ => false
 | n + 1, a, b => !(nnW b && !nnW a) && (!(liW (barL a) && liW (barL b)) || rf n ((barL a).drop 1) ((barL b).drop 1))
theorem barL_len (l : List Int) : (barL l).length ≤ l.length := by unfold barL; cases nnW l <;> simp
theorem barL_lt {l : List Int} (h : liW (barL l) = true) : ((barL l).drop 1).length < l.length := by
 have h1 := list_one h; have h2 := barL_len l; simp; omega
theorem weakAux : ∀ (n : Nat) (a b z o : TRef), a.FWraps.l.length < n → SOk a.FWraps → SOk b.FWraps → o.FWraps.l.length + 2 * a.FWraps.l.length ≤ 1073741824 → (o.FWraps.nl = true → o.FWraps.l = []) →
  ∃ nl, Z62_l9 n a b z o = some (⟨o.FName, ⟨nl, o.FWraps.l ++ wk n a.FWraps.l b.FWraps.l⟩⟩, true) ∧ (nl = true → o.FWraps.l ++ wk n a.FWraps.l b.FWraps.l = [])
 | 0, _, _, _, _, h, _, _, _, _ => by omega
 | n + 1, a, b, z, o, h, ha, hb, hl, hz => by
  have key : ∀ o' : TRef, o'.FWraps.l.length + 2 * a.FWraps.l.length ≤ 1073741825 → (o'.FWraps.nl = true → o'.FWraps.l = []) → ∃ nl, Z62_j14 a b z (Z62_l9 n) o' = some (⟨o'.FName, ⟨nl, o'.FWraps.l ++ (bif liW (barL a.FWraps.l) && liW (barL b.FWraps.l) then 2 :: wk n ((barL a.FWraps.l).drop 1) ((barL b.FWraps.l).drop 1) else [])⟩⟩, true) ∧
    (nl = true → o'.FWraps.l ++ (bif liW (barL a.FWraps.l) && liW (barL b.FWraps.l) then 2 :: wk n ((barL a.FWraps.l).drop 1) ((barL b.FWraps.l).drop 1) else []) = []) := by
   intro o' ho' hz'
   unfold Z62_j14
   rw [Z50_eq, Z50_eq, inner_eq ha, inner_eq hb, Option.bind_some, Option.bind_some, barS_l, barS_l]
   cases h1 : liW (barL a.FWraps.l)
   ·exact ⟨o'.FWraps.nl, by simp, by simpa using hz'⟩
   ·cases h2 : liW (barL b.FWraps.l)
    ·exact ⟨o'.FWraps.nl, by simp, by simpa using hz'⟩
    ·simp only [cond_true, Bool.not_true, Bool.or_self, cond_false, Bool.and_self]
     have hlt := barL_lt h1
     have ea : (innerT a).FWraps.l = (barL a.FWraps.l).drop 1 := by unfold innerT; rw [barS_l]
     have eb : (innerT b).FWraps.l = (barL b.FWraps.l).drop 1 := by unfold innerT; rw [barS_l]
     rw [appC_ok (by decide) (by simp; omega), Option.bind_some]
     obtain ⟨nl, h3, h4⟩ := weakAux n (innerT a) (innerT b) z ⟨o'.FName, ⟨o'.FWraps.nl && false, o'.FWraps.l ++ [2]⟩⟩ (by rw [ea]; omega) (innerT_ok ha) (innerT_ok hb) (by rw [ea]; simp only [List.length_append, List.length_singleton]; omega) (by simp)
     rw [show (List.isEmpty (⟨false, [(2 : Int)]⟩ : Sl Int).l) = false from rfl, h3, ea, eb]
     rw [ea, eb] at h4
     exact ⟨nl, by simp, fun e => by have := h4 e; simp at this⟩
  rw [Z62_l9, Z52_eq, Z52_eq, Option.bind_some, isNonNull_eq, isNonNull_eq]
  cases h1 : nnW a.FWraps.l
  ·obtain ⟨nl, h2, h5⟩ := key o (by omega) hz
   exact ⟨nl, by simp only [guardO]; simp only [Bool.false_eq_true, if_false, Bool.and_false, cond_false]; rw [h2, wk, h1]; simp, fun e => by rw [wk, h1]; simpa using h5 e⟩
  ·cases h2 : nnW b.FWraps.l
   ·obtain ⟨nl, h3, h5⟩ := key o (by omega) hz
    exact ⟨nl, by simp only [guardO]; simp only [if_true, Option.bind_some, Bool.and_false, cond_false]; rw [h3, wk, h1, h2]; simp, fun e => by rw [wk, h1, h2]; simpa using h5 e⟩
   ·obtain ⟨nl, h3, h5⟩ := key ⟨o.FName, ⟨o.FWraps.nl && false, o.FWraps.l ++ [1]⟩⟩ (by simp only [List.length_append, List.length_singleton]; omega) (by simp)
    refine ⟨nl, ?_, fun e => by have := h5 e; simp at this⟩
    simp only [guardO, if_true, Option.bind_some, Bool.and_self, cond_true]
    rw [appC_ok (by decide) (by simp; omega), Option.bind_some]
    rw [show (List.isEmpty (⟨false, [(1 : Int)]⟩ : Sl Int).l) = false from rfl, h3, wk, h1, h2]
    simp
theorem weaken_eq' {a b : TRef} (ha : SOk a.FWraps) (hb : SOk b.FWraps) : ∃ nl, Z62_q a b = some (bif (a.FName == b.FName && decide (fil a.FWraps.l = fil b.FWraps.l)) then (⟨a.FName, ⟨nl, wk F0 a.FWraps.l b.FWraps.l⟩⟩, true) else (⟨[], Sl.nil⟩, false)) ∧ (nl = true → wk F0 a.FWraps.l b.FWraps.l = []) := by
 have hl := ha.2
 obtain ⟨nl, h1, h2⟩ := weakAux F0 a b TRef.zero ⟨a.FName, Sl.nil⟩ (by rw [F0_eq]; omega) ha hb (by simp [Sl.nil]; omega) (fun _ => rfl)
 refine ⟨nl, ?_, fun e => by simpa [Sl.nil] using h2 e⟩
 unfold Z62_q Z62
 rw [Z61_eq, shape_eq ha hb, Option.bind_some, h1]
 cases (a.FName == b.FName && decide (fil a.FWraps.l = fil b.FWraps.l)) <;> simp [Sl.nil]
theorem weaken_eq {a b : TRef} (ha : SOk a.FWraps) (hb : SOk b.FWraps) : ∃ nl, Z62_q a b = some (bif (a.FName == b.FName && decide (fil a.FWraps.l = fil b.FWraps.l)) then (⟨a.FName, ⟨nl, wk F0 a.FWraps.l b.FWraps.l⟩⟩, true) else (⟨[], Sl.nil⟩, false)) :=
 let ⟨nl, h, _⟩ := weaken_eq' ha hb; ⟨nl, h⟩
theorem fits_eq {a b : TRef} (ha : SOk a.FWraps) (hb : SOk b.FWraps) : Z49_q a b = some ((a.FName == b.FName && decide (fil a.FWraps.l = fil b.FWraps.l)) && decide (wk F0 a.FWraps.l b.FWraps.l = b.FWraps.l)) := by
 obtain ⟨nl, h⟩ := weaken_eq ha hb
 unfold Z49_q
 rw [h, Option.bind_some]
 cases hs : (a.FName == b.FName && decide (fil a.FWraps.l = fil b.FWraps.l))
 ·simp [guardO]
 ·have hn : (a.FName == b.FName) = true := by simp only [Bool.and_eq_true] at hs; exact hs.1
  simp only [guardO, cond_true, if_true]
  unfold Z60_q
  rw [hn, equal_eq]
  simp [guardO]
def rt : List Int → Bool
 | [] => true
 | x :: r => (decide (x = 1) || decide (x = 2)) && !(decide (x = 1) && nnW r) && rt r
theorem rt_tail {x : Int} {r : List Int} (h : rt (x :: r) = true) : rt r = true := by rw [rt] at h; simp only [Bool.and_eq_true] at h; exact h.2
theorem rt_bar {l : List Int} (h : rt l = true) : rt (barL l) = true ∧ nnW (barL l) = false := by
 unfold barL
 cases l with
 | nil => exact ⟨rfl, rfl⟩
 | cons x r =>
  cases hn : nnW (x :: r)
  ·exact ⟨h, hn⟩
  ·simp only [cond_true, List.drop_succ_cons, List.drop_zero]
   refine ⟨rt_tail h, ?_⟩
   have hx : x = 1 := by simpa [nnW] using hn
   rw [rt] at h
   simp only [hx, Bool.and_eq_true] at h
   simpa using h.1.2
theorem rt_list {l : List Int} (h : rt l = true) (hn : nnW l = false) : liW l = false ∧ l = [] ∨ ∃ r, l = 2 :: r ∧ rt r = true ∧ liW l = true := by
 cases l with
 | nil => exact .inl ⟨rfl, rfl⟩
 | cons x r =>
  refine .inr ⟨r, ?_⟩
  have h2 := rt_tail h
  have hx : x ≠ 1 := by simpa [nnW] using hn
  rw [rt] at h
  simp only [Bool.and_eq_true, Bool.or_eq_true, decide_eq_true_eq] at h
  have : x = 2 := h.1.1.resolve_left hx
  subst this
  exact ⟨rfl, h2, rfl⟩
theorem fil_bar (l : List Int) : fil (barL l) = fil l := by
 unfold barL
 cases l with
 | nil => rfl
 | cons x r =>
  cases hn : nnW (x :: r)
  ·rfl
  ·have hx : x = 1 := by simpa [nnW] using hn
   subst hx
   simp [fil]
theorem pre_bar (l : List Int) : (bif nnW l then [1] else []) ++ barL l = l := by
 unfold barL
 cases l with
 | nil => rfl
 | cons x r =>
  cases hn : nnW (x :: r)
  ·rfl
  ·have hx : x = 1 := by simpa [nnW] using hn
   subst hx; rfl
theorem wk_rf : ∀ (n : Nat) (a b : List Int), rt a = true → rt b = true → fil a = fil b → a.length < n → decide (wk n a b = b) = rf n a b
 | 0, _, _, _, _, _, h => by omega
 | n + 1, a, b, ha, hb, hf, hn => by
  obtain ⟨ha1, ha2⟩ := rt_bar ha
  obtain ⟨hb1, hb2⟩ := rt_bar hb
  have hf' : fil (barL a) = fil (barL b) := by rw [fil_bar, fil_bar, hf]
  have hpb := pre_bar b
  have hla := barL_len a
  rw [wk, rf]
  rcases rt_list ha1 ha2 with ⟨la, ea⟩ | ⟨ra, ea, hra, la⟩ <;> rcases rt_list hb1 hb2 with ⟨lb, eb⟩ | ⟨rb, eb, hrb, lb⟩
  ·rw [eb] at hpb
   rw [la, lb]
   simp only [Bool.and_self, cond_false, List.append_nil, Bool.not_false, Bool.true_or, Bool.and_true]
   rw [List.append_nil] at hpb
   rw [← hpb]
   cases nnW a <;> cases hh : nnW b <;> simp [hh, nnW]
  ·rw [ea, eb] at hf'; simp [fil] at hf'
  ·rw [ea, eb] at hf'; simp [fil] at hf'
  ·rw [eb] at hpb
   rw [la, lb, ea, eb]
   simp only [Bool.and_self, cond_true, List.drop_succ_cons, List.drop_zero, Bool.not_true, Bool.false_or]
   have h2 : fil ra = fil rb := by rw [ea, eb] at hf'; simpa [fil] using hf'
   rw [ea] at hla
   have ih := wk_rf n ra rb hra hrb h2 (by simp at hla; omega)
   rw [← ih]
   conv => lhs; rw [← hpb]
   cases nnW a <;> cases hh : nnW b <;> simp [hh, nnW]
theorem r05_fitsAux : ∀ (n : Nat) (a b : TRef), rt a.FWraps.l = true → rt b.FWraps.l = true → a.FWraps.l.length ≤ 1048576 → b.FWraps.l.length ≤ 1048576 → a.FWraps.l.length < n →
  Z9_qn n a b = some ((a.FName == b.FName && decide (fil a.FWraps.l = fil b.FWraps.l)) && rf n a.FWraps.l b.FWraps.l)
 | 0, _, _, _, _, _, _, h => by omega
 | n + 1, a, b, ra, rb, ha, hb, hn => by
  rw [Z9_qn, r05_shape_eq ha hb, Option.bind_some, r05_isNonNull_eq, r05_isNonNull_eq]
  cases hs : (a.FName == b.FName && decide (fil a.FWraps.l = fil b.FWraps.l))
  ·simp [Ab.on]
  ·simp only [Bool.and_eq_true, decide_eq_true_eq] at hs
   rw [r05_inner_is ha, r05_inner_is hb, barS_l, barS_l, rf]
   obtain ⟨ha1, ha2⟩ := rt_bar ra
   obtain ⟨hb1, hb2⟩ := rt_bar rb
   have hf' : fil (barL a.FWraps.l) = fil (barL b.FWraps.l) := by rw [fil_bar, fil_bar, hs.2]
   have hla := barL_len a.FWraps.l
   have hlb := barL_len b.FWraps.l
   rcases rt_list ha1 ha2 with ⟨la, ea⟩ | ⟨xa, ea, hra, la⟩ <;> rcases rt_list hb1 hb2 with ⟨lb, eb⟩ | ⟨xb, eb, hrb, lb⟩
   ·rw [la, lb]
    cases nnW a.FWraps.l <;> cases nnW b.FWraps.l <;> simp [Ab.on, guardO]
   ·rw [ea, eb] at hf'; simp [fil] at hf'
   ·rw [ea, eb] at hf'; simp [fil] at hf'
   ·rw [la, lb, ea, eb]
    have h2 : fil xa = fil xb := by rw [ea, eb] at hf'; simpa [fil] using hf'
    rw [ea] at hla; rw [eb] at hlb
    simp only [List.length_cons] at hla hlb
    have ih := r05_fitsAux n ⟨a.FName, ⟨false, xa⟩⟩ ⟨b.FName, ⟨false, xb⟩⟩ hra hrb (by simp only; omega) (by simp only; omega) (by simp only; omega)
    simp only [hs.1, h2, decide_true, Bool.and_self, Bool.true_and] at ih
    cases nnW a.FWraps.l <;> cases nnW b.FWraps.l <;> simp [Ab.on, guardO, ih]
theorem rightAux (a : TRef) (ha : a.FWraps.l.length ≤ 1048576) : ∀ (l : List Int) (i : Nat), i + l.length = a.FWraps.l.length → a.FWraps.l.drop i = l →
  Z17_q10 a l i = some (if rt l = true ∧ ¬ (0 < i ∧ nnW l = true ∧ a.FWraps.l[i - 1]? = some 1) then Sum.inl () else Sum.inr false)
 | [], i, _, _ => by rw [Z17_q10, if_pos]; exact ⟨rfl, fun h => by simp [nnW] at h⟩
 | x :: r, i, hi, hd => by
  simp only [List.length_cons] at hi
  have hdr : a.FWraps.l.drop (i + 1) = r := by rw [← List.drop_drop, hd]; rfl
  have hxi : a.FWraps.l[i]? = some x := by
   have h0 : (a.FWraps.l.drop i)[0]? = some x := by rw [hd]; rfl
   simpa using h0
  have ih := rightAux a ha r (i + 1) (by omega) hdr
  rw [Z17_q10]
  simp only [Ab.on, ih, rt, Nat.add_sub_cancel, hxi, Nat.zero_lt_succ, true_and]
  by_cases h0 : 0 < i
  ·rw [show decide ((0 : Int) < (i : Int)) = true from decide_eq_true (by omega)]
   have hlt : i - 1 < a.FWraps.l.length := by omega
   have hidx : idxC a.FWraps.l ((i : Int) - 1) = some a.FWraps.l[i - 1] := by
    unfold idxC
    rw [if_pos (by omega), show ((i : Int) - 1).toNat = i - 1 by omega, List.getElem?_eq_getElem hlt]
   have hsub : subC (i : Int) 1 = some ((i : Int) - 1) := subC_ok (by omega)
   rw [List.getElem?_eq_getElem hlt]
   by_cases h1 : x = 1
   ·subst h1
    by_cases hp : a.FWraps.l[i - 1] = 1
    ·simp [guardO, hsub, hidx, hp, h0, nnW]
    ·simp [guardO, hsub, hidx, hp, h0, nnW, and_comm]
   ·by_cases h2 : x = 2
    ·subst h2; simp [guardO, nnW]
    ·simp [h1, h2, guardO]
  ·rw [show decide ((0 : Int) < (i : Int)) = false from decide_eq_false (by omega)]
   by_cases h1 : x = 1
   ·subst h1; simp [guardO, h0, nnW, and_comm]
   ·by_cases h2 : x = 2
    ·subst h2; simp [guardO, nnW]
    ·simp [h1, h2, guardO]
theorem fits_same {a b : TRef} (ha : SOk a.FWraps) (hb : SOk b.FWraps) (ra : rt a.FWraps.l = true) (rb : rt b.FWraps.l = true) : ∃ c, Z49_q a b = some c ∧ Z9_q a b = some c := by
 have hl := ha.2
 refine ⟨_, fits_eq ha hb, ?_⟩
 unfold Z9_q
 rw [r05_fitsAux F0 a b ra rb ha.2 hb.2 (by rw [F0_eq]; omega)]
 cases hs : (a.FName == b.FName && decide (fil a.FWraps.l = fil b.FWraps.l))
 ·rfl
 ·simp only [Bool.and_eq_true, decide_eq_true_eq] at hs
  rw [wk_rf F0 _ _ ra rb hs.2 (by rw [F0_eq]; omega)]
end Go.Proofs

namespace Go.Proofs
open Go Go.Ab
theorem cls_eq (x : Int) : ((((decide ((97 : Int) ≤ x) && decide (x ≤ (122 : Int))) || (decide ((65 : Int) ≤ x) && decide (x ≤ (90 : Int)))) || (decide ((48 : Int) ≤ x) && decide (x ≤ (57 : Int)))) || decide (x = (95 : Int))) = (Z8_q x || Z7_q x) := by
 unfold Z8_q Z7_q
 rw [Bool.eq_iff_iff]
 simp only [Bool.or_eq_true, Bool.and_eq_true, decide_eq_true_eq]
 constructor
 ·rintro (((h | h) | h) | h)
  ·exact .inl (.inl (.inr h))
  ·exact .inl (.inl (.inl h))
  ·exact .inr h
  ·exact .inl (.inr h)
 ·rintro (((h | h) | h) | h)
  ·exact .inl (.inl (.inr h))
  ·exact .inl (.inl (.inl h))
  ·exact .inr h
  ·exact .inl (.inr h)
theorem nameAux : ∀ (l : List UInt8) (i : Nat), 0 < i → Z6_q10 l i = Z39_q12 l
 | [], _, _ => rfl
 | h :: r, i, hi => by
  have h0 : decide (((i : Nat) : Int) = 0) = false := decide_eq_false (by omega)
  rw [Z6_q10, Z39_q12, nameAux r (i + 1) (by omega)]
  simp only [Ab.on, h0, cls_eq]
  cases Z8_q ((h.toNat : Nat) : Int)
  ·simp only [Bool.not_false, Bool.and_self, cond_true, Bool.true_and, Bool.false_or]
  ·rfl
theorem letter_digit (x : Int) (h : Z8_q x = true) : ((decide ((48 : Int) ≤ x)) && (decide (x ≤ (57 : Int)))) = false := by
 unfold Z8_q at h
 rw [Bool.and_eq_false_iff]
 simp only [Bool.or_eq_true, Bool.and_eq_true, decide_eq_true_eq] at h
 by_cases h2 : x ≤ 57
 ·left; apply decide_eq_false; omega
 ·right; exact decide_eq_false h2
theorem name_eq (s : Bs) : Z39_q s = some (Z6_q s) := by
 unfold Z39_q Z6_q
 cases s with
 | nil => rfl
 | cons h r =>
  have e0 : ((h :: r : Bs) == []) = false := rfl
  have e1 : decide ((((h :: r : Bs).length : Nat) : Int) < 1) = false := decide_eq_false (by simp only [List.length_cons]; omega)
  rw [e0, e1]
  simp only [Bool.false_or]
  cases decide ((64 : Int) < (((h :: r : Bs).length : Nat) : Int))
  ·simp only [Bool.not_false, guardO, if_true, cond_false, Bool.true_and, Bool.false_or]
   rw [show ((h :: r : Bs)[0]?) = some h from rfl]
   simp only [Option.bind_some]
   rw [Z6_q10, Z39_q12, nameAux r 1 (by omega)]
   simp only [Ab.on, cls_eq]
   generalize ((h.toNat : Nat) : Int) = x
   cases hl : Z8_q x
   ·have hd : Z7_q x = (decide ((48 : Int) ≤ x) && decide (x ≤ (57 : Int))) := rfl
    rw [hd]
    cases h4 : decide ((48 : Int) ≤ x) <;> cases h5 : decide (x ≤ (57 : Int)) <;> simp [h5]
   ·have h9 := letter_digit x hl
    cases h4 : decide ((48 : Int) ≤ x) <;> cases h5 : decide (x ≤ (57 : Int)) <;> rw [h4, h5] at h9 <;> simp [h5] at h9 ⊢ <;> (cases Z39_q12 r <;> rfl)
  ·rfl
end Go.Proofs

namespace Go.Proofs
open Go Go.Ab
theorem pre_nn (p : Bool) (z : List Int) (hz : nnW z = false) : nnW ((bif p then [1] else []) ++ z) = p := by
 cases p
 ·exact hz
 ·rfl
theorem pre_barL (p : Bool) (z : List Int) (hz : nnW z = false) : barL ((bif p then [1] else []) ++ z) = z := by
 unfold barL; rw [pre_nn p z hz]; cases p <;> simp
theorem pre_rt (p : Bool) (z : List Int) (hz : nnW z = false) (h : rt z = true) : rt ((bif p then [1] else []) ++ z) = true := by
 cases p
 ·exact h
 ·simp [rt, hz, h]
theorem pre_fil (p : Bool) (z : List Int) : fil ((bif p then [1] else []) ++ z) = fil z := by cases p <;> simp [fil]
theorem fil_cons2 (r : List Int) : fil (2 :: r) = 2 :: fil r := rfl
theorem rt_case {a : List Int} (h : rt a = true) : (liW (barL a) = false ∧ barL a = [] ∧ fil a = []) ∨ ∃ r, liW (barL a) = true ∧ barL a = 2 :: r ∧ rt r = true ∧ fil a = 2 :: fil r ∧ r.length < a.length := by
 obtain ⟨h1, h2⟩ := rt_bar h
 rcases rt_list h1 h2 with ⟨g1, g2⟩ | ⟨r, g1, g2, g3⟩
 ·exact .inl ⟨g1, g2, by rw [← fil_bar, g2]; rfl⟩
 ·refine .inr ⟨r, g3, g1, g2, by rw [← fil_bar, g1]; rfl, ?_⟩
  have := barL_len a; rw [g1] at this; simp at this; omega
theorem wk_facts : ∀ (n : Nat) (a b : List Int), rt a = true → rt b = true → fil a = fil b → a.length < n →
  rt (wk n a b) = true ∧ fil (wk n a b) = fil a ∧ rf n a (wk n a b) = true ∧ rf n b (wk n a b) = true ∧ (wk n a b).length ≤ a.length ∧
   ∀ c, rt c = true → fil b = fil c → rf n a c = true → rf n b c = true → rf n (wk n a b) c = true
 | 0, _, _, _, _, _, h => by omega
 | n + 1, a, b, ha, hb, hf, hn => by
  have hpa := congrArg List.length (pre_bar a)
  rw [List.length_append] at hpa
  rcases rt_case ha with ⟨a1, a2, a3⟩ | ⟨ra, a1, a2, a3, a4, a5⟩ <;> rcases rt_case hb with ⟨b1, b2, b3⟩ | ⟨rb, b1, b2, b3, b4, b5⟩
  ·have e : wk (n + 1) a b = (bif nnW a && nnW b then [1] else []) ++ [] := by rw [wk, a1, b1]; rfl
   rw [e]
   have z0 : nnW ([] : List Int) = false := rfl
   have l0 : liW ([] : List Int) = false := rfl
   refine ⟨pre_rt _ _ z0 rfl, by rw [pre_fil, a3]; rfl, ?_, ?_, ?_, fun c hc hfc f1 f2 => ?_⟩
   ·rw [rf, pre_nn _ _ z0, pre_barL _ _ z0, a1]; cases nnW a <;> cases nnW b <;> rfl
   ·rw [rf, pre_nn _ _ z0, pre_barL _ _ z0, b1]; cases nnW a <;> cases nnW b <;> rfl
   ·rw [a2] at hpa
    cases hna : nnW a <;> cases nnW b <;> simp_all
   ·rw [rf] at f1 f2 ⊢
    rw [pre_nn _ _ z0, pre_barL _ _ z0, l0]
    cases hna : nnW a <;> cases hnb : nnW b <;> cases hnc : nnW c <;> simp_all
  ·rw [a3, b4] at hf; simp at hf
  ·rw [a4, b3] at hf; simp at hf
  ·have hf' : fil ra = fil rb := by rw [a4, b4] at hf; simpa using hf
   obtain ⟨i1, i2, i3, i4, i5, i6⟩ := wk_facts n ra rb a3 b3 hf' (by omega)
   have e : wk (n + 1) a b = (bif nnW a && nnW b then [1] else []) ++ (2 :: wk n ra rb) := by rw [wk, a1, b1, a2, b2]; rfl
   rw [e]
   generalize wk n ra rb = y at *
   have z0 : nnW (2 :: y : List Int) = false := rfl
   have l0 : liW (2 :: y : List Int) = true := rfl
   have r0 : rt (2 :: y : List Int) = true := by simp [rt, i1]
   refine ⟨pre_rt _ _ z0 r0, by rw [pre_fil, a4, fil_cons2, i2], ?_, ?_, ?_, fun c hc hfc f1 f2 => ?_⟩
   ·rw [rf, pre_nn _ _ z0, pre_barL _ _ z0, a1, l0, a2]; simp [i3]; cases nnW a <;> cases nnW b <;> simp
   ·rw [rf, pre_nn _ _ z0, pre_barL _ _ z0, b1, l0, b2]; simp [i4]; cases nnW a <;> cases nnW b <;> simp
   ·rw [a2] at hpa
    cases hna : nnW a <;> cases nnW b <;> simp_all <;> omega
   ·rcases rt_case hc with ⟨c1, c2, c3⟩ | ⟨rc, c1, c2, c3, c4, c5⟩
    ·rw [b4, c3] at hfc; simp at hfc
    ·rw [rf] at f1 f2 ⊢
     rw [pre_nn _ _ z0, pre_barL _ _ z0, l0, c1, c2]
     rw [a1, c1, a2, c2] at f1; rw [b1, c1, b2, c2] at f2
     simp only [List.drop_succ_cons, List.drop_zero, Bool.and_self, Bool.not_true, Bool.false_or, Bool.and_eq_true] at f1 f2 ⊢
     refine ⟨?_, i6 rc c3 (by rw [b4, c4] at hfc; simpa using hfc) f1.2 f2.2⟩
     have g1 := f1.1; have g2 := f2.1
     cases hna : nnW a <;> cases hnb : nnW b <;> cases hnc : nnW c <;> simp_all
theorem rightPAux (a : TRef) (ha : a.FWraps.l.length ≤ 1048576) : ∀ (l : List Int) (i : Nat), i + l.length = a.FWraps.l.length → a.FWraps.l.drop i = l →
  Z59_q11 a l i = some (if rt l = true ∧ ¬ (0 < i ∧ nnW l = true ∧ a.FWraps.l[i - 1]? = some 1) then Sum.inl () else Sum.inr false)
 | [], i, _, _ => by rw [Z59_q11, if_pos]; exact ⟨rfl, fun h => by simp [nnW] at h⟩
 | x :: r, i, hi, hd => by
  simp only [List.length_cons] at hi
  have hdr : a.FWraps.l.drop (i + 1) = r := by rw [← List.drop_drop, hd]; rfl
  have hxi : a.FWraps.l[i]? = some x := by
   have h0 : (a.FWraps.l.drop i)[0]? = some x := by rw [hd]; rfl
   simpa using h0
  have ih := rightPAux a ha r (i + 1) (by omega) hdr
  rw [Z59_q11]
  simp only [Ab.on, ih, rt, Nat.add_sub_cancel, hxi, Nat.zero_lt_succ, true_and]
  by_cases h0 : 0 < i
  ·rw [show decide ((0 : Int) < (i : Int)) = true from decide_eq_true (by omega)]
   have hlt : i - 1 < a.FWraps.l.length := by omega
   have hidx : idxC a.FWraps.l ((i : Int) - 1) = some a.FWraps.l[i - 1] := by
    unfold idxC
    rw [if_pos (by omega), show ((i : Int) - 1).toNat = i - 1 by omega, List.getElem?_eq_getElem hlt]
   have hsub : subC (i : Int) 1 = some ((i : Int) - 1) := subC_ok (by omega)
   rw [List.getElem?_eq_getElem hlt]
   by_cases h1 : x = 1
   ·subst h1
    by_cases hp : a.FWraps.l[i - 1] = 1
    ·simp [guardO, hsub, hidx, hp, h0, nnW]
    ·simp [guardO, hsub, hidx, hp, h0, nnW, and_comm]
   ·by_cases h2 : x = 2
    ·subst h2; simp [guardO, nnW]
    ·simp [h1, h2, guardO]
  ·rw [show decide ((0 : Int) < (i : Int)) = false from decide_eq_false (by omega)]
   by_cases h1 : x = 1
   ·subst h1; simp [guardO, h0, nnW, and_comm]
   ·by_cases h2 : x = 2
    ·subst h2; simp [guardO, nnW]
    ·simp [h1, h2, guardO]
def rightB (a : TRef) : Bool := Z6_q a.FName && decide (a.FWraps.l.length ≤ 24) && rt a.FWraps.l
theorem rightP_eq {a : TRef} (ha : a.FWraps.l.length ≤ 1048576) : Z59 a = some (rightB a) := by
 rw [Z59_eq]
 unfold Z59_q rightB
 rw [name_eq, Option.bind_some, rightPAux a ha a.FWraps.l 0 (by omega) rfl]
 cases Z6_q a.FName
 ·rfl
 ·by_cases h : a.FWraps.l.length ≤ 24
  ·rw [show decide ((24 : Int) < ((a.FWraps.l.length : Nat) : Int)) = false from decide_eq_false (by omega), show decide (a.FWraps.l.length ≤ 24) = true from decide_eq_true h]
   cases rt a.FWraps.l <;> simp [Ab.on]
  ·rw [show decide ((24 : Int) < ((a.FWraps.l.length : Nat) : Int)) = true from decide_eq_true (by omega), show decide (a.FWraps.l.length ≤ 24) = false from decide_eq_false h]
   simp
theorem rightR_eq {a : TRef} (ha : a.FWraps.l.length ≤ 1048576) : Z17_q a = some (rightB a) := by
 unfold Z17_q rightB
 rw [rightAux a ha a.FWraps.l 0 (by omega) rfl]
 simp only [Ab.on]
 cases Z6_q a.FName
 ·rfl
 ·by_cases h : a.FWraps.l.length ≤ 24
  ·rw [show decide ((24 : Int) < ((a.FWraps.l.length : Nat) : Int)) = false from decide_eq_false (by omega), show decide (a.FWraps.l.length ≤ 24) = true from decide_eq_true h]
   cases rt a.FWraps.l <;> simp
  ·rw [show decide ((24 : Int) < ((a.FWraps.l.length : Nat) : Int)) = true from decide_eq_true (by omega), show decide (a.FWraps.l.length ≤ 24) = false from decide_eq_false h]
   simp
end Go.Proofs

namespace Go.Proofs
open Go Go.Ab
set_option maxRecDepth 1000000 in
theorem knows05 : Z5 = some true := by kernel_rfl
theorem rsame_eq (a b : TRef) : Z18 a b = some (a.FName == b.FName && decide (a.FWraps.l = b.FWraps.l)) := by
 rw [Z18_eq]; unfold Z18_q
 rw [Z23_eq']
 cases a.FName == b.FName <;> rfl
theorem psame_eq (a b : TRef) : Z60 a b = some (a.FName == b.FName && decide (a.FWraps.l = b.FWraps.l)) := by
 rw [Z60_eq]; unfold Z60_q
 rw [equal_eq]
 cases a.FName == b.FName <;> rfl
theorem nonNull_is {t : TRef} (h : SOk t.FWraps) : ∃ nl, Z55 t = some ⟨t.FName, ⟨nl, bif nnW t.FWraps.l then t.FWraps.l else 1 :: t.FWraps.l⟩⟩ := by
 have hl := h.2
 rw [Z55_eq]; unfold Z55_q
 simp only [Ab.on, isNonNull_eq]
 cases nnW t.FWraps.l
 ·rw [appC_ok (by decide) (by simp; omega)]; exact ⟨_, rfl⟩
 ·rw [clone_eq h]; exact ⟨_, rfl⟩
theorem rNonNull_is {t : TRef} (h : t.FWraps.l.length ≤ 2097152) : ∃ nl, Z15_q t = some ⟨t.FName, ⟨nl, bif nnW t.FWraps.l then t.FWraps.l else 1 :: t.FWraps.l⟩⟩ := by
 unfold Z15_q Z24_q
 simp only [Ab.on, r05_isNonNull_eq]
 have e1 : appC 8 (⟨false, [(1 : Int)]⟩ : Sl Int) t.FWraps = some ⟨false, 1 :: t.FWraps.l⟩ := by rw [appC_ok (by decide) (by simp; omega)]; simp
 have e2 : appC 8 (⟨false, []⟩ : Sl Int) t.FWraps = some ⟨false, t.FWraps.l⟩ := by rw [appC_ok (by decide) (by simp; omega)]; simp
 cases nnW t.FWraps.l
 ·rw [e1]; exact ⟨_, rfl⟩
 ·rw [e2]; exact ⟨_, rfl⟩
theorem listOf_is {t : TRef} (h : t.FWraps.l.length ≤ 1048576) : ∃ nl, Z53 t = some ⟨t.FName, ⟨nl, 2 :: t.FWraps.l⟩⟩ := by
 rw [Z53_eq]; unfold Z53_q
 rw [appC_ok (by decide) (by simp; omega)]; exact ⟨_, rfl⟩
theorem rListOf_is {t : TRef} (h : t.FWraps.l.length ≤ 2097152) : ∃ nl, Z13_q t = some ⟨t.FName, ⟨nl, 2 :: t.FWraps.l⟩⟩ := by
 unfold Z13_q Z24_q
 rw [appC_ok (by decide) (by simp; omega)]; exact ⟨_, rfl⟩
theorem few_eq (a : TRef) : Z4 a = some (Z4_q a) := Z4_eq a
theorem parts_eq {s : Bs} {t : TRef} (h : SOk t.FWraps) : Z3 s t = some true := by
 have hl := h.2
 obtain ⟨n1, e1⟩ := nonNull_is h
 obtain ⟨n2, e2⟩ := rNonNull_is (t := t) (by omega)
 obtain ⟨n3, e3⟩ := listOf_is (t := t) h.2
 obtain ⟨n4, e4⟩ := rListOf_is (t := t) (by omega)
 unfold Z3
 rw [few_eq, knows05, Z50_eq, inner_eq h, Z10_eq, r05_inner_is h.2, Z54_eq, Z14_eq, e1, Z15_eq, e2, e3, Z13_eq, e4, Z56_eq, nullable_eq h, Z16_eq, r05_nullable_eq h.2,
  Z52_eq, isNonNull_eq, Z12_eq, r05_isNonNull_eq, Z51_eq, isList_eq h, Z11_eq, r05_isList_eq h.2, rightP_eq h.2, Z17_eq, rightR_eq h.2]
 cases Z4_q t
 ·rfl
 ·cases hl2 : liW (barS t.FWraps).l <;> simp [guardO, rsame_eq, innerT, bar, Z54_q, Z14_q, barS_l]
theorem rweakAux : ∀ (n : Nat) (a b : TRef), rt a.FWraps.l = true → rt b.FWraps.l = true → a.FWraps.l.length ≤ 1048576 → b.FWraps.l.length ≤ 1048576 → a.FWraps.l.length < n →
  ∃ nl, Z20_qn n a b = some (bif (a.FName == b.FName && decide (fil a.FWraps.l = fil b.FWraps.l)) then (⟨a.FName, ⟨nl, wk n a.FWraps.l b.FWraps.l⟩⟩, true) else (⟨[], Sl.nil⟩, false))
 | 0, _, _, _, _, _, _, h => by omega
 | n + 1, a, b, ra, rb, ha, hb, hn => by
  rw [Z20_qn, r05_shape_eq ha hb, Option.bind_some]
  cases hs : (a.FName == b.FName && decide (fil a.FWraps.l = fil b.FWraps.l))
  ·exact ⟨true, rfl⟩
  ·simp only [Bool.and_eq_true, decide_eq_true_eq] at hs
   simp only [Bool.not_true, cond_false, cond_true, Ab.on, r05_isNonNull_eq]
   rw [r05_inner_is ha, r05_inner_is hb, barS_l, barS_l, wk]
   rcases rt_case ra with ⟨a1, a2, a3⟩ | ⟨xa, a1, a2, a3, a4, a5⟩ <;> rcases rt_case rb with ⟨b1, b2, b3⟩ | ⟨xb, b1, b2, b3, b4, b5⟩
   ·rw [a1, b1]
    simp only [Bool.and_self, cond_false, Option.bind_some, Z14_q, List.append_nil]
    cases ha1 : nnW a.FWraps.l <;> cases hb1 : nnW b.FWraps.l
    ·exact ⟨true, rfl⟩
    ·exact ⟨true, rfl⟩
    ·exact ⟨true, rfl⟩
    ·simp only [cond_true, Bool.and_self]
     obtain ⟨nl, e⟩ := rNonNull_is (t := ⟨a.FName, Sl.nil⟩) (by simp [Sl.nil])
     rw [e]; exact ⟨nl, rfl⟩
   ·rw [a3, b4] at hs; simp at hs
   ·rw [a4, b3] at hs; simp at hs
   ·have h2 : fil xa = fil xb := by have := hs.2; rw [a4, b4] at this; simpa using this
    rw [a1, b1, a2, b2]
    simp only [cond_true, Option.bind_some, Bool.and_self, List.drop_succ_cons, List.drop_zero]
    obtain ⟨nl, ih⟩ := rweakAux n ⟨a.FName, ⟨false, xa⟩⟩ ⟨b.FName, ⟨false, xb⟩⟩ a3 b3 (by simp only; omega) (by simp only; omega) (by simp only; omega)
    simp only [hs.1, h2, decide_true, Bool.and_self, cond_true] at ih
    obtain ⟨_, _, _, _, w5, _⟩ := wk_facts n xa xb a3 b3 h2 (by omega)
    obtain ⟨nl2, e2⟩ := rListOf_is (t := ⟨a.FName, ⟨nl, wk n xa xb⟩⟩) (by simp only; omega)
    have hsn : a.FName = b.FName := by simpa using hs.1
    rw [ih, Option.bind_some, e2]
    simp only [Option.bind_some]
    obtain ⟨nl3, e3⟩ := rNonNull_is (t := ⟨a.FName, ⟨nl2, 2 :: wk n xa xb⟩⟩) (by simp only [List.length_cons]; omega)
    cases ha1 : nnW a.FWraps.l <;> cases hb1 : nnW b.FWraps.l
    ·exact ⟨nl2, rfl⟩
    ·exact ⟨nl2, rfl⟩
    ·exact ⟨nl2, rfl⟩
    ·simp only [Bool.and_self, cond_true]
     rw [e3]
     exact ⟨nl3, rfl⟩
theorem compare_eq {a b : TRef} (ha : SOk a.FWraps) (hb : SOk b.FWraps) : Z2 a b = some true := by
 have hla := ha.2; have hlb := hb.2
 unfold Z2
 rw [few_eq, few_eq, knows05, psame_eq, rsame_eq, Z61_eq, shape_eq ha hb, Z19_eq, r05_shape_eq ha.2 hb.2, Z17_eq, Z17_eq, rightR_eq ha.2, rightR_eq hb.2]
 cases Z4_q a
 ·rfl
 ·cases Z4_q b
  ·rfl
  ·cases hra : rightB a
   ·simp [guardO]
   ·cases hrb : rightB b
    ·simp [guardO]
    ·unfold rightB at hra hrb
     simp only [Bool.and_eq_true, decide_eq_true_eq] at hra hrb
     obtain ⟨c, f1, f2⟩ := fits_same ha hb hra.2 hrb.2
     obtain ⟨nl, w1⟩ := weaken_eq ha hb
     obtain ⟨nl2, w2⟩ := rweakAux F0 a b hra.2 hrb.2 ha.2 hb.2 (by rw [F0_eq]; omega)
     rw [Z62_eq, w1, Z20_eq]
     unfold Z20_q
     rw [w2, Z49_eq, f1, Z9_eq, f2]
     cases hs : (a.FName == b.FName && decide (fil a.FWraps.l = fil b.FWraps.l)) <;> simp [guardO, rsame_eq]
end Go.Proofs

namespace Go.Proofs.YtmjbloiidajknaaGreatDoor
open Go Go.Ab Go.RowKit Go.ChangeShapes Go.WideShapes Go.ChangeAt
variable {lou : Lou}
theorem bulkAll {H : Type} (l : List (DataW H)) : Rows.uptoBulkAll l = (l.map Rows.uptoBulk).sum := by
 induction l with
 | nil => rfl
 | cons x r ih => simp only [Rows.uptoBulkAll, List.map_cons, List.sum_cons, ih]
theorem bulkB {H : Type} : Bulk (H := H) Rows.uptoBulk := by
 refine ⟨fun d => ?_, fun b => by simp [Rows.uptoBulk], fun e s => by simp only [Rows.uptoBulk, bulkAll]; omega, fun l => by simp only [Rows.uptoBulk, bulkAll]; omega⟩
 cases d with
 | lit l => cases l <;> simp [Rows.uptoBulk]
 | nil => simp [Rows.uptoBulk]
 | ptr d => simp [Rows.uptoBulk]
 | slice elems spare => simp [Rows.uptoBulk]
 | agg parts => simp [Rows.uptoBulk]
 | iface t d => simp [Rows.uptoBulk]
 | map entries => simp [Rows.uptoBulk]
 | held h => simp [Rows.uptoBulk]
theorem own : ownKnob Tryz.prog.godebug = none := by kernel_rfl
theorem laid : laidOutB Tryz.prog = true := by kernel_rfl
theorem bound {H : Type} {l : List (DataW H)} (hk : Rows.uptoSmall H l = true) : Rows.uptoBulkAll l ≤ 1048576 := of_decide_eq_true hk
theorem TRef.sok {r : TRef} (h : r.sz ≤ 1048576) (hw : r.wf) : SOk r.FWraps := ⟨hw.2.1.1, by have := r.sz_def; have := Sl.len_le (f := fun _ : Int => 1) r.FWraps (fun _ => Nat.le_refl _); omega⟩
theorem typerefParts_call (s : Bs) (a : TRef) (ha : a.sz ≤ 1048576) (wa : a.wf) (H : Heap) : ACalls Tryz.prog 3 [.d (.str s), .agg a.c] H fun r h' => r = .a (.d (.bool true)) ∧ h' = H :=
 Z3_walk (parts_eq (TRef.sok ha wa)) H
theorem typerefCompare_call (a b : TRef) (ha : a.sz ≤ 1048576) (wa : a.wf) (hb : b.sz ≤ 1048576) (wb : b.wf) (H : Heap) : ACalls Tryz.prog 4 [.agg a.c, .agg b.c] H fun r h' => r = .a (.d (.bool true)) ∧ h' = H :=
 Z2_walk (compare_eq (TRef.sok ha wa) (TRef.sok hb wb)) H
end Go.Proofs.YtmjbloiidajknaaGreatDoor

