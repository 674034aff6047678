import Derived.Test.YtjlggcgmmpopmaaGreatDoorV7
set_option maxRecDepth 100000
set_option maxHeartbeats 2000000
set_option linter.unusedVariables false
set_option linter.unusedSimpArgs false
namespace Go.Proofs
open Go Go.Ab
open AOps Cert AWp
def Z67 (a0 : R12_work) (a1 : TRef) (a2 : TValue) : Option (TValue × Int × R12_work) := (r12_work_coerce a0 a1 a2 (1 : Int)).bind fun x3 => bif (!decide (x3.2.Ferr = (0 : Int))) then (some ((TValue.mk (0 : Int) (0 : Int) ([] : Bs) true ([]) (Sl.nil : Sl Bs)), x3.2.Ferr, x3.2)) else (some (x3.1, (0 : Int), x3.2))
theorem Z67_walk {a0 : R12_work} {a1 : TRef} {a2 : TValue}  {c0 : Nat} {r : (TValue × Int × R12_work)} (hE : Z67 a0 a1 a2 = some r) (H : Heap) (hc0 : H c0 = some (.cells (R12_work.c a0))) : ACalls Tryz.prog 35 [.d (.ptr c0 0), .agg (TRef.c a1), .agg (TValue.c a2)] H fun v h' => v = .tup [.agg (TValue.c r.1), .d (.int .i64 r.2.1)] ∧ h' = (H.set c0 (some (.cells (R12_work.c r.2.2)))) := by
 unfold Z67 at hE
 refine ACalls.of_wp (fn := Tryz.f35) (c := _) Tryz.tab_ok (fun _ _ => Tryz.call35 _ _) Tryz.func35 rfl (n := 24) rfl (rs := [.cell 6 31, .tmp 7]) rfl rfl ?_
 refine AWp.heqA (h' := (H.set c0 (some (.cells (R12_work.c a0))))) (by funext n_; simp only [Heap.set]; (repeat' split) <;> simp_all) ?_
 refine seqK fun K1 hK1 => ?_
 refine region ?_
 refine s0 (boxV rfl) rfl ?_
 refine s0 (boxV rfl) rfl ?_
 refine sL (allocLA (TK rfl) rfl) rfl ?_
 refine s0 assignA rfl ?_
 refine nil ?_
 refine hK1 _ ?_
 clear hK1 K1
 refine seqK fun K2 hK2 => ?_
 refine region ?_
 refine s0 moveA rfl ?_
 refine s0 (loadV (TK rfl) rfl rfl rfl) rfl ?_
 refine s0 (loadV (TK rfl) rfl rfl rfl) rfl ?_
 obtain ⟨x3, gx3, hE⟩ := bindO_some hE
 refine sH (callH rfl rfl (r12_work_coerce_walk gx3 _ hpG)) rfl ?_
 refine AOps.heq (h' := (H.set c0 (some (.cells (R12_work.c x3.2))))) (by first | rfl | (rw [Heap.set_set]; rfl) | (funext n_; simp only [Heap.set]; (repeat' split) <;> first | rfl | (exfalso; simp_all; done) | (simp_all; done))) ?_
 refine sL (allocLA (TK rfl) rfl) rfl ?_
 refine sLn (storeLFA (TK rfl) rfl rfl rfl rfl rfl) ?_
 refine nil ?_
 refine hK2 _ ?_
 clear hK2 K2
 refine freezeA 8 _ rfl (Keeps.c (k := 0) (by conv => lhs; whnf) (by rfl) (Keeps.c (k := 6) (by conv => lhs; whnf) (by rfl) Keeps.nil)) ?_
 refine seqK fun K4 hK4 => ?_
 refine seqK fun K5 hK5 => ?_
 refine region ?_
 refine s0 moveA rfl ?_
 refine s0 (nilP rfl) rfl ?_
 refine s0 (fieldP (TK rfl) rfl rfl (TK rfl) rfl rfl) rfl ?_
 refine s0 (loadP (TK rfl) rfl rfl hpG rfl) rfl ?_
 refine s0 (binI rfl rfl rfl) rfl ?_
 refine nil ?_
 refine hK5 _ ?_
 clear hK5 K5
 refine condE hE rfl (fun hc6 hE => ?_) (fun hc6 hE => ?_)
 ·refine seqK fun K7 hK7 => ?_
  refine AWp.draw rfl ?_
  refine DOps.s0 (build Tryz.tab_ok rfl rfl rfl rfl rfl rfl) rfl ?_
  refine DOps.s0 moveA rfl ?_
  refine DOps.s0 (nilP rfl) rfl ?_
  refine DOps.s0 (fieldP (TK rfl) rfl rfl (TK rfl) rfl rfl) rfl ?_
  refine DOps.s0 (loadP (TK rfl) rfl rfl hpG rfl) rfl ?_
  refine DOps.sLn (storeLFA (TK rfl) rfl rfl rfl rfl rfl) ?_
  refine DOps.s0 assignA rfl ?_
  refine DOps.nil (by decide +kernel) ?_
  refine hK7 _ ?_
  clear hK7 K7
  refine AWp.ret ?_
  repeat (first | refine xBlock_ret ?_ | refine xThen_ret ?_)
  obtain rfl := Option.some.inj hE
  refine retQ.retF (H.set c0 (some (.cells (R12_work.c x3.2)))) rfl ⟨rfl, rfl⟩ ?_
  exact (fun _ _ h => h)
 refine AWp.skip ?_
 refine hK4 _ ?_
 clear hK4 K4
 refine seqK fun K8 hK8 => ?_
 refine region ?_
 refine s0 (loadV (TK rfl) rfl rfl rfl) rfl ?_
 refine sLn (storeLFA (TK rfl) rfl rfl rfl rfl rfl) ?_
 refine s0 assignA rfl ?_
 refine nil ?_
 refine hK8 _ ?_
 clear hK8 K8
 refine AWp.ret ?_
 repeat (first | refine xBlock_ret ?_ | refine xThen_ret ?_)
 obtain rfl := Option.some.inj hE
 refine retQ.retF (H.set c0 (some (.cells (R12_work.c x3.2)))) rfl ⟨rfl, rfl⟩ ?_
 exact (fun _ _ h => h)
def Z59 (a0 : TDoc) (a1 : TRef) (a2 : TValue) (a3 : TValue) : Option (TValue × Int) := (Z55 a0 a1.FName).bind fun x6 => guardO (x6) (Z64 (R12_work.mk a0 a3 true (0 : Int) (0 : Int)) a2) false fun x7 => bif (x6 && x7) then (some ((TValue.mk (0 : Int) (0 : Int) ([] : Bs) true ([]) (Sl.nil : Sl Bs)), (8 : Int))) else ((Z67 (R12_work.mk a0 a3 true (0 : Int) (0 : Int)) a1 a2).bind fun x11 => some (x11.1, x11.2.1))
theorem Z59_walk {a0 : TDoc} {a1 : TRef} {a2 : TValue} {a3 : TValue}   {r : (TValue × Int)} (hE : Z59 a0 a1 a2 a3 = some r) (H : Heap)  : ACalls Tryz.prog 11 [.agg (TDoc.c a0), .agg (TRef.c a1), .agg (TValue.c a2), .agg (TValue.c a3)] H fun v h' => v = .tup [.agg (TValue.c r.1), .d (.int .i64 r.2)] ∧ h' = H := by
 unfold Z59 at hE
 refine ACalls.of_wp (fn := Tryz.f11) (c := _) Tryz.tab_ok (fun _ _ => Tryz.call11 _ _) Tryz.func11 rfl (n := 31) rfl (rs := [.cell 8 31, .tmp 9]) rfl rfl ?_
 refine seqK fun K1 hK1 => ?_
 refine region ?_
 refine s0 (boxV rfl) rfl ?_
 refine s0 (boxV rfl) rfl ?_
 refine s0 (boxV rfl) rfl ?_
 refine s0 (boxV rfl) rfl ?_
 refine sL (allocLA (TK rfl) rfl) rfl ?_
 refine s0 assignA rfl ?_
 refine nil ?_
 refine hK1 _ ?_
 clear hK1 K1
 refine seqK fun K2 hK2 => ?_
 refine region ?_
 refine s0 (loadV (TK rfl) rfl rfl rfl) rfl ?_
 refine s0 (loadV (TK rfl) rfl rfl rfl) rfl ?_
 refine s0 (build Tryz.tab_ok rfl rfl rfl rfl rfl rfl) rfl ?_
 refine sE (StepE.boxO rfl) rfl (fun _ _ _ ⟨id14_3, hid14_3, e1, e2, e3⟩ => ?_); subst e1 e2 e3
 refine AOps.heq (h' := (H.set id14_3 (some (.cells (R12_work.c (R12_work.mk a0 a3 true (0 : Int) (0 : Int))))))) (by first | rfl | (rw [Heap.set_set]; rfl) | (funext n_; simp only [Heap.set]; (repeat' split) <;> first | rfl | (exfalso; simp_all; done) | (simp_all; done))) ?_
 refine s0 assignA rfl ?_
 refine nil ?_
 refine hK2 _ ?_
 clear hK2 K2
 refine seqK fun K4 hK4 => ?_
 refine seqK fun K5 hK5 => ?_
 refine region ?_
 refine s0 (loadV (TK rfl) rfl rfl rfl) rfl ?_
 refine s0 (fieldVA (TK rfl) rfl rfl (TK rfl) rfl rfl) rfl ?_
 refine s0 (loadV (TK rfl) rfl rfl rfl) rfl ?_
 obtain ⟨x6, gx6, hE⟩ := bindO_some hE
 refine s0 (callP rfl rfl (fun H => Z55_walk gx6 H)) rfl ?_
 refine s0 moveA rfl ?_
 refine gC rfl rfl (fun hC => moveA) rfl ?_
 refine gC rfl rfl (fun hC => loadV (TK rfl) rfl rfl rfl) rfl ?_
 obtain ⟨x7, gx7, hE⟩ := guardO_some hE
 refine gC rfl rfl (fun hC => ungdA (k := 20) rfl (ungdA (k := 21) rfl (callR rfl rfl (Z64_walk (gx7 hC) _ hpG)))) rfl ?_
 refine s0 (pickAndA rfl rfl rfl) rfl ?_
 refine nil ?_
 refine hK5 _ ?_
 clear hK5 K5
 refine condE hE rfl (fun hc8 hE => ?_) (fun hc8 hE => ?_)
 ·refine seqK fun K9 hK9 => ?_
  refine region ?_
  refine s0 (build Tryz.tab_ok rfl rfl rfl rfl rfl rfl) rfl ?_
  refine sLn (storeLFA (TK rfl) rfl rfl rfl rfl rfl) ?_
  refine s0 assignA rfl ?_
  refine nil ?_
  refine hK9 _ ?_
  clear hK9 K9
  refine AWp.ret ?_
  repeat (first | refine xBlock_ret ?_ | refine xThen_ret ?_)
  obtain rfl := Option.some.inj hE
  refine retQ.retF H rfl ⟨rfl, rfl⟩ ?_
  first | exact Heap.sub_set hid14_3 | (simp only [Heap.set_set]; exact Heap.sub_set hid14_3)
 refine AWp.skip ?_
 refine hK4 _ ?_
 clear hK4 K4
 refine seqK fun K10 hK10 => ?_
 refine region ?_
 refine s0 moveA rfl ?_
 refine s0 (loadV (TK rfl) rfl rfl rfl) rfl ?_
 refine s0 (loadV (TK rfl) rfl rfl rfl) rfl ?_
 obtain ⟨x11, gx11, hE⟩ := bindO_some hE
 refine sH (callH rfl rfl (Z67_walk gx11 _ hpG)) rfl ?_
 refine AOps.heq (h' := (H.set id14_3 (some (.cells (R12_work.c x11.2.2))))) (by first | rfl | (rw [Heap.set_set]; rfl) | (funext n_; simp only [Heap.set]; (repeat' split) <;> first | rfl | (exfalso; simp_all; done) | (simp_all; done))) ?_
 refine s0 (extract rfl rfl) rfl ?_
 refine s0 (extract rfl rfl) rfl ?_
 refine sLn (storeLFA (TK rfl) rfl rfl rfl rfl rfl) ?_
 refine s0 assignA rfl ?_
 refine nil ?_
 refine hK10 _ ?_
 clear hK10 K10
 refine AWp.ret ?_
 repeat (first | refine xBlock_ret ?_ | refine xThen_ret ?_)
 obtain rfl := Option.some.inj hE
 refine retQ.retF H rfl ⟨rfl, rfl⟩ ?_
 first | exact Heap.sub_set hid14_3 | (simp only [Heap.set_set]; exact Heap.sub_set hid14_3)
def Z61_j4  (s7_5 : Int) (y6_l1 : TValue) : Option (TValue × Int) := some (y6_l1, s7_5)
def Z61_j17 (s8_11 : Nat) (k_next_9 : Int → Nat → TValue → Option (TValue × Int)) (s7_18 : Int) (y19_l1 : TValue) : Option (TValue × Int) := k_next_9 s7_18 (s8_11 + 1) y19_l1
def Z61_j23 (s7_10 : Int) (s8_11 : Nat) (k_next_9 : Int → Nat → TValue → Option (TValue × Int)) (y24_l1 : TValue) : Option (TValue × Int) := (addC s7_10 (1 : Int)).bind fun x25 => Z61_j17 s8_11 k_next_9 x25 y24_l1
def Z61_l9 (a0 : (Sl TArg)) (a1 : Bs)  : Nat → Int → Nat → TValue → Option (TValue × Int)
 | 0, _, _, _ => none
 | n9 + 1, s7_10, s8_11, y12_l1 => bif (decide (((s8_11 : Nat) : Int) < ((a0.l.length : Nat) : Int))) then ((a0.l[s8_11]?).bind fun x21 => bif ((x21.FName == a1)) then (bif (decide (s7_10 = (0 : Int))) then ((a0.l[s8_11]?).bind fun x28 => Z61_j23 s7_10 s8_11 ((Z61_l9 a0 a1 n9)) x28.FValue) else (Z61_j23 s7_10 s8_11 ((Z61_l9 a0 a1 n9)) y12_l1)) else (Z61_j17 s8_11 ((Z61_l9 a0 a1 n9)) s7_10 y12_l1)) else (Z61_j4   s7_10 y12_l1)
def Z61 (a0 : (Sl TArg)) (a1 : Bs) : Option (TValue × Int) := Z61_l9 a0 a1 (a0.l.length + 1) (0 : Int) 0 TValue.zero
theorem Z61_walk {a0 : (Sl TArg)} {a1 : Bs} {w0 : Option Nat}  {r : (TValue × Int)} (hE : Z61 a0 a1 = some r) (H : Heap)  : ACalls Tryz.prog 43 [.d (Sl.d 6 TArg.c w0 a0), .d (.str a1)] H fun v h' => v = .tup [.agg (TValue.c r.1), .d (.int .i64 r.2)] ∧ h' = H := by
 unfold Z61 at hE
 refine ACalls.of_wp (fn := Tryz.f43) (c := _) Tryz.tab_ok (fun _ _ => Tryz.call43 _ _) Tryz.func43 rfl (n := 33) rfl (rs := [.cell 4 31, .tmp 5]) rfl rfl ?_
 refine seqK fun K1 hK1 => ?_
 refine region ?_
 refine sL (allocLA (TK rfl) rfl) rfl ?_
 refine s0 assignA rfl ?_
 refine nil ?_
 refine hK1 _ ?_
 clear hK1 K1
 refine seqK fun K2 hK2 => ?_
 refine region ?_
 refine sL (allocLA (TK rfl) rfl) rfl ?_
 refine nil ?_
 refine hK2 _ ?_
 clear hK2 K2
 refine seqK fun K3 hK3 => ?_
 refine region ?_
 refine s0 assignA rfl ?_
 refine nil ?_
 refine hK3 _ ?_
 clear hK3 K3
 refine seqJ (KeepsT.A (k := 4) (KeepsT.A (k := 6) KeepsT.nil)) (fun (z : Int × TValue) => [(7, .a (.d (.int .i64 z.1)))]) (fun z => [TValue.c TValue.zero, TValue.c z.2]) (fun z => H) (fun z => Z61_j4 z.1 z.2 = some r) ?_ ?_
 ·intro K4 hK4
  refine seqK fun K8 hK8 => ?_
  refine region ?_
  refine s0 assignA rfl ?_
  refine nil ?_
  refine hK8 _ ?_
  clear hK8 K8
  refine block ?_
  refine loopO (KeepsT.A (k := 0) (KeepsT.A (k := 1) (KeepsT.A (k := 4) (KeepsT.A (k := 6) KeepsT.nil)))) (fun (z : Nat × Int × Nat × TValue) => [(7, .a (.d (.int .i64 z.2.1))), (8, .a (.d (.int .i64 ((z.2.2.1 : Nat) : Int))))]) (fun z => [TValue.c TValue.zero, TValue.c z.2.2.2]) (fun z => H) (fun z => z.1) (fun z => Z61_l9 a0 a1 z.1 z.2.1 z.2.2.1 z.2.2.2 = some r) ((a0.l.length + 1), (0 : Int), 0, TValue.zero) hE Weak.toA ?_
  rintro ⟨n9, s7_10, s8_11, y12_l1⟩ hE K9 hK9
  try dsimp only at hE
  cases n9 with
  | zero => cases hE
  | succ n9 =>
    rw [Z61_l9] at hE
    refine seqK fun K13 hK13 => ?_
    refine seqK fun K14 hK14 => ?_
    refine region ?_
    refine s0 moveA rfl ?_
    refine s0 moveA rfl ?_
    refine sLen (f := TArg.c) (s := a0) (TK rfl) rfl rfl rfl rfl fun hL15 => ?_
    refine s0 (binI rfl rfl rfl) rfl ?_
    refine nil ?_
    refine hK14 _ ?_
    clear hK14 K14
    refine condE hE rfl (fun hc16 hE => ?_) (fun hc16 hE => ?_)
    ·try dsimp only at hc16
     have hf16 := of_decide_eq_true hc16
     refine AWp.skip ?_
     refine hK13 _ ?_
     clear hK13 K13
     refine seqJ (KeepsT.A (k := 0) (KeepsT.A (k := 1) (KeepsT.A (k := 4) (KeepsT.A (k := 6) (KeepsT.A (k := 8) KeepsT.nil))))) (fun (z : Int × TValue) => [(7, .a (.d (.int .i64 z.1)))]) (fun z => [TValue.c TValue.zero, TValue.c z.2]) (fun z => H) (fun z => Z61_j17 s8_11 ((Z61_l9 a0 a1 n9)) z.1 z.2 = some r) ?_ ?_
     ·intro K17 hK17
      refine block ?_
      refine seqK fun K20 hK20 => ?_
      refine region ?_
      refine s0 moveA rfl ?_
      refine s0 moveA rfl ?_
      obtain ⟨x21, gx21, hE⟩ := bindO_some hE
      refine s0 (idxMn (f := TArg.c) (n := s8_11) (TK rfl) rfl (TK rfl) rfl rfl rfl gx21) rfl ?_
      refine s0 (fieldVA (TK rfl) rfl rfl (TK rfl) rfl rfl) rfl ?_
      refine s0 (loadV (TK rfl) rfl rfl rfl) rfl ?_
      refine s0 moveA rfl ?_
      refine s0 (binS rfl rfl rfl) rfl ?_
      refine nil ?_
      refine hK20 _ ?_
      clear hK20 K20
      refine condE hE rfl (fun hc22 hE => ?_) (fun hc22 hE => ?_)
      ·refine seqJ (KeepsT.A (k := 0) (KeepsT.A (k := 1) (KeepsT.A (k := 4) (KeepsT.A (k := 6) (KeepsT.A (k := 7) (KeepsT.A (k := 8) KeepsT.nil)))))) (fun (z : TValue) => []) (fun z => [TValue.c TValue.zero, TValue.c z]) (fun z => H) (fun z => Z61_j23 s7_10 s8_11 ((Z61_l9 a0 a1 n9)) z = some r) ?_ ?_
       ·intro K23 hK23
        refine seqK fun K26 hK26 => ?_
        refine region ?_
        refine s0 moveA rfl ?_
        refine s0 (binI rfl rfl rfl) rfl ?_
        refine nil ?_
        refine hK26 _ ?_
        clear hK26 K26
        refine condE hE rfl (fun hc27 hE => ?_) (fun hc27 hE => ?_)
        ·refine region ?_
         refine s0 moveA rfl ?_
         refine s0 moveA rfl ?_
         obtain ⟨x28, gx28, hE⟩ := bindO_some hE
         refine s0 (idxMn (f := TArg.c) (n := s8_11) (TK rfl) rfl (TK rfl) rfl rfl rfl gx28) rfl ?_
         refine s0 (fieldVA (TK rfl) rfl rfl (TK rfl) rfl rfl) rfl ?_
         refine s0 (loadV (TK rfl) rfl rfl rfl) rfl ?_
         refine sLn (storeLFA (TK rfl) rfl rfl rfl rfl rfl) ?_
         refine nil ?_
         exact hK23 _ x28.FValue Weak.toA hE
        refine AWp.skip ?_
        exact hK23 _ y12_l1 Weak.toA hE
       rintro y24_l1 hE
       try dsimp only at hE
       unfold Z61_j23 at hE
       refine region ?_
       refine s0 moveA rfl ?_
       obtain ⟨x25, gx25, hE⟩ := bindO_some hE
       refine s0 (addM rfl rfl gx25) rfl ?_
       refine s0 assignA rfl ?_
       refine nil ?_
       exact hK17 _ (x25, y24_l1) Weak.toA hE
      refine AWp.skip ?_
      exact hK17 _ (s7_10, y12_l1) Weak.toA hE
     rintro ⟨s7_18, y19_l1⟩ hE
     try dsimp only at hE
     unfold Z61_j17 at hE
     refine region ?_
     refine s0 moveA rfl ?_
     refine s0 (addIA rfl rfl) rfl ?_
     refine s0 assignA rfl ?_
     refine nil ?_
     exact hK9 _ (n9, s7_18, (s8_11 + 1), y19_l1) Weak.toA hE (Nat.lt_succ_self _)
    refine AWp.exit ?_
    exact hK4 _ (s7_10, y12_l1) Weak.toA hE
 rintro ⟨s7_5, y6_l1⟩ hE
 try dsimp only at hE
 unfold Z61_j4 at hE
 refine seqK fun K7 hK7 => ?_
 refine region ?_
 refine s0 (loadL (TK rfl) rfl rfl rfl rfl) rfl ?_
 refine s0 moveA rfl ?_
 refine sLn (storeLFA (TK rfl) rfl rfl rfl rfl rfl) ?_
 refine s0 assignA rfl ?_
 refine nil ?_
 refine hK7 _ ?_
 clear hK7 K7
 refine AWp.ret ?_
 repeat (first | refine xBlock_ret ?_ | refine xThen_ret ?_)
 obtain rfl := Option.some.inj hE
 refine retQ.retF H rfl ⟨rfl, rfl⟩ ?_
 exact (fun _ _ h => h)
def Z58_j6  (s15_7 : (Sl TArg)) : Option ((Sl TArg) × Int) := some (s15_7, (0 : Int))
def Z58_j17 (s17_12 : Nat) (k_next_10 : (Sl TArg) → Nat → Option ((Sl TArg) × Int)) (s15_18 : (Sl TArg)) : Option ((Sl TArg) × Int) := k_next_10 s15_18 (s17_12 + 1)
def Z58_j29 (s15_11 : (Sl TArg)) (s17_12 : Nat) (x20 : TInput) (k_next_10 : (Sl TArg) → Nat → Option ((Sl TArg) × Int)) (s21_30 : Int) (y31_l0 : TValue) : Option ((Sl TArg) × Int) := bif (!decide (s21_30 = (0 : Int))) then (some ((Sl.nil : Sl TArg), s21_30)) else ((appC 96 s15_11 (⟨false, [(TArg.mk x20.FName y31_l0)]⟩ : Sl TArg)).bind fun x36 => Z58_j17 s17_12 k_next_10 x36)
def Z58_l10 (a0 : TDoc) (a1 : (Sl TInput)) (a2 : (Sl TArg)) (a3 : TValue)  : Nat → (Sl TArg) → Nat → Option ((Sl TArg) × Int)
 | 0, _, _ => none
 | n10 + 1, s15_11, s17_12 => bif (decide (((s17_12 : Nat) : Int) < ((a1.l.length : Nat) : Int))) then ((a1.l[s17_12]?).bind fun x20 => (Z60 a1 ((s17_12 : Nat) : Int)).bind fun x23 => bif x23 then (Z58_j17 s17_12 ((Z58_l10 a0 a1 a2 a3 n10)) s15_11) else ((Z61 a2 x20.FName).bind fun x26 => guardO ((decide ((0 : Int) < x26.2))) (Z64 (R12_work.mk TDoc.zero a3 true (0 : Int) (0 : Int)) x26.1) false fun x38 => bif ((decide ((0 : Int) < x26.2)) && (!x38)) then ((Z59 a0 x20.FType x26.1 a3).bind fun x40 => Z58_j29 s15_11 s17_12 x20 ((Z58_l10 a0 a1 a2 a3 n10)) x40.2 x40.1) else (bif x20.FHas then ((Z59 a0 x20.FType x20.FDefault (TValue.mk (0 : Int) (0 : Int) ([] : Bs) true ([]) (Sl.nil : Sl Bs))).bind fun x43 => Z58_j29 s15_11 s17_12 x20 ((Z58_l10 a0 a1 a2 a3 n10)) x43.2 x43.1) else ((Z38 x20.FType).bind fun x45 => bif (!x45) then (Z58_j17 s17_12 ((Z58_l10 a0 a1 a2 a3 n10)) s15_11) else (Z58_j29 s15_11 s17_12 x20 ((Z58_l10 a0 a1 a2 a3 n10)) (22 : Int) TValue.zero))))) else (Z58_j6   s15_11)
def Z58_j2 (a0 : TDoc) (a1 : (Sl TInput)) (a2 : (Sl TArg)) (a3 : TValue)   : Option ((Sl TArg) × Int) := Z58_l10 a0 a1 a2 a3 (a1.l.length + 1) (Sl.nil : Sl TArg) 0
def Z58_l48 (a0 : TDoc) (a1 : (Sl TInput)) (a2 : (Sl TArg)) (a3 : TValue)  : Nat → Nat → Option ((Sl TArg) × Int)
 | 0, _ => none
 | n48 + 1, s10_49 => bif (decide (((s10_49 : Nat) : Int) < ((a2.l.length : Nat) : Int))) then ((a2.l[s10_49]?).bind fun x56 => (Z54 a1 x56.FName).bind fun x57 => (a2.l[s10_49]?).bind fun x59 => (Z61 a2 x59.FName).bind fun x60 => bif ((!x57.2) || (decide ((1 : Int) < x60.2))) then (some ((Sl.nil : Sl TArg), (22 : Int))) else ((Z58_l48 a0 a1 a2 a3 n48) (s10_49 + 1))) else (Z58_j2 a0 a1 a2 a3  )
def Z58 (a0 : TDoc) (a1 : (Sl TInput)) (a2 : (Sl TArg)) (a3 : TValue) : Option ((Sl TArg) × Int) := Z58_l48 a0 a1 a2 a3 (a2.l.length + 1) 0
theorem Z58_walk {a0 : TDoc} {a1 : (Sl TInput)} {a2 : (Sl TArg)} {a3 : TValue} {w1 : Option Nat} {w2 : Option Nat}  {r : ((Sl TArg) × Int)} (hE : Z58 a0 a1 a2 a3 = some r) (H : Heap)  : ACalls Tryz.prog 19 [.agg (TDoc.c a0), .d (Sl.d 10 TInput.c w1 a1), .d (Sl.d 6 TArg.c w2 a2), .agg (TValue.c a3)] H fun v h' => v = .tup [.d (Sl.d 6 TArg.c none r.1), .d (.int .i64 r.2)] ∧ h' = H := by
 unfold Z58 at hE
 refine ACalls.of_wp (fn := Tryz.f19) (c := _) Tryz.tab_ok (fun _ _ => Tryz.call19 _ _) Tryz.func19 rfl (n := 122) rfl (rs := [.tmp 8, .tmp 9]) rfl rfl ?_
 refine AWp.tok 6 fun tk1 htk1 => ?_
 refine seqK fun K1 hK1 => ?_
 refine region ?_
 refine s0 (boxV rfl) rfl ?_
 refine s0 (boxV rfl) rfl ?_
 refine s0 (assignNil (k' := 6) rfl) rfl ?_
 refine s0 assignA rfl ?_
 refine nil ?_
 refine hK1 _ ?_
 clear hK1 K1
 refine seqJH (KeepsT.A (k := 1) (KeepsT.A (k := 2) (KeepsT.A (k := 4) (KeepsT.A (k := 7) KeepsT.nil)))) (fun (z : Unit) => []) (fun z => (H.set tk1 (some (.tok 6 0)))) (fun z => Z58_j2 a0 a1 a2 a3  = some r) ?_ ?_
 ·intro K2 hK2
  refine seqK fun K47 hK47 => ?_
  refine region ?_
  refine s0 assignA rfl ?_
  refine nil ?_
  refine hK47 _ ?_
  clear hK47 K47
  refine block ?_
  refine loopH (KeepsT.A (k := 1) (KeepsT.A (k := 2) (KeepsT.A (k := 4) (KeepsT.A (k := 7) KeepsT.nil)))) (fun (z : Nat × Nat) => [(10, .a (.d (.int .i64 ((z.2 : Nat) : Int))))]) (fun z => (H.set tk1 (some (.tok 6 0)))) (fun z => z.1) (fun z => Z58_l48 a0 a1 a2 a3 z.1 z.2 = some r) ((a2.l.length + 1), 0) hE Weak.toA ?_
  rintro ⟨n48, s10_49⟩ hE K48 hK48
  try dsimp only at hE
  cases n48 with
  | zero => cases hE
  | succ n48 =>
    rw [Z58_l48] at hE
    refine seqK fun K50 hK50 => ?_
    refine seqK fun K51 hK51 => ?_
    refine region ?_
    refine s0 moveA rfl ?_
    refine s0 moveA rfl ?_
    refine sLen (f := TArg.c) (s := a2) (TK rfl) rfl rfl rfl rfl fun hL52 => ?_
    refine s0 (binI rfl rfl rfl) rfl ?_
    refine nil ?_
    refine hK51 _ ?_
    clear hK51 K51
    refine condE hE rfl (fun hc53 hE => ?_) (fun hc53 hE => ?_)
    ·try dsimp only at hc53
     have hf53 := of_decide_eq_true hc53
     refine AWp.skip ?_
     refine hK50 _ ?_
     clear hK50 K50
     refine seqK fun K54 hK54 => ?_
     refine block ?_
     refine seqK fun K55 hK55 => ?_
     refine region ?_
     refine s0 moveA rfl ?_
     refine s0 moveA rfl ?_
     refine s0 moveA rfl ?_
     obtain ⟨x56, gx56, hE⟩ := bindO_some hE
     refine s0 (idxMn (f := TArg.c) (n := s10_49) (TK rfl) rfl (TK rfl) rfl rfl rfl gx56) rfl ?_
     refine s0 (fieldVA (TK rfl) rfl rfl (TK rfl) rfl rfl) rfl ?_
     refine s0 (loadV (TK rfl) rfl rfl rfl) rfl ?_
     obtain ⟨x57, gx57, hE⟩ := bindO_some hE
     refine s0 (callP rfl rfl (fun H => Z54_walk gx57 H)) rfl ?_
     refine s0 moveA rfl ?_
     refine s0 (extract rfl rfl) rfl ?_
     refine s0 (extract rfl rfl) rfl ?_
     refine sL (allocLA (TK rfl) rfl) rfl ?_
     refine sLn (storeLFA (TK rfl) rfl rfl rfl rfl rfl) ?_
     refine s0 assignA rfl ?_
     refine nil ?_
     refine hK55 _ ?_
     clear hK55 K55
     refine freezeA 11 _ rfl (Keeps.c (k := 1) (by conv => lhs; whnf) (by rfl) (Keeps.c (k := 2) (by conv => lhs; whnf) (by rfl) (Keeps.c (k := 4) (by conv => lhs; whnf) (by rfl) (Keeps.c (k := 7) (by conv => lhs; whnf) (by rfl) (Keeps.c (k := 10) (by conv => lhs; whnf) (by rfl) (Keeps.c (k := 12) (by conv => lhs; whnf) (by rfl) Keeps.nil)))))) ?_
     refine seqK fun K58 hK58 => ?_
     refine region ?_
     refine s0 moveA rfl ?_
     refine s0 moveA rfl ?_
     refine s0 moveA rfl ?_
     obtain ⟨x59, gx59, hE⟩ := bindO_some hE
     refine s0 (idxMn (f := TArg.c) (n := s10_49) (TK rfl) rfl (TK rfl) rfl rfl rfl gx59) rfl ?_
     refine s0 (fieldVA (TK rfl) rfl rfl (TK rfl) rfl rfl) rfl ?_
     refine s0 (loadV (TK rfl) rfl rfl rfl) rfl ?_
     obtain ⟨x60, gx60, hE⟩ := bindO_some hE
     refine s0 (callP rfl rfl (fun H => Z61_walk gx60 H)) rfl ?_
     refine s0 moveA rfl ?_
     refine s0 (extract rfl rfl) rfl ?_
     refine s0 (extract rfl rfl) rfl ?_
     refine sL (allocLA (TK rfl) rfl) rfl ?_
     refine sLn (storeLFA (TK rfl) rfl rfl rfl rfl rfl) ?_
     refine s0 assignA rfl ?_
     refine nil ?_
     refine hK58 _ ?_
     clear hK58 K58
     refine freezeA 13 _ rfl (Keeps.c (k := 1) (by conv => lhs; whnf) (by rfl) (Keeps.c (k := 2) (by conv => lhs; whnf) (by rfl) (Keeps.c (k := 4) (by conv => lhs; whnf) (by rfl) (Keeps.c (k := 7) (by conv => lhs; whnf) (by rfl) (Keeps.c (k := 10) (by conv => lhs; whnf) (by rfl) (Keeps.c (k := 12) (by conv => lhs; whnf) (by rfl) (Keeps.c (k := 14) (by conv => lhs; whnf) (by rfl) Keeps.nil))))))) ?_
     refine seqK fun K61 hK61 => ?_
     refine region ?_
     refine s0 moveA rfl ?_
     refine s0 (notB rfl) rfl ?_
     refine s0 moveA rfl ?_
     refine gC rfl rfl (fun hC => moveA) rfl ?_
     refine gC rfl rfl (fun hC => ungdA (k := 52) rfl (binI rfl rfl rfl)) rfl ?_
     refine s0 (pickOrA rfl rfl rfl) rfl ?_
     refine nil ?_
     refine hK61 _ ?_
     clear hK61 K61
     refine condE hE rfl (fun hc62 hE => ?_) (fun hc62 hE => ?_)
     ·refine seqK fun K63 hK63 => ?_
      refine region ?_
      refine s0 (assignNil (k' := 6) rfl) rfl ?_
      refine s0 assignA rfl ?_
      refine nil ?_
      refine hK63 _ ?_
      clear hK63 K63
      refine AWp.ret ?_
      repeat (first | refine xBlock_ret ?_ | refine xThen_ret ?_)
      obtain rfl := Option.some.inj hE
      refine retQ.retF H rfl ⟨rfl, rfl⟩ ?_
      first | exact Heap.sub_set htk1 | (simp only [Heap.set_set]; exact Heap.sub_set htk1)
     refine AWp.skip ?_
     refine hK54 _ ?_
     clear hK54 K54
     refine region ?_
     refine s0 moveA rfl ?_
     refine s0 (addIA rfl rfl) rfl ?_
     refine s0 assignA rfl ?_
     refine nil ?_
     exact hK48 _ (n48, (s10_49 + 1)) Weak.toA hE (Nat.lt_succ_self _)
    refine AWp.exit ?_
    exact hK2 _ () Weak.toA hE
 rintro _ hE
 try dsimp only at hE
 unfold Z58_j2 at hE
 refine seqK fun K3 hK3 => ?_
 refine region ?_
 refine s0 assignA rfl ?_
 refine nil ?_
 refine hK3 _ ?_
 clear hK3 K3
 refine AWp.nilTok 15 6 tk1 rfl hpG ?_
 refine seqK fun K4 hK4 => ?_
 refine region ?_
 refine s0 (loadV (TK rfl) rfl rfl rfl) rfl ?_
 refine s0 (build Tryz.tab_ok rfl rfl rfl rfl rfl rfl) rfl ?_
 refine sE (StepE.boxO rfl) rfl (fun _ _ _ ⟨id57_5, hid57_5, e1, e2, e3⟩ => ?_); subst e1 e2 e3
 obtain ⟨ne_id57_5_tk1, hid57_5⟩ := Heap.set_fresh hid57_5
 refine AOps.heq (h' := ((H.set tk1 (some (.tok 6 0))).set id57_5 (some (.cells (R12_work.c (R12_work.mk TDoc.zero a3 true (0 : Int) (0 : Int))))))) (by first | rfl | (rw [Heap.set_set]; rfl) | (funext n_; simp only [Heap.set]; (repeat' split) <;> first | rfl | (exfalso; simp_all; done) | (simp_all; done))) ?_
 refine s0 assignA rfl ?_
 refine nil ?_
 refine hK4 _ ?_
 clear hK4 K4
 refine seqJH KeepsT.nil (fun (z : (Sl TArg)) => [(15, .a (.d (Sl.d 6 TArg.c (some tk1) z)))]) (fun z => ((H.set tk1 (some (.tok 6 z.l.length))).set id57_5 (some (.cells (R12_work.c (R12_work.mk TDoc.zero a3 true (0 : Int) (0 : Int))))))) (fun z => Z58_j6 z = some r) ?_ ?_
 ·intro K6 hK6
  refine seqK fun K9 hK9 => ?_
  refine region ?_
  refine s0 assignA rfl ?_
  refine nil ?_
  refine hK9 _ ?_
  clear hK9 K9
  refine block ?_
  refine loopH (KeepsT.A (k := 1) (KeepsT.A (k := 2) (KeepsT.A (k := 4) (KeepsT.A (k := 7) (KeepsT.A (k := 16) KeepsT.nil))))) (fun (z : Nat × (Sl TArg) × Nat) => [(15, .a (.d (Sl.d 6 TArg.c (some tk1) z.2.1))), (17, .a (.d (.int .i64 ((z.2.2 : Nat) : Int))))]) (fun z => ((H.set tk1 (some (.tok 6 z.2.1.l.length))).set id57_5 (some (.cells (R12_work.c (R12_work.mk TDoc.zero a3 true (0 : Int) (0 : Int))))))) (fun z => z.1) (fun z => Z58_l10 a0 a1 a2 a3 z.1 z.2.1 z.2.2 = some r) ((a1.l.length + 1), (Sl.nil : Sl TArg), 0) hE Weak.toA ?_
  rintro ⟨n10, s15_11, s17_12⟩ hE K10 hK10
  try dsimp only at hE
  cases n10 with
  | zero => cases hE
  | succ n10 =>
    rw [Z58_l10] at hE
    refine seqK fun K13 hK13 => ?_
    refine seqK fun K14 hK14 => ?_
    refine region ?_
    refine s0 moveA rfl ?_
    refine s0 moveA rfl ?_
    refine sLen (f := TInput.c) (s := a1) (TK rfl) rfl rfl rfl rfl fun hL15 => ?_
    refine s0 (binI rfl rfl rfl) rfl ?_
    refine nil ?_
    refine hK14 _ ?_
    clear hK14 K14
    refine condE hE rfl (fun hc16 hE => ?_) (fun hc16 hE => ?_)
    ·try dsimp only at hc16
     have hf16 := of_decide_eq_true hc16
     refine AWp.skip ?_
     refine hK13 _ ?_
     clear hK13 K13
     refine seqJH (KeepsT.A (k := 1) (KeepsT.A (k := 2) (KeepsT.A (k := 4) (KeepsT.A (k := 7) (KeepsT.A (k := 16) (KeepsT.A (k := 17) KeepsT.nil)))))) (fun (z : (Sl TArg)) => [(15, .a (.d (Sl.d 6 TArg.c (some tk1) z)))]) (fun z => ((H.set tk1 (some (.tok 6 z.l.length))).set id57_5 (some (.cells (R12_work.c (R12_work.mk TDoc.zero a3 true (0 : Int) (0 : Int))))))) (fun z => Z58_j17 s17_12 ((Z58_l10 a0 a1 a2 a3 n10)) z = some r) ?_ ?_
     ·intro K17 hK17
      refine block ?_
      refine seqK fun K19 hK19 => ?_
      refine region ?_
      refine s0 moveA rfl ?_
      refine s0 moveA rfl ?_
      obtain ⟨x20, gx20, hE⟩ := bindO_some hE
      refine s0 (idxMn (f := TInput.c) (n := s17_12) (TK rfl) rfl (TK rfl) rfl rfl rfl gx20) rfl ?_
      refine s0 (loadV (TK rfl) rfl rfl rfl) rfl ?_
      refine sL (allocLA (TK rfl) rfl) rfl ?_
      refine sLn (storeLFA (TK rfl) rfl rfl rfl rfl rfl) ?_
      refine nil ?_
      refine hK19 _ ?_
      clear hK19 K19
      refine freezeA 18 _ rfl (Keeps.c (k := 1) (by conv => lhs; whnf) (by rfl) (Keeps.c (k := 2) (by conv => lhs; whnf) (by rfl) (Keeps.c (k := 4) (by conv => lhs; whnf) (by rfl) (Keeps.c (k := 7) (by conv => lhs; whnf) (by rfl) (Keeps.c (k := 15) (by conv => lhs; whnf) (by rfl) (Keeps.c (k := 16) (by conv => lhs; whnf) (by rfl) (Keeps.c (k := 17) (by conv => lhs; whnf) (by rfl) Keeps.nil))))))) ?_
      refine seqK fun K21 hK21 => ?_
      refine seqK fun K22 hK22 => ?_
      refine region ?_
      refine s0 moveA rfl ?_
      refine s0 moveA rfl ?_
      obtain ⟨x23, gx23, hE⟩ := bindO_some hE
      refine s0 (callP rfl rfl (fun H => Z60_walk gx23 H)) rfl ?_
      refine nil ?_
      refine hK22 _ ?_
      clear hK22 K22
      refine condE hE rfl (fun hc24 hE => ?_) (fun hc24 hE => ?_)
      ·refine AWp.exit ?_
       exact hK17 _ s15_11 Weak.toA hE
      refine AWp.skip ?_
      refine hK21 _ ?_
      clear hK21 K21
      refine seqK fun K25 hK25 => ?_
      refine region ?_
      refine s0 moveA rfl ?_
      refine s0 (fieldVA (TK rfl) rfl rfl (TK rfl) rfl rfl) rfl ?_
      refine s0 (loadV (TK rfl) rfl rfl rfl) rfl ?_
      obtain ⟨x26, gx26, hE⟩ := bindO_some hE
      refine s0 (callP rfl rfl (fun H => Z61_walk gx26 H)) rfl ?_
      refine s0 moveA rfl ?_
      refine s0 (extract rfl rfl) rfl ?_
      refine s0 (extract rfl rfl) rfl ?_
      refine sL (allocLA (TK rfl) rfl) rfl ?_
      refine sLn (storeLFA (TK rfl) rfl rfl rfl rfl rfl) ?_
      refine s0 assignA rfl ?_
      refine nil ?_
      refine hK25 _ ?_
      clear hK25 K25
      refine freezeA 19 _ rfl (Keeps.c (k := 1) (by conv => lhs; whnf) (by rfl) (Keeps.c (k := 2) (by conv => lhs; whnf) (by rfl) (Keeps.c (k := 4) (by conv => lhs; whnf) (by rfl) (Keeps.c (k := 7) (by conv => lhs; whnf) (by rfl) (Keeps.c (k := 15) (by conv => lhs; whnf) (by rfl) (Keeps.c (k := 16) (by conv => lhs; whnf) (by rfl) (Keeps.c (k := 17) (by conv => lhs; whnf) (by rfl) (Keeps.c (k := 18) (by conv => lhs; whnf) (by rfl) (Keeps.c (k := 20) (by conv => lhs; whnf) (by rfl) Keeps.nil))))))))) ?_
      refine seqK fun K27 hK27 => ?_
      refine region ?_
      refine s0 assignA rfl ?_
      refine nil ?_
      refine hK27 _ ?_
      clear hK27 K27
      refine seqK fun K28 hK28 => ?_
      refine region ?_
      refine sL (allocLA (TK rfl) rfl) rfl ?_
      refine nil ?_
      refine hK28 _ ?_
      clear hK28 K28
      refine seqJ (KeepsT.A (k := 1) (KeepsT.A (k := 2) (KeepsT.A (k := 4) (KeepsT.A (k := 7) (KeepsT.A (k := 15) (KeepsT.A (k := 16) (KeepsT.A (k := 17) (KeepsT.A (k := 18) (KeepsT.A (k := 22) KeepsT.nil))))))))) (fun (z : Int × TValue) => [(21, .a (.d (.int .i64 z.1)))]) (fun z => [TValue.c z.2]) (fun z => ((H.set tk1 (some (.tok 6 s15_11.l.length))).set id57_5 (some (.cells (R12_work.c (R12_work.mk TDoc.zero a3 true (0 : Int) (0 : Int))))))) (fun z => Z58_j29 s15_11 s17_12 x20 ((Z58_l10 a0 a1 a2 a3 n10)) z.1 z.2 = some r) ?_ ?_
      ·intro K29 hK29
       refine seqK fun K37 hK37 => ?_
       refine region ?_
       refine s0 moveA rfl ?_
       refine s0 (binI rfl rfl rfl) rfl ?_
       refine s0 moveA rfl ?_
       refine gC rfl rfl (fun hC => moveA) rfl ?_
       refine gC rfl rfl (fun hC => loadV (TK rfl) rfl rfl rfl) rfl ?_
       obtain ⟨x38, gx38, hE⟩ := guardO_some hE
       refine gC rfl rfl (fun hC => ungdA (k := 81) rfl (ungdA (k := 82) rfl (callR rfl rfl (Z64_walk (gx38 hC) _ hpG)))) rfl ?_
       refine gC rfl rfl (fun hC => ungdA (k := 83) rfl (notB rfl)) rfl ?_
       refine s0 (pickAndA rfl rfl rfl) rfl ?_
       refine nil ?_
       refine hK37 _ ?_
       clear hK37 K37
       refine condE hE rfl (fun hc39 hE => ?_) (fun hc39 hE => ?_)
       ·refine region ?_
        refine s0 (loadV (TK rfl) rfl rfl rfl) rfl ?_
        refine s0 (fieldVA (TK rfl) rfl rfl (TK rfl) rfl rfl) rfl ?_
        refine s0 (loadV (TK rfl) rfl rfl rfl) rfl ?_
        refine s0 (loadV (TK rfl) rfl rfl rfl) rfl ?_
        refine s0 (loadV (TK rfl) rfl rfl rfl) rfl ?_
        obtain ⟨x40, gx40, hE⟩ := bindO_some hE
        refine s0 (callP rfl rfl (fun H => Z59_walk gx40 H)) rfl ?_
        refine s0 moveA rfl ?_
        refine s0 (extract rfl rfl) rfl ?_
        refine s0 (extract rfl rfl) rfl ?_
        refine sLn (storeLFA (TK rfl) rfl rfl rfl rfl rfl) ?_
        refine s0 assignA rfl ?_
        refine nil ?_
        exact hK29 _ (x40.2, x40.1) Weak.toA hE
       refine seqK fun K41 hK41 => ?_
       refine region ?_
       refine s0 (fieldVA (TK rfl) rfl rfl (TK rfl) rfl rfl) rfl ?_
       refine s0 (loadV (TK rfl) rfl rfl rfl) rfl ?_
       refine nil ?_
       refine hK41 _ ?_
       clear hK41 K41
       refine condE hE rfl (fun hc42 hE => ?_) (fun hc42 hE => ?_)
       ·refine region ?_
        refine s0 (loadV (TK rfl) rfl rfl rfl) rfl ?_
        refine s0 (fieldVA (TK rfl) rfl rfl (TK rfl) rfl rfl) rfl ?_
        refine s0 (loadV (TK rfl) rfl rfl rfl) rfl ?_
        refine s0 (fieldVA (TK rfl) rfl rfl (TK rfl) rfl rfl) rfl ?_
        refine s0 (loadV (TK rfl) rfl rfl rfl) rfl ?_
        refine s0 (build Tryz.tab_ok rfl rfl rfl rfl rfl rfl) rfl ?_
        obtain ⟨x43, gx43, hE⟩ := bindO_some hE
        refine s0 (callP rfl rfl (fun H => Z59_walk gx43 H)) rfl ?_
        refine s0 moveA rfl ?_
        refine s0 (extract rfl rfl) rfl ?_
        refine s0 (extract rfl rfl) rfl ?_
        refine sLn (storeLFA (TK rfl) rfl rfl rfl rfl rfl) ?_
        refine s0 assignA rfl ?_
        refine nil ?_
        exact hK29 _ (x43.2, x43.1) Weak.toA hE
       refine seqK fun K44 hK44 => ?_
       refine region ?_
       refine s0 (fieldVA (TK rfl) rfl rfl (TK rfl) rfl rfl) rfl ?_
       refine s0 (loadV (TK rfl) rfl rfl rfl) rfl ?_
       obtain ⟨x45, gx45, hE⟩ := bindO_some hE
       refine s0 (callP rfl rfl (fun H => Z38_walk gx45 H)) rfl ?_
       refine s0 (notB rfl) rfl ?_
       refine nil ?_
       refine hK44 _ ?_
       clear hK44 K44
       refine condE hE rfl (fun hc46 hE => ?_) (fun hc46 hE => ?_)
       ·refine AWp.exit ?_
        exact hK17 _ s15_11 Weak.toA hE
       refine AWp.skip ?_
       exact hK29 _ ((22 : Int), TValue.zero) Weak.toA hE
      rintro ⟨s21_30, y31_l0⟩ hE
      try dsimp only at hE
      unfold Z58_j29 at hE
      refine seqK fun K32 hK32 => ?_
      refine seqK fun K33 hK33 => ?_
      refine region ?_
      refine s0 moveA rfl ?_
      refine s0 (binI rfl rfl rfl) rfl ?_
      refine nil ?_
      refine hK33 _ ?_
      clear hK33 K33
      refine condE hE rfl (fun hc34 hE => ?_) (fun hc34 hE => ?_)
      ·refine seqK fun K35 hK35 => ?_
       refine region ?_
       refine s0 moveA rfl ?_
       refine s0 (assignNil (k' := 6) rfl) rfl ?_
       refine s0 assignA rfl ?_
       refine nil ?_
       refine hK35 _ ?_
       clear hK35 K35
       refine AWp.ret ?_
       repeat (first | refine xBlock_ret ?_ | refine xThen_ret ?_)
       obtain rfl := Option.some.inj hE
       refine retQ.retF H rfl ⟨rfl, rfl⟩ ?_
       intro id_ o_ he_
       have e_tk1 : id_ ≠ tk1 := fun e_ => by subst e_; simp_all [Heap.set]
       have e_id57_5 : id_ ≠ id57_5 := fun e_ => by subst e_; simp_all [Heap.set]
       rw [← he_]
       simp only [Heap.set] at he_ ⊢
       (repeat' split) <;> simp_all
      refine AWp.skip ?_
      refine hK32 _ ?_
      clear hK32 K32
      refine region ?_
      refine s0 moveA rfl ?_
      refine s0 (fieldVA (TK rfl) rfl rfl (TK rfl) rfl rfl) rfl ?_
      refine s0 (loadV (TK rfl) rfl rfl rfl) rfl ?_
      refine s0 (loadL (TK rfl) rfl rfl rfl rfl) rfl ?_
      refine s0 (build Tryz.tab_ok rfl rfl rfl rfl rfl rfl) rfl ?_
      refine s0 (buildSlice (TK rfl) rfl (TK rfl) rfl rfl rfl rfl rfl rfl) rfl ?_
      obtain ⟨x36, gx36, hE⟩ := bindO_some hE
      refine sH (appM (f := TArg.c) (TK rfl) rfl (TK rfl) (TK rfl) ⟨_, rfl⟩ rfl rfl (by decide) rfl rfl rfl rfl hpG rfl gx36) rfl ?_
      refine AOps.heq (h' := ((H.set tk1 (some (.tok 6 x36.l.length))).set id57_5 (some (.cells (R12_work.c (R12_work.mk TDoc.zero a3 true (0 : Int) (0 : Int))))))) (by first | rfl | (rw [Heap.set_set]; rfl) | (funext n_; simp only [Heap.set]; (repeat' split) <;> first | rfl | (exfalso; simp_all; done) | (simp_all; done))) ?_
      refine s0 assignA rfl ?_
      refine nil ?_
      exact hK17 _ x36 Weak.toA hE
     rintro s15_18 hE
     try dsimp only at hE
     unfold Z58_j17 at hE
     refine region ?_
     refine s0 moveA rfl ?_
     refine s0 (addIA rfl rfl) rfl ?_
     refine s0 assignA rfl ?_
     refine nil ?_
     exact hK10 _ (n10, s15_18, (s17_12 + 1)) Weak.toA hE (Nat.lt_succ_self _)
    refine AWp.exit ?_
    exact hK6 _ s15_11 Weak.toA hE
 rintro s15_7 hE
 try dsimp only at hE
 unfold Z58_j6 at hE
 refine seqK fun K8 hK8 => ?_
 refine region ?_
 refine s0 moveA rfl ?_
 refine s0 assignA rfl ?_
 refine s0 assignA rfl ?_
 refine nil ?_
 refine hK8 _ ?_
 clear hK8 K8
 refine AWp.dropTok 8 rfl ?_
 refine AWp.ret ?_
 repeat (first | refine xBlock_ret ?_ | refine xThen_ret ?_)
 obtain rfl := Option.some.inj hE
 refine retQ.retF H rfl ⟨rfl, rfl⟩ ?_
 intro id_ o_ he_
 have e_tk1 : id_ ≠ tk1 := fun e_ => by subst e_; simp_all [Heap.set]
 have e_id57_5 : id_ ≠ id57_5 := fun e_ => by subst e_; simp_all [Heap.set]
 rw [← he_]
 simp only [Heap.set] at he_ ⊢
 (repeat' split) <;> simp_all
end Go.Proofs

namespace Go.Proofs
open Go Go.Ab
open AOps Cert AWp
def Z16_j18   : Option Bool := (Z18 ).bind fun x20 => some x20
def Z16_l22 (x11 : ((Sl TArg) × Int)) (x13 : ((Sl TArg) × Int))  : Nat → Nat → Option Bool
 | 0, _ => none
 | n22 + 1, s12_23 => bif (decide (((s12_23 : Nat) : Int) < ((x11.1.l.length : Nat) : Int))) then ((x11.1.l[s12_23]?).bind fun x30 => (x13.1.l[s12_23]?).bind fun x31 => guardO (!(!(x30.FName == x31.FName))) (x11.1.l[s12_23]?) TArg.zero fun x32 => guardO (!(!(x30.FName == x31.FName))) (x13.1.l[s12_23]?) TArg.zero fun x33 => guardO (!(!(x30.FName == x31.FName))) (Z34 x32.FValue x33.FValue) false fun x34 => bif ((!(x30.FName == x31.FName)) || (!x34)) then (some false) else ((Z16_l22 x11 x13 n22) (s12_23 + 1))) else (Z16_j18   )
def Z16_j9 (a0 : Supergraphlaw12_Case) (a1 : (Sl TInput)) (a2 : (Sl TArg))   : Option Bool := (Z0 a0.FD a1 a2 a0.FVars).bind fun x11 => (Z58 a0.FD a1 a2 a0.FVars).bind fun x13 => bif ((!decide (x11.2 = x13.2)) || (!decide (((x11.1.l.length : Nat) : Int) = ((x13.1.l.length : Nat) : Int)))) then (some false) else (Z16_l22 x11 x13 (x11.1.l.length + 1) 0)
def Z16_l38 (a0 : Supergraphlaw12_Case) (a1 : (Sl TInput)) (a2 : (Sl TArg))  : Nat → Nat → Option Bool
 | 0, _ => none
 | n38 + 1, s7_39 => bif (decide (((s7_39 : Nat) : Int) < ((a2.l.length : Nat) : Int))) then ((a2.l[s7_39]?).bind fun x46 => (Z35 x46.FValue (300 : Int)).bind fun x47 => guardO (!(decide ((300 : Int) < x47))) (a2.l[s7_39]?) TArg.zero fun x48 => guardO (!(decide ((300 : Int) < x47))) (Z27 x48.FValue) false fun x49 => bif ((decide ((300 : Int) < x47)) || (!x49)) then ((Z18 ).bind fun x52 => some x52) else ((Z16_l38 a0 a1 a2 n38) (s7_39 + 1))) else (Z16_j9 a0 a1 a2  )
def Z16 (a0 : Supergraphlaw12_Case) (a1 : (Sl TInput)) (a2 : (Sl TArg)) : Option Bool := (Z19 a0 true).bind fun x4 => guardO (!(!x4)) (Z17 a1) false fun x5 => bif (((!x4) || (!x5)) || (decide ((20 : Int) < ((a2.l.length : Nat) : Int)))) then ((Z18 ).bind fun x8 => some x8) else (Z16_l38 a0 a1 a2 (a2.l.length + 1) 0)
theorem Z16_walk {a0 : Supergraphlaw12_Case} {a1 : (Sl TInput)} {a2 : (Sl TArg)} {w1 : Option Nat} {w2 : Option Nat} {oT : Ab.Obj} {gT : Nat} {r : Bool} (hE : Z16 a0 a1 a2 = some r) (H : Heap) (hgT : H gT = some oT) (hoT : IsTab Tryz.prog oT) : ACalls Tryz.prog 5 [.agg (Supergraphlaw12_Case.c a0), .d (Sl.d 10 TInput.c w1 a1), .d (Sl.d 6 TArg.c w2 a2)] H fun v h' => v = .a (.d (.bool r)) ∧ h' = H := by
 unfold Z16 at hE
 refine ACalls.of_wp (fn := Tryz.f5) (c := _) Tryz.tab_ok (fun _ _ => Tryz.call5 _ _) Tryz.func5 rfl (n := 112) rfl (rs := [.tmp 6]) rfl rfl ?_
 refine seqK fun K1 hK1 => ?_
 refine region ?_
 refine s0 (boxV rfl) rfl ?_
 refine s0 assignA rfl ?_
 refine nil ?_
 refine hK1 _ ?_
 clear hK1 K1
 refine seqK fun K2 hK2 => ?_
 refine seqK fun K3 hK3 => ?_
 refine region ?_
 refine s0 (loadV (TK rfl) rfl rfl rfl) rfl ?_
 obtain ⟨x4, gx4, hE⟩ := bindO_some hE
 refine s0 (callP rfl rfl (fun H => Z19_walk gx4 H)) rfl ?_
 refine s0 (notB rfl) rfl ?_
 refine s0 moveA rfl ?_
 refine gC rfl rfl (fun hC => moveA) rfl ?_
 obtain ⟨x5, gx5, hE⟩ := guardO_some hE
 refine gC rfl rfl (fun hC => ungdA (k := 17) rfl (callP rfl rfl (fun H => Z17_walk (gx5 hC) H))) rfl ?_
 refine gC rfl rfl (fun hC => ungdA (k := 18) rfl (notB rfl)) rfl ?_
 refine s0 (pickOrA rfl rfl rfl) rfl ?_
 refine s0 moveA rfl ?_
 refine gC rfl rfl (fun hC => moveA) rfl ?_
 refine gC rfl rfl (fun hC => ungdA (k := 22) rfl (lenM' (f := TArg.c) (s := a2) (TK rfl) rfl rfl rfl)) rfl ?_
 refine gC rfl rfl (fun hC => ungdA (k := 23) rfl (binI rfl rfl rfl)) rfl ?_
 refine s0 (pickOrA rfl rfl rfl) rfl ?_
 refine nil ?_
 refine hK3 _ ?_
 clear hK3 K3
 refine condE hE rfl (fun hc6 hE => ?_) (fun hc6 hE => ?_)
 ·refine seqK fun K7 hK7 => ?_
  refine region ?_
  obtain ⟨x8, gx8, hE⟩ := bindO_some hE
  refine s0 (callR rfl rfl (Z18_walk (gT := gT) (oT := oT) gx8 _ hpG (by assumption))) rfl ?_
  refine s0 assignA rfl ?_
  refine nil ?_
  refine hK7 _ ?_
  clear hK7 K7
  refine AWp.ret ?_
  repeat (first | refine xBlock_ret ?_ | refine xThen_ret ?_)
  obtain rfl := Option.some.inj hE
  refine retQ.retF H rfl ⟨rfl, rfl⟩ ?_
  exact (fun _ _ h => h)
 refine AWp.skip ?_
 refine hK2 _ ?_
 clear hK2 K2
 refine seqJH (KeepsT.A (k := 1) (KeepsT.A (k := 2) (KeepsT.A (k := 3) KeepsT.nil))) (fun (z : Unit) => []) (fun z => H) (fun z => Z16_j9 a0 a1 a2  = some r) ?_ ?_
 ·intro K9 hK9
  refine seqK fun K37 hK37 => ?_
  refine region ?_
  refine s0 assignA rfl ?_
  refine nil ?_
  refine hK37 _ ?_
  clear hK37 K37
  refine block ?_
  refine loopH (KeepsT.A (k := 1) (KeepsT.A (k := 2) (KeepsT.A (k := 3) KeepsT.nil))) (fun (z : Nat × Nat) => [(7, .a (.d (.int .i64 ((z.2 : Nat) : Int))))]) (fun z => H) (fun z => z.1) (fun z => Z16_l38 a0 a1 a2 z.1 z.2 = some r) ((a2.l.length + 1), 0) hE Weak.toA ?_
  rintro ⟨n38, s7_39⟩ hE K38 hK38
  try dsimp only at hE
  cases n38 with
  | zero => cases hE
  | succ n38 =>
    rw [Z16_l38] at hE
    refine seqK fun K40 hK40 => ?_
    refine seqK fun K41 hK41 => ?_
    refine region ?_
    refine s0 moveA rfl ?_
    refine s0 moveA rfl ?_
    refine sLen (f := TArg.c) (s := a2) (TK rfl) rfl rfl rfl rfl fun hL42 => ?_
    refine s0 (binI rfl rfl rfl) rfl ?_
    refine nil ?_
    refine hK41 _ ?_
    clear hK41 K41
    refine condE hE rfl (fun hc43 hE => ?_) (fun hc43 hE => ?_)
    ·try dsimp only at hc43
     have hf43 := of_decide_eq_true hc43
     refine AWp.skip ?_
     refine hK40 _ ?_
     clear hK40 K40
     refine seqK fun K44 hK44 => ?_
     refine block ?_
     refine seqK fun K45 hK45 => ?_
     refine region ?_
     refine s0 moveA rfl ?_
     refine s0 moveA rfl ?_
     obtain ⟨x46, gx46, hE⟩ := bindO_some hE
     refine s0 (idxMn (f := TArg.c) (n := s7_39) (TK rfl) rfl (TK rfl) rfl rfl rfl gx46) rfl ?_
     refine s0 (fieldVA (TK rfl) rfl rfl (TK rfl) rfl rfl) rfl ?_
     refine s0 (loadV (TK rfl) rfl rfl rfl) rfl ?_
     obtain ⟨x47, gx47, hE⟩ := bindO_some hE
     refine s0 (callP rfl rfl (fun H => Z35_walk gx47 H)) rfl ?_
     refine s0 (binI rfl rfl rfl) rfl ?_
     refine s0 moveA rfl ?_
     refine gC rfl rfl (fun hC => moveA) rfl ?_
     refine gC rfl rfl (fun hC => moveA) rfl ?_
     obtain ⟨x48, gx48, hE⟩ := guardO_some hE
     refine gC rfl rfl (fun hC => ungdA (k := 41) rfl (ungdA (k := 42) rfl (idxMn (f := TArg.c) (n := s7_39) (TK rfl) rfl (TK rfl) rfl rfl rfl (gx48 hC)))) rfl ?_
     refine gC rfl rfl (fun hC => ungdA (k := 43) rfl (fieldVA (TK rfl) rfl rfl (TK rfl) rfl rfl)) rfl ?_
     refine gC rfl rfl (fun hC => ungdA (k := 44) rfl (loadV (TK rfl) rfl rfl rfl)) rfl ?_
     obtain ⟨x49, gx49, hE⟩ := guardO_some hE
     refine gC rfl rfl (fun hC => ungdA (k := 45) rfl (callP rfl rfl (fun H => Z27_walk (gx49 hC) H))) rfl ?_
     refine gC rfl rfl (fun hC => ungdA (k := 46) rfl (notB rfl)) rfl ?_
     refine s0 (pickOrA rfl rfl rfl) rfl ?_
     refine nil ?_
     refine hK45 _ ?_
     clear hK45 K45
     refine condE hE rfl (fun hc50 hE => ?_) (fun hc50 hE => ?_)
     ·refine seqK fun K51 hK51 => ?_
      refine region ?_
      obtain ⟨x52, gx52, hE⟩ := bindO_some hE
      refine s0 (callR rfl rfl (Z18_walk (gT := gT) (oT := oT) gx52 _ hpG (by assumption))) rfl ?_
      refine s0 assignA rfl ?_
      refine nil ?_
      refine hK51 _ ?_
      clear hK51 K51
      refine AWp.ret ?_
      repeat (first | refine xBlock_ret ?_ | refine xThen_ret ?_)
      obtain rfl := Option.some.inj hE
      refine retQ.retF H rfl ⟨rfl, rfl⟩ ?_
      exact (fun _ _ h => h)
     refine AWp.skip ?_
     refine hK44 _ ?_
     clear hK44 K44
     refine region ?_
     refine s0 moveA rfl ?_
     refine s0 (addIA rfl rfl) rfl ?_
     refine s0 assignA rfl ?_
     refine nil ?_
     exact hK38 _ (n38, (s7_39 + 1)) Weak.toA hE (Nat.lt_succ_self _)
    refine AWp.exit ?_
    exact hK9 _ () Weak.toA hE
 rintro _ hE
 try dsimp only at hE
 unfold Z16_j9 at hE
 refine seqK fun K10 hK10 => ?_
 refine region ?_
 refine s0 (fieldVA (TK rfl) rfl rfl (TK rfl) rfl rfl) rfl ?_
 refine s0 (loadV (TK rfl) rfl rfl rfl) rfl ?_
 refine s0 moveA rfl ?_
 refine s0 moveA rfl ?_
 refine s0 (fieldVA (TK rfl) rfl rfl (TK rfl) rfl rfl) rfl ?_
 refine s0 (loadV (TK rfl) rfl rfl rfl) rfl ?_
 obtain ⟨x11, gx11, hE⟩ := bindO_some hE
 refine s0 (callR rfl rfl (Z0_walk (gT := gT) (oT := oT) gx11 _ hpG (by assumption))) rfl ?_
 refine s0 moveA rfl ?_
 refine s0 (extract rfl rfl) rfl ?_
 refine s0 (extract rfl rfl) rfl ?_
 refine s0 assignA rfl ?_
 refine s0 assignA rfl ?_
 refine nil ?_
 refine hK10 _ ?_
 clear hK10 K10
 refine seqK fun K12 hK12 => ?_
 refine region ?_
 refine s0 (fieldVA (TK rfl) rfl rfl (TK rfl) rfl rfl) rfl ?_
 refine s0 (loadV (TK rfl) rfl rfl rfl) rfl ?_
 refine s0 moveA rfl ?_
 refine s0 moveA rfl ?_
 refine s0 (fieldVA (TK rfl) rfl rfl (TK rfl) rfl rfl) rfl ?_
 refine s0 (loadV (TK rfl) rfl rfl rfl) rfl ?_
 obtain ⟨x13, gx13, hE⟩ := bindO_some hE
 refine s0 (callP rfl rfl (fun H => Z58_walk gx13 H)) rfl ?_
 refine s0 moveA rfl ?_
 refine s0 (extract rfl rfl) rfl ?_
 refine s0 (extract rfl rfl) rfl ?_
 refine s0 assignA rfl ?_
 refine s0 assignA rfl ?_
 refine nil ?_
 refine hK12 _ ?_
 clear hK12 K12
 refine seqK fun K14 hK14 => ?_
 refine seqK fun K15 hK15 => ?_
 refine region ?_
 refine s0 moveA rfl ?_
 refine s0 moveA rfl ?_
 refine s0 (binI rfl rfl rfl) rfl ?_
 refine s0 moveA rfl ?_
 refine gC rfl rfl (fun hC => moveA) rfl ?_
 refine gC rfl rfl (fun hC => ungdA (k := 74) rfl (lenM' (f := TArg.c) (s := x11.1) (TK rfl) rfl rfl rfl)) rfl ?_
 refine gC rfl rfl (fun hC => moveA) rfl ?_
 refine gC rfl rfl (fun hC => ungdA (k := 76) rfl (lenM' (f := TArg.c) (s := x13.1) (TK rfl) rfl rfl rfl)) rfl ?_
 refine gC rfl rfl (fun hC => ungdA (k := 75) rfl (ungdA (k := 77) rfl (binI rfl rfl rfl))) rfl ?_
 refine s0 (pickOrA rfl rfl rfl) rfl ?_
 refine nil ?_
 refine hK15 _ ?_
 clear hK15 K15
 refine condE hE rfl (fun hc16 hE => ?_) (fun hc16 hE => ?_)
 ·refine seqK fun K17 hK17 => ?_
  refine region ?_
  refine s0 assignA rfl ?_
  refine nil ?_
  refine hK17 _ ?_
  clear hK17 K17
  refine AWp.ret ?_
  repeat (first | refine xBlock_ret ?_ | refine xThen_ret ?_)
  obtain rfl := Option.some.inj hE
  refine retQ.retF H rfl ⟨rfl, rfl⟩ ?_
  exact (fun _ _ h => h)
 refine AWp.skip ?_
 refine hK14 _ ?_
 clear hK14 K14
 refine seqJH KeepsT.nil (fun (z : Unit) => []) (fun z => H) (fun z => Z16_j18  = some r) ?_ ?_
 ·intro K18 hK18
  refine seqK fun K21 hK21 => ?_
  refine region ?_
  refine s0 assignA rfl ?_
  refine nil ?_
  refine hK21 _ ?_
  clear hK21 K21
  refine block ?_
  refine loopH (KeepsT.A (k := 8) (KeepsT.A (k := 10) KeepsT.nil)) (fun (z : Nat × Nat) => [(12, .a (.d (.int .i64 ((z.2 : Nat) : Int))))]) (fun z => H) (fun z => z.1) (fun z => Z16_l22 x11 x13 z.1 z.2 = some r) ((x11.1.l.length + 1), 0) hE Weak.toA ?_
  rintro ⟨n22, s12_23⟩ hE K22 hK22
  try dsimp only at hE
  cases n22 with
  | zero => cases hE
  | succ n22 =>
    rw [Z16_l22] at hE
    refine seqK fun K24 hK24 => ?_
    refine seqK fun K25 hK25 => ?_
    refine region ?_
    refine s0 moveA rfl ?_
    refine s0 moveA rfl ?_
    refine sLen (f := TArg.c) (s := x11.1) (TK rfl) rfl rfl rfl rfl fun hL26 => ?_
    refine s0 (binI rfl rfl rfl) rfl ?_
    refine nil ?_
    refine hK25 _ ?_
    clear hK25 K25
    refine condE hE rfl (fun hc27 hE => ?_) (fun hc27 hE => ?_)
    ·try dsimp only at hc27
     have hf27 := of_decide_eq_true hc27
     refine AWp.skip ?_
     refine hK24 _ ?_
     clear hK24 K24
     refine seqK fun K28 hK28 => ?_
     refine block ?_
     refine seqK fun K29 hK29 => ?_
     refine AWp.draw rfl ?_
     refine DOps.s0 moveA rfl ?_
     refine DOps.s0 moveA rfl ?_
     obtain ⟨x30, gx30, hE⟩ := bindO_some hE
     refine DOps.s0 (idxMn (f := TArg.c) (n := s12_23) (TK rfl) rfl (TK rfl) rfl rfl rfl gx30) rfl ?_
     refine DOps.s0 (fieldVA (TK rfl) rfl rfl (TK rfl) rfl rfl) rfl ?_
     refine DOps.s0 (loadV (TK rfl) rfl rfl rfl) rfl ?_
     refine DOps.s0 moveA rfl ?_
     refine DOps.s0 moveA rfl ?_
     obtain ⟨x31, gx31, hE⟩ := bindO_some hE
     refine DOps.s0 (idxMn (f := TArg.c) (n := s12_23) (TK rfl) rfl (TK rfl) rfl rfl rfl gx31) rfl ?_
     refine DOps.s0 (fieldVA (TK rfl) rfl rfl (TK rfl) rfl rfl) rfl ?_
     refine DOps.s0 (loadV (TK rfl) rfl rfl rfl) rfl ?_
     refine DOps.s0 (binS rfl rfl rfl) rfl ?_
     refine DOps.s0 moveA rfl ?_
     refine DOps.gC rfl rfl (fun hC => moveA) rfl ?_
     refine DOps.gC rfl rfl (fun hC => moveA) rfl ?_
     obtain ⟨x32, gx32, hE⟩ := guardO_some hE
     refine DOps.gC rfl rfl (fun hC => ungdA (k := 98) rfl (ungdA (k := 99) rfl (idxMn (f := TArg.c) (n := s12_23) (TK rfl) rfl (TK rfl) rfl rfl rfl (gx32 hC)))) rfl ?_
     refine DOps.gC rfl rfl (fun hC => ungdA (k := 100) rfl (fieldVA (TK rfl) rfl rfl (TK rfl) rfl rfl)) rfl ?_
     refine DOps.gC rfl rfl (fun hC => ungdA (k := 101) rfl (loadV (TK rfl) rfl rfl rfl)) rfl ?_
     refine DOps.gC rfl rfl (fun hC => moveA) rfl ?_
     refine DOps.gC rfl rfl (fun hC => moveA) rfl ?_
     obtain ⟨x33, gx33, hE⟩ := guardO_some hE
     refine DOps.gC rfl rfl (fun hC => ungdA (k := 103) rfl (ungdA (k := 104) rfl (idxMn (f := TArg.c) (n := s12_23) (TK rfl) rfl (TK rfl) rfl rfl rfl (gx33 hC)))) rfl ?_
     refine DOps.gC rfl rfl (fun hC => ungdA (k := 105) rfl (fieldVA (TK rfl) rfl rfl (TK rfl) rfl rfl)) rfl ?_
     refine DOps.gC rfl rfl (fun hC => ungdA (k := 106) rfl (loadV (TK rfl) rfl rfl rfl)) rfl ?_
     obtain ⟨x34, gx34, hE⟩ := guardO_some hE
     refine DOps.gC rfl rfl (fun hC => ungdA (k := 102) rfl (ungdA (k := 107) rfl (callP rfl rfl (fun H => Z34_walk (gx34 hC) H)))) rfl ?_
     refine DOps.gC rfl rfl (fun hC => ungdA (k := 108) rfl (notB rfl)) rfl ?_
     refine DOps.s0 (pickOrA rfl rfl rfl) rfl ?_
     refine DOps.nil (by decide +kernel) ?_
     refine hK29 _ ?_
     clear hK29 K29
     refine condE hE rfl (fun hc35 hE => ?_) (fun hc35 hE => ?_)
     ·refine seqK fun K36 hK36 => ?_
      refine region ?_
      refine s0 assignA rfl ?_
      refine nil ?_
      refine hK36 _ ?_
      clear hK36 K36
      refine AWp.ret ?_
      repeat (first | refine xBlock_ret ?_ | refine xThen_ret ?_)
      obtain rfl := Option.some.inj hE
      refine retQ.retF H rfl ⟨rfl, rfl⟩ ?_
      exact (fun _ _ h => h)
     refine AWp.skip ?_
     refine hK28 _ ?_
     clear hK28 K28
     refine region ?_
     refine s0 moveA rfl ?_
     refine s0 (addIA rfl rfl) rfl ?_
     refine s0 assignA rfl ?_
     refine nil ?_
     exact hK22 _ (n22, (s12_23 + 1)) Weak.toA hE (Nat.lt_succ_self _)
    refine AWp.exit ?_
    exact hK18 _ () Weak.toA hE
 rintro _ hE
 try dsimp only at hE
 unfold Z16_j18 at hE
 refine seqK fun K19 hK19 => ?_
 refine region ?_
 obtain ⟨x20, gx20, hE⟩ := bindO_some hE
 refine s0 (callR rfl rfl (Z18_walk (gT := gT) (oT := oT) gx20 _ hpG (by assumption))) rfl ?_
 refine s0 assignA rfl ?_
 refine nil ?_
 refine hK19 _ ?_
 clear hK19 K19
 refine AWp.ret ?_
 repeat (first | refine xBlock_ret ?_ | refine xThen_ret ?_)
 obtain rfl := Option.some.inj hE
 refine retQ.retF H rfl ⟨rfl, rfl⟩ ?_
 exact (fun _ _ h => h)
end Go.Proofs

namespace Go.Proofs
open Go Go.Ab
def Z35_q23 (a1 : Int) : List Bs → Int → Option (Int)
 | [], s5_24 => some s5_24
 | h23 :: r23, s5_24 => bif (decide (s5_24 ≤ a1)) then ((addC s5_24 (1 : Int)).bind fun x31 => on (h23) fun x32 => (addC x31 ((x32.length : Nat) : Int)).bind fun x34 => Z35_q23 a1 (r23) x34) else (some s5_24)
theorem Z35_l23_qe {a0 : TValue} {a1 : Int} {k_rec_16 : TValue → Int → Option Int}  (Kb23 : (Int) → Option Int) (hend : ∀ (n23 : Nat) (s5_24 : Int) (s6_25 : Nat), Z35_j5 a0 a1 k_rec_16 s5_24 = Kb23 s5_24) : ∀ (n23 : Nat) (s5_24 : Int) (s6_25 : Nat), (0 < n23 ∧ a0.FKeys.l.length < s6_25 + n23) → Z35_l23 a0 a1 k_rec_16 n23 s5_24 s6_25 = Option.bind (Z35_q23 a1 (a0.FKeys.l.drop s6_25) s5_24) Kb23 := by
 intro n23
 induction n23 with
 | zero => intro s5_24 s6_25 hn; exact absurd hn.1 (by omega)
 | succ n23 ih23 =>
  intro s5_24 s6_25 hn
  rw [Z35_l23]
  by_cases hlt : s6_25 < a0.FKeys.l.length
  ·obtain ⟨h23, hh23⟩ : ∃ x, a0.FKeys.l[s6_25]? = some x := ⟨_, List.getElem?_eq_getElem hlt⟩
   rw [Q.drop_of hh23, Z35_q23]
   refine Q.condAT (Q.ltT hlt) ?_
   refine Q.condO ?_ ?_
   ·refine Q.bindO rfl fun x31 => ?_
    refine Q.bindPO hh23 fun x32 hx_x32 => ?_
    refine Q.bindO rfl fun x34 => ?_
    all_goals exact ih23 _ _ ⟨by omega, by omega⟩
   all_goals exact hend n23 s5_24 s6_25
  rw [List.drop_of_length_le (by omega), Z35_q23]
  refine Q.condAF (Q.ltF hlt) ?_
  exact hend n23 s5_24 s6_25
def Z35_q11 (a1 : Int) (k_rec_16 : TValue → Int → Option Int) : List TValue → Int → Option (Int)
 | [], s5_12 => some s5_12
 | h11 :: r11, s5_12 => bif (decide (s5_12 ≤ a1)) then (on (h11) fun x19 => (k_rec_16 x19 a1).bind fun x20 => (addC s5_12 x20).bind fun x21 => Z35_q11 a1 k_rec_16 (r11) x21) else (some s5_12)
theorem Z35_l11_qe {a0 : TValue} {a1 : Int} {k_rec_16 : TValue → Int → Option Int}  (Kb11 : (Int) → Option Int) (hend : ∀ (n11 : Nat) (s5_12 : Int) (s7_13 : Nat), Z35_j7   s5_12 = Kb11 s5_12) : ∀ (n11 : Nat) (s5_12 : Int) (s7_13 : Nat), (0 < n11 ∧ a0.FItems.l.length < s7_13 + n11) → Z35_l11 a0 a1 k_rec_16 n11 s5_12 s7_13 = Option.bind (Z35_q11 a1 k_rec_16 (a0.FItems.l.drop s7_13) s5_12) Kb11 := by
 intro n11
 induction n11 with
 | zero => intro s5_12 s7_13 hn; exact absurd hn.1 (by omega)
 | succ n11 ih11 =>
  intro s5_12 s7_13 hn
  rw [Z35_l11]
  by_cases hlt : s7_13 < a0.FItems.l.length
  ·obtain ⟨h11, hh11⟩ : ∃ x, a0.FItems.l[s7_13]? = some x := ⟨_, List.getElem?_eq_getElem hlt⟩
   rw [Q.drop_of hh11, Z35_q11]
   refine Q.condAT (Q.ltT hlt) ?_
   refine Q.condO ?_ ?_
   ·refine Q.bindPO hh11 fun x19 hx_x19 => ?_
    refine Q.bindO rfl fun x20 => ?_
    refine Q.bindO rfl fun x21 => ?_
    all_goals exact ih11 _ _ ⟨by omega, by omega⟩
   all_goals exact hend n11 s5_12 s7_13
  rw [List.drop_of_length_le (by omega), Z35_q11]
  refine Q.condAF (Q.ltF hlt) ?_
  exact hend n11 s5_12 s7_13
def Z35_qn : Nat → TValue → Int → Option Int
 | 0, _, _ => none
 | n + 1, a0, a1 => (addC (1 : Int) ((a0.FText.length : Nat) : Int)).bind fun x4 => Option.bind (Z35_q23 a1 a0.FKeys.l x4) fun s5_24 => on (s5_24) fun s5_6 => Option.bind (Z35_q11 a1 (Z35_qn n) a0.FItems.l s5_6) fun s5_12 => on (s5_12) fun s5_8 => some s5_8
theorem Z35_qall : ∀ n : Nat, Z35_n n = Z35_qn n := by
 intro n
 induction n with
 | zero => exact (by funext a0 a1; first | rfl | (rw [Z35_n, Z35_qn]))
 | succ n ih =>
  funext a0 a1
  refine Eq.trans ?_ (Q.some_bind _)
  rw [Z35_n, Z35_qn]
  try rw [ih]
  refine Q.bindO rfl fun x4 => ?_
  refine Q.wrapOO fun Kb23 hKb23 => ?_
  refine Z35_l23_qe  Kb23 ?_ _ _ _ ⟨Nat.succ_pos _, by omega⟩
  intro n23 s5_24 s6_25
  refine Eq.trans ?_ (hKb23 _).symm
  refine Q.wrapPO fun Kj5 hKj5 => ?_
  have hj5 : ∀ (s5_6 : Int), Z35_j5 a0 a1 (Z35_qn n) s5_6 = Kj5 s5_6 := by
   intro s5_6
   refine Eq.trans ?_ (hKj5 _).symm
   unfold Z35_j5
   refine Q.wrapOO fun Kb11 hKb11 => ?_
   refine Z35_l11_qe  Kb11 ?_ _ _ _ ⟨Nat.succ_pos _, by omega⟩
   intro n11 s5_12 s7_13
   refine Eq.trans ?_ (hKb11 _).symm
   refine Q.wrapPO fun Kj7 hKj7 => ?_
   have hj7 : ∀ (s5_8 : Int), Z35_j7  s5_8 = Kj7 s5_8 := by
    intro s5_8
    refine Eq.trans ?_ (hKj7 _).symm
    unfold Z35_j7
    all_goals rfl
   all_goals exact hj7 _
  all_goals exact hj5 _
def Z35_q (a0 : TValue) (a1 : Int) : Option Int := Z35_qn F0 a0 a1
theorem Z35_eq (a0 : TValue) (a1 : Int) : Z35 a0 a1 = Z35_q a0 a1 := by
 unfold Z35 Z35_q; rw [(Z35_qall F0)]
def Z29_q7 (k_rec_36 : TValue → Option Int) : List TValue → Int → Option (Int)
 | [], s3_8 => some s3_8
 | h7 :: r7, s3_8 => on (h7) fun x15 => (k_rec_36 x15).bind fun x16 => (addC s3_8 x16).bind fun x17 => Z29_q7 k_rec_36 (r7) x17
theorem Z29_l7_qe {a0 : TValue} {k_rec_36 : TValue → Option Int}  (Kb7 : (Int) → Option Int) (hend : ∀ (n7 : Nat) (s3_8 : Int) (s4_9 : Nat), Z29_j3   s3_8 = Kb7 s3_8) : ∀ (n7 : Nat) (s3_8 : Int) (s4_9 : Nat), (0 < n7 ∧ a0.FItems.l.length < s4_9 + n7) → Z29_l7 a0 k_rec_36 n7 s3_8 s4_9 = Option.bind (Z29_q7 k_rec_36 (a0.FItems.l.drop s4_9) s3_8) Kb7 := by
 intro n7
 induction n7 with
 | zero => intro s3_8 s4_9 hn; exact absurd hn.1 (by omega)
 | succ n7 ih7 =>
  intro s3_8 s4_9 hn
  rw [Z29_l7]
  by_cases hlt : s4_9 < a0.FItems.l.length
  ·obtain ⟨h7, hh7⟩ : ∃ x, a0.FItems.l[s4_9]? = some x := ⟨_, List.getElem?_eq_getElem hlt⟩
   rw [Q.drop_of hh7, Z29_q7]
   refine Q.condT (Q.ltT hlt) ?_
   refine Q.bindPO hh7 fun x15 hx_x15 => ?_
   refine Q.bindO rfl fun x16 => ?_
   refine Q.bindO rfl fun x17 => ?_
   all_goals exact ih7 _ _ ⟨by omega, by omega⟩
  rw [List.drop_of_length_le (by omega), Z29_q7]
  refine Q.condF (Q.ltF hlt) ?_
  exact hend n7 s3_8 s4_9
def Z29_qn : Nat → TValue → Option Int
 | 0, _ => none
 | n + 1, a0 => Option.bind (Z29_q7 (Z29_qn n) a0.FItems.l (1 : Int)) fun s3_8 => on (s3_8) fun s3_4 => some s3_4
theorem Z29_qall : ∀ n : Nat, Z29_n n = Z29_qn n := by
 intro n
 induction n with
 | zero => exact (by funext a0; first | rfl | (rw [Z29_n, Z29_qn]))
 | succ n ih =>
  funext a0
  refine Eq.trans ?_ (Q.some_bind _)
  rw [Z29_n, Z29_qn]
  try rw [ih]
  refine Q.wrapOO fun Kb7 hKb7 => ?_
  refine Z29_l7_qe  Kb7 ?_ _ _ _ ⟨Nat.succ_pos _, by omega⟩
  intro n7 s3_8 s4_9
  refine Eq.trans ?_ (hKb7 _).symm
  refine Q.wrapPO fun Kj3 hKj3 => ?_
  have hj3 : ∀ (s3_4 : Int), Z29_j3  s3_4 = Kj3 s3_4 := by
   intro s3_4
   refine Eq.trans ?_ (hKj3 _).symm
   unfold Z29_j3
   all_goals rfl
  all_goals exact hj3 _
def Z29_q (a0 : TValue) : Option Int := Z29_qn F0 a0
theorem Z29_eq (a0 : TValue) : Z29 a0 = Z29_q a0 := by
 unfold Z29 Z29_q; rw [(Z29_qall F0)]
def Z25_q8 (k_rec_37 : TValue → Option Int) : List TValue → Int → Option (Int)
 | [], s3_9 => some s3_9
 | h8 :: r8, s3_9 => on (h8) fun x16 => (k_rec_37 x16).bind fun x17 => Z25_q8 k_rec_37 (r8) (if x17 > s3_9 then x17 else s3_9)
theorem Z25_l8_qe {a0 : TValue} {k_rec_37 : TValue → Option Int}  (Kb8 : (Int) → Option Int) (hend : ∀ (n8 : Nat) (s3_9 : Int) (s4_10 : Nat), Z25_j3   s3_9 = Kb8 s3_9) : ∀ (n8 : Nat) (s3_9 : Int) (s4_10 : Nat), (0 < n8 ∧ a0.FItems.l.length < s4_10 + n8) → Z25_l8 a0 k_rec_37 n8 s3_9 s4_10 = Option.bind (Z25_q8 k_rec_37 (a0.FItems.l.drop s4_10) s3_9) Kb8 := by
 intro n8
 induction n8 with
 | zero => intro s3_9 s4_10 hn; exact absurd hn.1 (by omega)
 | succ n8 ih8 =>
  intro s3_9 s4_10 hn
  rw [Z25_l8]
  by_cases hlt : s4_10 < a0.FItems.l.length
  ·obtain ⟨h8, hh8⟩ : ∃ x, a0.FItems.l[s4_10]? = some x := ⟨_, List.getElem?_eq_getElem hlt⟩
   rw [Q.drop_of hh8, Z25_q8]
   refine Q.condT (Q.ltT hlt) ?_
   refine Q.bindPO hh8 fun x16 hx_x16 => ?_
   refine Q.bindO rfl fun x17 => ?_
   all_goals exact ih8 _ _ ⟨by omega, by omega⟩
  rw [List.drop_of_length_le (by omega), Z25_q8]
  refine Q.condF (Q.ltF hlt) ?_
  exact hend n8 s3_9 s4_10
def Z25_qn : Nat → TValue → Option Int
 | 0, _ => none
 | n + 1, a0 => Option.bind (Z25_q8 (Z25_qn n) a0.FItems.l (0 : Int)) fun s3_9 => on (s3_9) fun s3_4 => (addC s3_4 (1 : Int)).bind fun x6 => some x6
theorem Z25_qall : ∀ n : Nat, Z25_n n = Z25_qn n := by
 intro n
 induction n with
 | zero => exact (by funext a0; first | rfl | (rw [Z25_n, Z25_qn]))
 | succ n ih =>
  funext a0
  refine Eq.trans ?_ (Q.some_bind _)
  rw [Z25_n, Z25_qn]
  try rw [ih]
  refine Q.wrapOO fun Kb8 hKb8 => ?_
  refine Z25_l8_qe  Kb8 ?_ _ _ _ ⟨Nat.succ_pos _, by omega⟩
  intro n8 s3_9 s4_10
  refine Eq.trans ?_ (hKb8 _).symm
  refine Q.wrapPO fun Kj3 hKj3 => ?_
  have hj3 : ∀ (s3_4 : Int), Z25_j3  s3_4 = Kj3 s3_4 := by
   intro s3_4
   refine Eq.trans ?_ (hKj3 _).symm
   unfold Z25_j3
   refine Q.bindO rfl fun x6 => ?_
   all_goals rfl
  all_goals exact hj3 _
def Z25_q (a0 : TValue) : Option Int := Z25_qn F0 a0
theorem Z25_eq (a0 : TValue) : Z25 a0 = Z25_q a0 := by
 unfold Z25 Z25_q; rw [(Z25_qall F0)]
def Z24_q (a0 : Int) : Bool := ((((decide ((65 : Int) ≤ a0)) && (decide (a0 ≤ (90 : Int)))) || ((decide ((97 : Int) ≤ a0)) && (decide (a0 ≤ (122 : Int))))) || (decide (a0 = (95 : Int))))
theorem Z24_eq (a0 : Int) : Z24 a0 = some (Z24_q a0) := by
 unfold Z24 Z24_q
 all_goals rfl
def Z22_q (a0 : Int) : Bool := ((decide ((48 : Int) ≤ a0)) && (decide (a0 ≤ (57 : Int))))
theorem Z22_eq (a0 : Int) : Z22 a0 = some (Z22_q a0) := by
 unfold Z22 Z22_q
 all_goals rfl
def Z21_q10  : List UInt8 → Nat → Unit ⊕ Bool
 | [], s3_11 => Sum.inl ()
 | h10 :: r10, s3_11 => on (h10) fun x18 => on (Z24_q ((x18.toNat : Nat) : Int)) fun x19 => on (bif ((!x19) && !(decide (((s3_11 : Nat) : Int) = (0 : Int)))) then h10 else (0 : UInt8)) fun x20 => on (bif ((!x19) && !(decide (((s3_11 : Nat) : Int) = (0 : Int)))) then Z22_q ((x20.toNat : Nat) : Int) else false) fun x21 => bif ((!x19) && ((decide (((s3_11 : Nat) : Int) = (0 : Int))) || (!x21))) then (Sum.inr false) else (Z21_q10  (r10) (s3_11 + 1) )
theorem Z21_l10_qe {a0 : Bs}  (Kb10 : (Unit ⊕ Bool) → Option Bool) (hend : ∀ (n10 : Nat) (s3_11 : Nat), Z21_j7    = Kb10 (Sum.inl ())) (hret : ∀ e : Bool, some e = Kb10 (Sum.inr e)) : ∀ (n10 : Nat) (s3_11 : Nat), (0 < n10 ∧ a0.length < s3_11 + n10) → Z21_l10 a0 n10 s3_11 = Kb10 (Z21_q10  (a0.drop s3_11) s3_11 ) := by
 intro n10
 induction n10 with
 | zero => intro s3_11 hn; exact absurd hn.1 (by omega)
 | succ n10 ih10 =>
  intro s3_11 hn
  rw [Z21_l10]
  by_cases hlt : s3_11 < a0.length
  ·obtain ⟨h10, hh10⟩ : ∃ x, a0[s3_11]? = some x := ⟨_, List.getElem?_eq_getElem hlt⟩
   rw [Q.drop_of hh10, Z21_q10]
   refine Q.condT (Q.ltT hlt) ?_
   refine Q.bindP hh10 fun x18 hx_x18 => ?_
   refine Q.bindP (Z24_eq _) fun x19 hx_x19 => ?_
   refine Q.guardP hh10 fun x20 hx_x20 => ?_
   refine Q.guardP (Z22_eq _) fun x21 hx_x21 => ?_
   refine Q.condP ?_ ?_
   ·all_goals exact hret _
   all_goals exact ih10 _ ⟨by omega, by omega⟩
  rw [List.drop_of_length_le (by omega), Z21_q10]
  refine Q.condF (Q.ltF hlt) ?_
  exact hend n10 s3_11
def Z21_q (a0 : Bs) : Bool := bif ((decide (((a0.length : Nat) : Int) < (1 : Int))) || (decide ((64 : Int) < ((a0.length : Nat) : Int)))) then (false) else (on (Z21_q10  a0 0 ) fun o10 => match o10 with | Sum.inl _ => (on (()) fun _ => true) | Sum.inr e10 => (e10))
theorem Z21_eq (a0 : Bs) : Z21 a0 = some (Z21_q a0) := by
 unfold Z21 Z21_q
 refine Q.condP ?_ ?_
 ·all_goals rfl
 refine Q.wrapPP fun Kb10 hKb10 => ?_
 refine Z21_l10_qe  Kb10 ?_ ?_ _ _ ⟨Nat.succ_pos _, by omega⟩
 ·intro n10 s3_11
  refine Eq.trans ?_ (hKb10 _).symm
  try dsimp only
  refine Q.wrapPP fun Kj7 hKj7 => ?_
  have hj7 : Z21_j7   = Kj7 () := by
   refine Eq.trans ?_ (hKj7 _).symm
   unfold Z21_j7
   all_goals rfl
  all_goals exact hj7
 intro e10
 refine Eq.trans ?_ (hKb10 _).symm
 try dsimp only
 all_goals rfl
def Z32_q13 (a0 : (Sl Bs)) (h5 : Bs) : Nat → Nat → Option (Unit ⊕ Bool)
 | 0, s4_14 => some (Sum.inl ())
 | r13 + 1, s4_14 => on (h5) fun x20 => (a0.l[s4_14]?).bind fun x21 => bif ((x20 == x21)) then (some (Sum.inr true)) else (Z32_q13 a0 h5 (r13) (s4_14 + 1) )
theorem Z32_l13_qe {a0 : (Sl Bs)} {s3_6 : Nat} {k_next_5 : Nat → Option Bool} {h5 : Bs} (hh5 : a0.l[s3_6]? = some h5) (Kb13 : (Unit ⊕ Bool) → Option Bool) (hend : ∀ (n13 : Nat) (s4_14 : Nat), Z32_j11 s3_6 k_next_5  = Kb13 (Sum.inl ())) (hret : ∀ e : Bool, some e = Kb13 (Sum.inr e)) : ∀ (n13 : Nat) (s4_14 : Nat), (0 < n13 ∧ s3_6 < s4_14 + n13) → Z32_l13 a0 s3_6 k_next_5 n13 s4_14 = Option.bind (Z32_q13 a0 h5 (s3_6 - s4_14) s4_14 ) Kb13 := by
 intro n13
 induction n13 with
 | zero => intro s4_14 hn; exact absurd hn.1 (by omega)
 | succ n13 ih13 =>
  intro s4_14 hn
  rw [Z32_l13]
  by_cases hlt : s4_14 < s3_6
  ·rw [show s3_6 - s4_14 = (s3_6 - (s4_14 + 1)) + 1 by omega, Z32_q13]
   refine Q.condT (Q.ltT hlt) ?_
   refine Q.bindPO hh5 fun x20 hx_x20 => ?_
   refine Q.bindO rfl fun x21 => ?_
   refine Q.condO ?_ ?_
   ·all_goals exact hret _
   all_goals exact ih13 _ ⟨by omega, by omega⟩
  rw [show s3_6 - s4_14 = 0 by omega, Z32_q13]
  refine Q.condF (Q.ltF hlt) ?_
  exact hend n13 s4_14
def Z32_q5 (a0 : (Sl Bs)) : List Bs → Nat → Option (Unit ⊕ Bool)
 | [], s3_6 => some (Sum.inl ())
 | h5 :: r5, s3_6 => Option.bind (Z32_q13 a0 h5 s3_6 0 ) fun o13 => match o13 with | Sum.inl _ => (on (()) fun _ => Z32_q5 a0 (r5) (s3_6 + 1) ) | Sum.inr e13 => (some (Sum.inr e13))
theorem Z32_l5_qe {a0 : (Sl Bs)}  (Kb5 : (Unit ⊕ Bool) → Option Bool) (hend : ∀ (n5 : Nat) (s3_6 : Nat), Z32_j2    = Kb5 (Sum.inl ())) (hret : ∀ e : Bool, some e = Kb5 (Sum.inr e)) : ∀ (n5 : Nat) (s3_6 : Nat), (0 < n5 ∧ a0.l.length < s3_6 + n5) → Z32_l5 a0 n5 s3_6 = Option.bind (Z32_q5 a0 (a0.l.drop s3_6) s3_6 ) Kb5 := by
 intro n5
 induction n5 with
 | zero => intro s3_6 hn; exact absurd hn.1 (by omega)
 | succ n5 ih5 =>
  intro s3_6 hn
  rw [Z32_l5]
  by_cases hlt : s3_6 < a0.l.length
  ·obtain ⟨h5, hh5⟩ : ∃ x, a0.l[s3_6]? = some x := ⟨_, List.getElem?_eq_getElem hlt⟩
   rw [Q.drop_of hh5, Z32_q5]
   refine Q.condT (Q.ltT hlt) ?_
   refine Q.wrapOO fun Kb13 hKb13 => ?_
   refine Z32_l13_qe hh5 Kb13 ?_ ?_ _ _ ⟨Nat.succ_pos _, by omega⟩
   ·intro n13 s4_14
    refine Eq.trans ?_ (hKb13 _).symm
    try dsimp only
    refine Q.wrapPO fun Kj11 hKj11 => ?_
    have hj11 : Z32_j11 s3_6 (Z32_l5 a0 n5)  = Kj11 () := by
     refine Eq.trans ?_ (hKj11 _).symm
     unfold Z32_j11
     all_goals exact ih5 _ ⟨by omega, by omega⟩
    all_goals exact hj11
   intro e13
   refine Eq.trans ?_ (hKb13 _).symm
   try dsimp only
   all_goals exact hret _
  rw [List.drop_of_length_le (by omega), Z32_q5]
  refine Q.condF (Q.ltF hlt) ?_
  exact hend n5 s3_6
def Z32_q (a0 : (Sl Bs)) : Option Bool := Option.bind (Z32_q5 a0 a0.l 0 ) fun o5 => match o5 with | Sum.inl _ => (on (()) fun _ => some false) | Sum.inr e5 => (some e5)
theorem Z32_eq (a0 : (Sl Bs)) : Z32 a0 = Z32_q a0 := by
 unfold Z32 Z32_q
 refine Eq.trans ?_ (Q.some_bind _)
 refine Q.wrapOO fun Kb5 hKb5 => ?_
 refine Z32_l5_qe  Kb5 ?_ ?_ _ _ ⟨Nat.succ_pos _, by omega⟩
 ·intro n5 s3_6
  refine Eq.trans ?_ (hKb5 _).symm
  try dsimp only
  refine Q.wrapPO fun Kj2 hKj2 => ?_
  have hj2 : Z32_j2   = Kj2 () := by
   refine Eq.trans ?_ (hKj2 _).symm
   unfold Z32_j2
   all_goals rfl
  all_goals exact hj2
 intro e5
 refine Eq.trans ?_ (hKb5 _).symm
 try dsimp only
 all_goals rfl
def Z31_q (a0 : TValue) (a1 : Bool) : Option Bool := bif (decide (a0.FKind = (0 : Int))) then (some ((((decide (a0.FInt = (0 : Int))) && ((a0.FText == ([] : Bs)))) && (decide (((a0.FItems.l.length : Nat) : Int) = (0 : Int)))) && (decide (((a0.FKeys.l.length : Nat) : Int) = (0 : Int))))) else (bif (decide (a0.FKind = (1 : Int))) then (some (((((decide (a0.FInt = (0 : Int))) || (decide (a0.FInt = (1 : Int)))) && ((a0.FText == ([] : Bs)))) && (decide (((a0.FItems.l.length : Nat) : Int) = (0 : Int)))) && (decide (((a0.FKeys.l.length : Nat) : Int) = (0 : Int))))) else (bif (decide (a0.FKind = (2 : Int))) then (some ((((a0.FText == ([] : Bs))) && (decide (((a0.FItems.l.length : Nat) : Int) = (0 : Int)))) && (decide (((a0.FKeys.l.length : Nat) : Int) = (0 : Int))))) else (bif (decide (a0.FKind = (3 : Int))) then (some (((decide (a0.FInt = (0 : Int))) && (decide (((a0.FItems.l.length : Nat) : Int) = (0 : Int)))) && (decide (((a0.FKeys.l.length : Nat) : Int) = (0 : Int))))) else (bif (decide (a0.FKind = (4 : Int))) then (on (bif (((decide (a0.FInt = (0 : Int))) && (decide (((a0.FItems.l.length : Nat) : Int) = (0 : Int)))) && (decide (((a0.FKeys.l.length : Nat) : Int) = (0 : Int)))) then Z21_q a0.FText else false) fun x19 => some (((((((decide (a0.FInt = (0 : Int))) && (decide (((a0.FItems.l.length : Nat) : Int) = (0 : Int)))) && (decide (((a0.FKeys.l.length : Nat) : Int) = (0 : Int)))) && x19) && (!(a0.FText == ([116, 114, 117, 101] : Bs)))) && (!(a0.FText == ([102, 97, 108, 115, 101] : Bs)))) && (!(a0.FText == ([110, 117, 108, 108] : Bs))))) else (bif (decide (a0.FKind = (5 : Int))) then (some (((decide (a0.FInt = (0 : Int))) && ((a0.FText == ([] : Bs)))) && (decide (((a0.FKeys.l.length : Nat) : Int) = (0 : Int))))) else (bif (decide (a0.FKind = (6 : Int))) then (guardO ((((decide (a0.FInt = (0 : Int))) && ((a0.FText == ([] : Bs)))) && (decide (((a0.FKeys.l.length : Nat) : Int) = ((a0.FItems.l.length : Nat) : Int))))) (Z32_q a0.FKeys) false fun x26 => some ((((decide (a0.FInt = (0 : Int))) && ((a0.FText == ([] : Bs)))) && (decide (((a0.FKeys.l.length : Nat) : Int) = ((a0.FItems.l.length : Nat) : Int)))) && (!x26))) else (bif (decide (a0.FKind = (7 : Int))) then (on (bif (((a1 && (decide (a0.FInt = (0 : Int)))) && (decide (((a0.FItems.l.length : Nat) : Int) = (0 : Int)))) && (decide (((a0.FKeys.l.length : Nat) : Int) = (0 : Int)))) then Z21_q a0.FText else false) fun x30 => some ((((a1 && (decide (a0.FInt = (0 : Int)))) && (decide (((a0.FItems.l.length : Nat) : Int) = (0 : Int)))) && (decide (((a0.FKeys.l.length : Nat) : Int) = (0 : Int)))) && x30)) else (some false))))))))
theorem Z31_eq (a0 : TValue) (a1 : Bool) : Z31 a0 a1 = Z31_q a0 a1 := by
 unfold Z31 Z31_q
 refine Eq.trans ?_ (Q.some_bind _)
 refine Q.condO ?_ ?_
 ·all_goals rfl
 refine Q.condO ?_ ?_
 ·all_goals rfl
 refine Q.condO ?_ ?_
 ·all_goals rfl
 refine Q.condO ?_ ?_
 ·all_goals rfl
 refine Q.condO ?_ ?_
 ·refine Q.guardPO (Z21_eq _) fun x19 hx_x19 => ?_
  all_goals rfl
 refine Q.condO ?_ ?_
 ·all_goals rfl
 refine Q.condO ?_ ?_
 ·refine Q.guardOO (Z32_eq _) fun x26 => ?_
  all_goals rfl
 refine Q.condO ?_ ?_
 ·refine Q.guardPO (Z21_eq _) fun x30 hx_x30 => ?_
  all_goals rfl
 all_goals rfl
def Z33_q24 (a1 : Bool) : List Bs → Unit ⊕ Bool
 | [] => Sum.inl ()
 | h24 :: r24 => on (bif a1 then h24 else ([] : Bs)) fun x32 => on (bif a1 then Z21_q x32 else false) fun x33 => bif (a1 && (!x33)) then (Sum.inr false) else (Z33_q24 a1 (r24) )
theorem Z33_l24_qe {a0 : TValue} {a1 : Bool} {k_rec_38 : TValue → Bool → Option Bool}  (Kb24 : (Unit ⊕ Bool) → Option Bool) (hend : ∀ (n24 : Nat) (s5_25 : Nat), Z33_j7 a0 a1 k_rec_38  = Kb24 (Sum.inl ())) (hret : ∀ e : Bool, some e = Kb24 (Sum.inr e)) : ∀ (n24 : Nat) (s5_25 : Nat), (0 < n24 ∧ a0.FKeys.l.length < s5_25 + n24) → Z33_l24 a0 a1 k_rec_38 n24 s5_25 = Kb24 (Z33_q24 a1 (a0.FKeys.l.drop s5_25) ) := by
 intro n24
 induction n24 with
 | zero => intro s5_25 hn; exact absurd hn.1 (by omega)
 | succ n24 ih24 =>
  intro s5_25 hn
  rw [Z33_l24]
  by_cases hlt : s5_25 < a0.FKeys.l.length
  ·obtain ⟨h24, hh24⟩ : ∃ x, a0.FKeys.l[s5_25]? = some x := ⟨_, List.getElem?_eq_getElem hlt⟩
   rw [Q.drop_of hh24, Z33_q24]
   refine Q.condT (Q.ltT hlt) ?_
   refine Q.guardP hh24 fun x32 hx_x32 => ?_
   refine Q.guardP (Z21_eq _) fun x33 hx_x33 => ?_
   refine Q.condP ?_ ?_
   ·all_goals exact hret _
   all_goals exact ih24 _ ⟨by omega, by omega⟩
  rw [List.drop_of_length_le (by omega), Z33_q24]
  refine Q.condF (Q.ltF hlt) ?_
  exact hend n24 s5_25
def Z33_q11 (a1 : Bool) (k_rec_38 : TValue → Bool → Option Bool) : List TValue → Option (Unit ⊕ Bool)
 | [] => some (Sum.inl ())
 | h11 :: r11 => on (h11) fun x19 => (k_rec_38 x19 a1).bind fun x20 => bif (!x20) then (some (Sum.inr false)) else (Z33_q11 a1 k_rec_38 (r11) )
theorem Z33_l11_qe {a0 : TValue} {a1 : Bool} {k_rec_38 : TValue → Bool → Option Bool}  (Kb11 : (Unit ⊕ Bool) → Option Bool) (hend : ∀ (n11 : Nat) (s6_12 : Nat), Z33_j8    = Kb11 (Sum.inl ())) (hret : ∀ e : Bool, some e = Kb11 (Sum.inr e)) : ∀ (n11 : Nat) (s6_12 : Nat), (0 < n11 ∧ a0.FItems.l.length < s6_12 + n11) → Z33_l11 a0 a1 k_rec_38 n11 s6_12 = Option.bind (Z33_q11 a1 k_rec_38 (a0.FItems.l.drop s6_12) ) Kb11 := by
 intro n11
 induction n11 with
 | zero => intro s6_12 hn; exact absurd hn.1 (by omega)
 | succ n11 ih11 =>
  intro s6_12 hn
  rw [Z33_l11]
  by_cases hlt : s6_12 < a0.FItems.l.length
  ·obtain ⟨h11, hh11⟩ : ∃ x, a0.FItems.l[s6_12]? = some x := ⟨_, List.getElem?_eq_getElem hlt⟩
   rw [Q.drop_of hh11, Z33_q11]
   refine Q.condT (Q.ltT hlt) ?_
   refine Q.bindPO hh11 fun x19 hx_x19 => ?_
   refine Q.bindO rfl fun x20 => ?_
   refine Q.condO ?_ ?_
   ·all_goals exact hret _
   all_goals exact ih11 _ ⟨by omega, by omega⟩
  rw [List.drop_of_length_le (by omega), Z33_q11]
  refine Q.condF (Q.ltF hlt) ?_
  exact hend n11 s6_12
def Z33_qn : Nat → TValue → Bool → Option Bool
 | 0, _, _ => none
 | n + 1, a0, a1 => (Z31_q a0 a1).bind fun x4 => bif (!x4) then (some false) else (on (Z33_q24 a1 a0.FKeys.l ) fun o24 => match o24 with | Sum.inl _ => (on (()) fun _ => Option.bind (Z33_q11 a1 (Z33_qn n) a0.FItems.l ) fun o11 => match o11 with | Sum.inl _ => (on (()) fun _ => some true) | Sum.inr e11 => (some e11)) | Sum.inr e24 => (some e24))
theorem Z33_qall : ∀ n : Nat, Z33_n n = Z33_qn n := by
 intro n
 induction n with
 | zero => exact (by funext a0 a1; first | rfl | (rw [Z33_n, Z33_qn]))
 | succ n ih =>
  funext a0 a1
  refine Eq.trans ?_ (Q.some_bind _)
  rw [Z33_n, Z33_qn]
  try rw [ih]
  refine Q.bindO (Z31_eq _ _) fun x4 => ?_
  refine Q.condO ?_ ?_
  ·all_goals rfl
  refine Q.wrapPO fun Kb24 hKb24 => ?_
  refine Z33_l24_qe  Kb24 ?_ ?_ _ _ ⟨Nat.succ_pos _, by omega⟩
  ·intro n24 s5_25
   refine Eq.trans ?_ (hKb24 _).symm
   try dsimp only
   refine Q.wrapPO fun Kj7 hKj7 => ?_
   have hj7 : Z33_j7 a0 a1 (Z33_qn n)  = Kj7 () := by
    refine Eq.trans ?_ (hKj7 _).symm
    unfold Z33_j7
    refine Q.wrapOO fun Kb11 hKb11 => ?_
    refine Z33_l11_qe  Kb11 ?_ ?_ _ _ ⟨Nat.succ_pos _, by omega⟩
    ·intro n11 s6_12
     refine Eq.trans ?_ (hKb11 _).symm
     try dsimp only
     refine Q.wrapPO fun Kj8 hKj8 => ?_
     have hj8 : Z33_j8   = Kj8 () := by
      refine Eq.trans ?_ (hKj8 _).symm
      unfold Z33_j8
      all_goals rfl
     all_goals exact hj8
    intro e11
    refine Eq.trans ?_ (hKb11 _).symm
    try dsimp only
    all_goals rfl
   all_goals exact hj7
  intro e24
  refine Eq.trans ?_ (hKb24 _).symm
  try dsimp only
  all_goals rfl
def Z33_q (a0 : TValue) (a1 : Bool) : Option Bool := Z33_qn F0 a0 a1
theorem Z33_eq (a0 : TValue) (a1 : Bool) : Z33 a0 a1 = Z33_q a0 a1 := by
 unfold Z33 Z33_q; rw [(Z33_qall F0)]
def Z27_q (a0 : TValue) : Option Bool := (Z29_q a0).bind fun x3 => guardO ((decide (x3 ≤ (4096 : Int)))) (Z25_q a0) (0 : Int) fun x4 => guardO (((decide (x3 ≤ (4096 : Int))) && (decide (x4 ≤ (24 : Int))))) (Z33_q a0 true) false fun x5 => some (((decide (x3 ≤ (4096 : Int))) && (decide (x4 ≤ (24 : Int)))) && x5)
theorem Z27_eq (a0 : TValue) : Z27 a0 = Z27_q a0 := by
 unfold Z27 Z27_q
 refine Eq.trans ?_ (Q.some_bind _)
 refine Q.bindO (Z29_eq _) fun x3 => ?_
 refine Q.guardOO (Z25_eq _) fun x4 => ?_
 refine Q.guardOO (Z33_eq _ _) fun x5 => ?_
 all_goals rfl
def Z51_q19 (a1 : Int) (h7 : TDir) : List TArg → Int → Option (Int)
 | [], s5_20 => some s5_20
 | h19 :: r19, s5_20 => bif (decide (s5_20 ≤ a1)) then ((addC s5_20 (1 : Int)).bind fun x28 => on (h7) fun x29 => on (h19) fun x30 => (Z35_q x30.FValue a1).bind fun x31 => (addC x28 x31).bind fun x32 => Z51_q19 a1 h7 (r19) x32) else (some s5_20)
theorem Z51_l19_qe {a0 : (Sl TDir)} {a1 : Int} {s6_9 : Nat} {k_next_7 : Int → Nat → Option Int} {h7 : TDir} (hh7 : a0.l[s6_9]? = some h7) (Kb19 : (Int) → Option Int) (hend : ∀ (n19 : Nat) (s5_20 : Int) (s7_21 : Nat), Z51_j14 s6_9 k_next_7 s5_20 = Kb19 s5_20) : ∀ (n19 : Nat) (s5_20 : Int) (s7_21 : Nat), (0 < n19 ∧ h7.FArgs.l.length < s7_21 + n19) → Z51_l19 a0 a1 s6_9 k_next_7 n19 s5_20 s7_21 = Option.bind (Z51_q19 a1 h7 (h7.FArgs.l.drop s7_21) s5_20) Kb19 := by
 intro n19
 induction n19 with
 | zero => intro s5_20 s7_21 hn; exact absurd hn.1 (by omega)
 | succ n19 ih19 =>
  intro s5_20 s7_21 hn
  rw [Z51_l19]
  refine Q.preB hh7 fun x24 hx_x24 => ?_
  subst hx_x24
  by_cases hlt : s7_21 < x24.FArgs.l.length
  ·obtain ⟨h19, hh19⟩ : ∃ x, x24.FArgs.l[s7_21]? = some x := ⟨_, List.getElem?_eq_getElem hlt⟩
   rw [Q.drop_of hh19, Z51_q19]
   refine Q.condAT (Q.ltT hlt) ?_
   refine Q.condO ?_ ?_
   ·refine Q.bindO rfl fun x28 => ?_
    refine Q.bindPO hh7 fun x29 hx_x29 => ?_
    refine Q.bindPO (by first | exact hh19 | (simp only [hx_x29]; exact hh19) | (simp only [hx_x29] at hh19 ⊢; exact hh19)) fun x30 hx_x30 => ?_
    refine Q.bindO (Z35_eq _ _) fun x31 => ?_
    refine Q.bindO rfl fun x32 => ?_
    all_goals exact ih19 _ _ ⟨by omega, by omega⟩
   all_goals exact hend n19 s5_20 s7_21
  rw [List.drop_of_length_le (by omega), Z51_q19]
  refine Q.condAF (Q.ltF hlt) ?_
  exact hend n19 s5_20 s7_21
def Z51_q7 (a1 : Int) : List TDir → Int → Option (Int)
 | [], s5_8 => some s5_8
 | h7 :: r7, s5_8 => bif (decide (s5_8 ≤ a1)) then ((addC s5_8 (1 : Int)).bind fun x17 => Option.bind (Z51_q19 a1 h7 h7.FArgs.l x17) fun s5_20 => on (s5_20) fun s5_15 => Z51_q7 a1 (r7) s5_15) else (some s5_8)
theorem Z51_l7_qe {a0 : (Sl TDir)} {a1 : Int}  (Kb7 : (Int) → Option Int) (hend : ∀ (n7 : Nat) (s5_8 : Int) (s6_9 : Nat), Z51_j3   s5_8 = Kb7 s5_8) : ∀ (n7 : Nat) (s5_8 : Int) (s6_9 : Nat), (0 < n7 ∧ a0.l.length < s6_9 + n7) → Z51_l7 a0 a1 n7 s5_8 s6_9 = Option.bind (Z51_q7 a1 (a0.l.drop s6_9) s5_8) Kb7 := by
 intro n7
 induction n7 with
 | zero => intro s5_8 s6_9 hn; exact absurd hn.1 (by omega)
 | succ n7 ih7 =>
  intro s5_8 s6_9 hn
  rw [Z51_l7]
  by_cases hlt : s6_9 < a0.l.length
  ·obtain ⟨h7, hh7⟩ : ∃ x, a0.l[s6_9]? = some x := ⟨_, List.getElem?_eq_getElem hlt⟩
   rw [Q.drop_of hh7, Z51_q7]
   refine Q.condAT (Q.ltT hlt) ?_
   refine Q.condO ?_ ?_
   ·refine Q.bindO rfl fun x17 => ?_
    refine Q.wrapOO fun Kb19 hKb19 => ?_
    refine Z51_l19_qe hh7 Kb19 ?_ _ _ _ ⟨by rw [hh7]; exact Nat.succ_pos _, by rw [hh7]; simp only [Option.elim]; omega⟩
    intro n19 s5_20 s7_21
    refine Eq.trans ?_ (hKb19 _).symm
    refine Q.wrapPO fun Kj14 hKj14 => ?_
    have hj14 : ∀ (s5_15 : Int), Z51_j14 s6_9 (Z51_l7 a0 a1 n7) s5_15 = Kj14 s5_15 := by
     intro s5_15
     refine Eq.trans ?_ (hKj14 _).symm
     unfold Z51_j14
     all_goals exact ih7 _ _ ⟨by omega, by omega⟩
    all_goals exact hj14 _
   all_goals exact hend n7 s5_8 s6_9
  rw [List.drop_of_length_le (by omega), Z51_q7]
  refine Q.condAF (Q.ltF hlt) ?_
  exact hend n7 s5_8 s6_9
def Z51_q (a0 : (Sl TDir)) (a1 : Int) : Option Int := Option.bind (Z51_q7 a1 a0.l (0 : Int)) fun s5_8 => on (s5_8) fun s5_4 => some s5_4
theorem Z51_eq (a0 : (Sl TDir)) (a1 : Int) : Z51 a0 a1 = Z51_q a0 a1 := by
 unfold Z51 Z51_q
 refine Eq.trans ?_ (Q.some_bind _)
 refine Q.wrapOO fun Kb7 hKb7 => ?_
 refine Z51_l7_qe  Kb7 ?_ _ _ _ ⟨Nat.succ_pos _, by omega⟩
 intro n7 s5_8 s6_9
 refine Eq.trans ?_ (hKb7 _).symm
 refine Q.wrapPO fun Kj3 hKj3 => ?_
 have hj3 : ∀ (s5_4 : Int), Z51_j3  s5_4 = Kj3 s5_4 := by
  intro s5_4
  refine Eq.trans ?_ (hKj3 _).symm
  unfold Z51_j3
  all_goals rfl
 all_goals exact hj3 _
def Z52_q7 (a1 : Int) : List TInput → Int → Option (Int)
 | [], s5_8 => some s5_8
 | h7 :: r7, s5_8 => bif (decide (s5_8 ≤ a1)) then ((addC s5_8 (1 : Int)).bind fun x15 => on (h7) fun x16 => (addC x15 ((x16.FType.FWraps.l.length : Nat) : Int)).bind fun x17 => on (h7) fun x18 => (Z35_q x18.FDefault a1).bind fun x19 => (addC x17 x19).bind fun x20 => on (h7) fun x21 => (Z51_q x21.FDirs a1).bind fun x22 => (addC x20 x22).bind fun x23 => Z52_q7 a1 (r7) x23) else (some s5_8)
theorem Z52_l7_qe {a0 : (Sl TInput)} {a1 : Int}  (Kb7 : (Int) → Option Int) (hend : ∀ (n7 : Nat) (s5_8 : Int) (s6_9 : Nat), Z52_j3   s5_8 = Kb7 s5_8) : ∀ (n7 : Nat) (s5_8 : Int) (s6_9 : Nat), (0 < n7 ∧ a0.l.length < s6_9 + n7) → Z52_l7 a0 a1 n7 s5_8 s6_9 = Option.bind (Z52_q7 a1 (a0.l.drop s6_9) s5_8) Kb7 := by
 intro n7
 induction n7 with
 | zero => intro s5_8 s6_9 hn; exact absurd hn.1 (by omega)
 | succ n7 ih7 =>
  intro s5_8 s6_9 hn
  rw [Z52_l7]
  by_cases hlt : s6_9 < a0.l.length
  ·obtain ⟨h7, hh7⟩ : ∃ x, a0.l[s6_9]? = some x := ⟨_, List.getElem?_eq_getElem hlt⟩
   rw [Q.drop_of hh7, Z52_q7]
   refine Q.condAT (Q.ltT hlt) ?_
   refine Q.condO ?_ ?_
   ·refine Q.bindO rfl fun x15 => ?_
    refine Q.bindPO hh7 fun x16 hx_x16 => ?_
    refine Q.bindO rfl fun x17 => ?_
    refine Q.bindPO hh7 fun x18 hx_x18 => ?_
    refine Q.bindO (Z35_eq _ _) fun x19 => ?_
    refine Q.bindO rfl fun x20 => ?_
    refine Q.bindPO hh7 fun x21 hx_x21 => ?_
    refine Q.bindO (Z51_eq _ _) fun x22 => ?_
    refine Q.bindO rfl fun x23 => ?_
    all_goals exact ih7 _ _ ⟨by omega, by omega⟩
   all_goals exact hend n7 s5_8 s6_9
  rw [List.drop_of_length_le (by omega), Z52_q7]
  refine Q.condAF (Q.ltF hlt) ?_
  exact hend n7 s5_8 s6_9
def Z52_q (a0 : (Sl TInput)) (a1 : Int) : Option Int := Option.bind (Z52_q7 a1 a0.l (0 : Int)) fun s5_8 => on (s5_8) fun s5_4 => some s5_4
theorem Z52_eq (a0 : (Sl TInput)) (a1 : Int) : Z52 a0 a1 = Z52_q a0 a1 := by
 unfold Z52 Z52_q
 refine Eq.trans ?_ (Q.some_bind _)
 refine Q.wrapOO fun Kb7 hKb7 => ?_
 refine Z52_l7_qe  Kb7 ?_ _ _ _ ⟨Nat.succ_pos _, by omega⟩
 intro n7 s5_8 s6_9
 refine Eq.trans ?_ (hKb7 _).symm
 refine Q.wrapPO fun Kj3 hKj3 => ?_
 have hj3 : ∀ (s5_4 : Int), Z52_j3  s5_4 = Kj3 s5_4 := by
  intro s5_4
  refine Eq.trans ?_ (hKj3 _).symm
  unfold Z52_j3
  all_goals rfl
 all_goals exact hj3 _
def Z43_q41 (a1 : Int) : List TField → Int → Option (Int)
 | [], s5_42 => some s5_42
 | h41 :: r41, s5_42 => bif (decide (s5_42 ≤ a1)) then ((addC s5_42 (1 : Int)).bind fun x49 => on (h41) fun x50 => (addC x49 ((x50.FType.FWraps.l.length : Nat) : Int)).bind fun x51 => on (h41) fun x52 => (Z52_q x52.FArgs a1).bind fun x53 => (addC x51 x53).bind fun x54 => on (h41) fun x55 => (Z51_q x55.FDirs a1).bind fun x56 => (addC x54 x56).bind fun x57 => Z43_q41 a1 (r41) x57) else (some s5_42)
theorem Z43_l41_qe {a1 : Int} {s6_10 : Nat} {x18 : TDef} {k_next_8 : Int → Nat → Option Int}  (Kb41 : (Int) → Option Int) (hend : ∀ (n41 : Nat) (s5_42 : Int) (s8_43 : Nat), Z43_j25 a1 s6_10 x18 k_next_8 s5_42 = Kb41 s5_42) : ∀ (n41 : Nat) (s5_42 : Int) (s8_43 : Nat), (0 < n41 ∧ x18.FFields.l.length < s8_43 + n41) → Z43_l41 a1 s6_10 x18 k_next_8 n41 s5_42 s8_43 = Option.bind (Z43_q41 a1 (x18.FFields.l.drop s8_43) s5_42) Kb41 := by
 intro n41
 induction n41 with
 | zero => intro s5_42 s8_43 hn; exact absurd hn.1 (by omega)
 | succ n41 ih41 =>
  intro s5_42 s8_43 hn
  rw [Z43_l41]
  by_cases hlt : s8_43 < x18.FFields.l.length
  ·obtain ⟨h41, hh41⟩ : ∃ x, x18.FFields.l[s8_43]? = some x := ⟨_, List.getElem?_eq_getElem hlt⟩
   rw [Q.drop_of hh41, Z43_q41]
   refine Q.condAT (Q.ltT hlt) ?_
   refine Q.condO ?_ ?_
   ·refine Q.bindO rfl fun x49 => ?_
    refine Q.bindPO hh41 fun x50 hx_x50 => ?_
    refine Q.bindO rfl fun x51 => ?_
    refine Q.bindPO hh41 fun x52 hx_x52 => ?_
    refine Q.bindO (Z52_eq _ _) fun x53 => ?_
    refine Q.bindO rfl fun x54 => ?_
    refine Q.bindPO hh41 fun x55 hx_x55 => ?_
    refine Q.bindO (Z51_eq _ _) fun x56 => ?_
    refine Q.bindO rfl fun x57 => ?_
    all_goals exact ih41 _ _ ⟨by omega, by omega⟩
   all_goals exact hend n41 s5_42 s8_43
  rw [List.drop_of_length_le (by omega), Z43_q41]
  refine Q.condAF (Q.ltF hlt) ?_
  exact hend n41 s5_42 s8_43
def Z43_q28 (a1 : Int) : List TMember → Int → Option (Int)
 | [], s5_29 => some s5_29
 | h28 :: r28, s5_29 => bif (decide (s5_29 ≤ a1)) then ((addC s5_29 (1 : Int)).bind fun x36 => on (h28) fun x37 => (Z51_q x37.FDirs a1).bind fun x38 => (addC x36 x38).bind fun x39 => Z43_q28 a1 (r28) x39) else (some s5_29)
theorem Z43_l28_qe {a1 : Int} {s6_10 : Nat} {x18 : TDef} {k_next_8 : Int → Nat → Option Int}  (Kb28 : (Int) → Option Int) (hend : ∀ (n28 : Nat) (s5_29 : Int) (s9_30 : Nat), Z43_j15 s6_10 k_next_8 s5_29 = Kb28 s5_29) : ∀ (n28 : Nat) (s5_29 : Int) (s9_30 : Nat), (0 < n28 ∧ x18.FMembers.l.length < s9_30 + n28) → Z43_l28 a1 s6_10 x18 k_next_8 n28 s5_29 s9_30 = Option.bind (Z43_q28 a1 (x18.FMembers.l.drop s9_30) s5_29) Kb28 := by
 intro n28
 induction n28 with
 | zero => intro s5_29 s9_30 hn; exact absurd hn.1 (by omega)
 | succ n28 ih28 =>
  intro s5_29 s9_30 hn
  rw [Z43_l28]
  by_cases hlt : s9_30 < x18.FMembers.l.length
  ·obtain ⟨h28, hh28⟩ : ∃ x, x18.FMembers.l[s9_30]? = some x := ⟨_, List.getElem?_eq_getElem hlt⟩
   rw [Q.drop_of hh28, Z43_q28]
   refine Q.condAT (Q.ltT hlt) ?_
   refine Q.condO ?_ ?_
   ·refine Q.bindO rfl fun x36 => ?_
    refine Q.bindPO hh28 fun x37 hx_x37 => ?_
    refine Q.bindO (Z51_eq _ _) fun x38 => ?_
    refine Q.bindO rfl fun x39 => ?_
    all_goals exact ih28 _ _ ⟨by omega, by omega⟩
   all_goals exact hend n28 s5_29 s9_30
  rw [List.drop_of_length_le (by omega), Z43_q28]
  refine Q.condAF (Q.ltF hlt) ?_
  exact hend n28 s5_29 s9_30
def Z43_q8 (a1 : Int) : List TDef → Int → Option (Int)
 | [], s5_9 => some s5_9
 | h8 :: r8, s5_9 => bif (decide (s5_9 ≤ a1)) then (on (h8) fun x18 => (addC s5_9 ((x18.FImplements.l.length : Nat) : Int)).bind fun x20 => (Z51_q x18.FDirs a1).bind fun x21 => (addC x20 x21).bind fun x22 => (Z52_q x18.FInputs a1).bind fun x23 => (addC x22 x23).bind fun x24 => Option.bind (Z43_q41 a1 x18.FFields.l x24) fun s5_42 => on (s5_42) fun s5_26 => Option.bind (Z43_q28 a1 x18.FMembers.l s5_26) fun s5_29 => on (s5_29) fun s5_16 => Z43_q8 a1 (r8) s5_16) else (some s5_9)
theorem Z43_l8_qe {a0 : TDoc} {a1 : Int}  (Kb8 : (Int) → Option Int) (hend : ∀ (n8 : Nat) (s5_9 : Int) (s6_10 : Nat), Z43_j4   s5_9 = Kb8 s5_9) : ∀ (n8 : Nat) (s5_9 : Int) (s6_10 : Nat), (0 < n8 ∧ a0.FDefs.l.length < s6_10 + n8) → Z43_l8 a0 a1 n8 s5_9 s6_10 = Option.bind (Z43_q8 a1 (a0.FDefs.l.drop s6_10) s5_9) Kb8 := by
 intro n8
 induction n8 with
 | zero => intro s5_9 s6_10 hn; exact absurd hn.1 (by omega)
 | succ n8 ih8 =>
  intro s5_9 s6_10 hn
  rw [Z43_l8]
  by_cases hlt : s6_10 < a0.FDefs.l.length
  ·obtain ⟨h8, hh8⟩ : ∃ x, a0.FDefs.l[s6_10]? = some x := ⟨_, List.getElem?_eq_getElem hlt⟩
   rw [Q.drop_of hh8, Z43_q8]
   refine Q.condAT (Q.ltT hlt) ?_
   refine Q.condO ?_ ?_
   ·refine Q.bindPO hh8 fun x18 hx_x18 => ?_
    refine Q.bindO rfl fun x20 => ?_
    refine Q.bindO (Z51_eq _ _) fun x21 => ?_
    refine Q.bindO rfl fun x22 => ?_
    refine Q.bindO (Z52_eq _ _) fun x23 => ?_
    refine Q.bindO rfl fun x24 => ?_
    refine Q.wrapOO fun Kb41 hKb41 => ?_
    refine Z43_l41_qe  Kb41 ?_ _ _ _ ⟨Nat.succ_pos _, by omega⟩
    intro n41 s5_42 s8_43
    refine Eq.trans ?_ (hKb41 _).symm
    refine Q.wrapPO fun Kj25 hKj25 => ?_
    have hj25 : ∀ (s5_26 : Int), Z43_j25 a1 s6_10 x18 (Z43_l8 a0 a1 n8) s5_26 = Kj25 s5_26 := by
     intro s5_26
     refine Eq.trans ?_ (hKj25 _).symm
     unfold Z43_j25
     refine Q.wrapOO fun Kb28 hKb28 => ?_
     refine Z43_l28_qe  Kb28 ?_ _ _ _ ⟨Nat.succ_pos _, by omega⟩
     intro n28 s5_29 s9_30
     refine Eq.trans ?_ (hKb28 _).symm
     refine Q.wrapPO fun Kj15 hKj15 => ?_
     have hj15 : ∀ (s5_16 : Int), Z43_j15 s6_10 (Z43_l8 a0 a1 n8) s5_16 = Kj15 s5_16 := by
      intro s5_16
      refine Eq.trans ?_ (hKj15 _).symm
      unfold Z43_j15
      all_goals exact ih8 _ _ ⟨by omega, by omega⟩
     all_goals exact hj15 _
    all_goals exact hj25 _
   all_goals exact hend n8 s5_9 s6_10
  rw [List.drop_of_length_le (by omega), Z43_q8]
  refine Q.condAF (Q.ltF hlt) ?_
  exact hend n8 s5_9 s6_10
def Z43_q (a0 : TDoc) (a1 : Int) : Option Int := Option.bind (Z43_q8 a1 a0.FDefs.l ((a0.FDefs.l.length : Nat) : Int)) fun s5_9 => on (s5_9) fun s5_5 => some s5_5
theorem Z43_eq (a0 : TDoc) (a1 : Int) : Z43 a0 a1 = Z43_q a0 a1 := by
 unfold Z43 Z43_q
 refine Eq.trans ?_ (Q.some_bind _)
 refine Q.wrapOO fun Kb8 hKb8 => ?_
 refine Z43_l8_qe  Kb8 ?_ _ _ _ ⟨Nat.succ_pos _, by omega⟩
 intro n8 s5_9 s6_10
 refine Eq.trans ?_ (hKb8 _).symm
 refine Q.wrapPO fun Kj4 hKj4 => ?_
 have hj4 : ∀ (s5_5 : Int), Z43_j4  s5_5 = Kj4 s5_5 := by
  intro s5_5
  refine Eq.trans ?_ (hKj4 _).symm
  unfold Z43_j4
  all_goals rfl
 all_goals exact hj4 _
def Z44_q5 (k_rec_106 : TValue → Option Bool) : List TValue → Option (Unit ⊕ Bool)
 | [] => some (Sum.inl ())
 | h5 :: r5 => on (h5) fun x13 => (k_rec_106 x13).bind fun x14 => bif (!x14) then (some (Sum.inr false)) else (Z44_q5 k_rec_106 (r5) )
theorem Z44_l5_qe {a0 : TValue} {k_rec_106 : TValue → Option Bool}  (Kb5 : (Unit ⊕ Bool) → Option Bool) (hend : ∀ (n5 : Nat) (s3_6 : Nat), Z44_j2 a0   = Kb5 (Sum.inl ())) (hret : ∀ e : Bool, some e = Kb5 (Sum.inr e)) : ∀ (n5 : Nat) (s3_6 : Nat), (0 < n5 ∧ a0.FItems.l.length < s3_6 + n5) → Z44_l5 a0 k_rec_106 n5 s3_6 = Option.bind (Z44_q5 k_rec_106 (a0.FItems.l.drop s3_6) ) Kb5 := by
 intro n5
 induction n5 with
 | zero => intro s3_6 hn; exact absurd hn.1 (by omega)
 | succ n5 ih5 =>
  intro s3_6 hn
  rw [Z44_l5]
  by_cases hlt : s3_6 < a0.FItems.l.length
  ·obtain ⟨h5, hh5⟩ : ∃ x, a0.FItems.l[s3_6]? = some x := ⟨_, List.getElem?_eq_getElem hlt⟩
   rw [Q.drop_of hh5, Z44_q5]
   refine Q.condT (Q.ltT hlt) ?_
   refine Q.bindPO hh5 fun x13 hx_x13 => ?_
   refine Q.bindO rfl fun x14 => ?_
   refine Q.condO ?_ ?_
   ·all_goals exact hret _
   all_goals exact ih5 _ ⟨by omega, by omega⟩
  rw [List.drop_of_length_le (by omega), Z44_q5]
  refine Q.condF (Q.ltF hlt) ?_
  exact hend n5 s3_6
def Z44_qn : Nat → TValue → Option Bool
 | 0, _ => none
 | n + 1, a0 => Option.bind (Z44_q5 (Z44_qn n) a0.FItems.l ) fun o5 => match o5 with | Sum.inl _ => (on (()) fun _ => some (!decide (a0.FKind = (7 : Int)))) | Sum.inr e5 => (some e5)
theorem Z44_qall : ∀ n : Nat, Z44_n n = Z44_qn n := by
 intro n
 induction n with
 | zero => exact (by funext a0; first | rfl | (rw [Z44_n, Z44_qn]))
 | succ n ih =>
  funext a0
  refine Eq.trans ?_ (Q.some_bind _)
  rw [Z44_n, Z44_qn]
  try rw [ih]
  refine Q.wrapOO fun Kb5 hKb5 => ?_
  refine Z44_l5_qe  Kb5 ?_ ?_ _ _ ⟨Nat.succ_pos _, by omega⟩
  ·intro n5 s3_6
   refine Eq.trans ?_ (hKb5 _).symm
   try dsimp only
   refine Q.wrapPO fun Kj2 hKj2 => ?_
   have hj2 : Z44_j2 a0  = Kj2 () := by
    refine Eq.trans ?_ (hKj2 _).symm
    unfold Z44_j2
    all_goals rfl
   all_goals exact hj2
  intro e5
  refine Eq.trans ?_ (hKb5 _).symm
  try dsimp only
  all_goals rfl
def Z44_q (a0 : TValue) : Option Bool := Z44_qn F0 a0
theorem Z44_eq (a0 : TValue) : Z44 a0 = Z44_q a0 := by
 unfold Z44 Z44_q; rw [(Z44_qall F0)]
def Z46_q25 (h10 : TDir) : List TArg → Option (Unit ⊕ Bool)
 | [] => some (Sum.inl ())
 | h25 :: r25 => on (h10) fun x34 => on (h25) fun x35 => on (Z21_q x35.FName) fun x37 => guardO (!(!x37)) (Z27_q x35.FValue) false fun x38 => guardO (!((!x37) || (!x38))) (Z44_q x35.FValue) false fun x39 => bif (((!x37) || (!x38)) || (!x39)) then (some (Sum.inr false)) else (Z46_q25 h10 (r25) )
theorem Z46_l25_qe {a0 : (Sl TDir)} {s3_11 : Nat} {k_next_10 : Nat → Option Bool} {h10 : TDir} (hh10 : a0.l[s3_11]? = some h10) (Kb25 : (Unit ⊕ Bool) → Option Bool) (hend : ∀ (n25 : Nat) (s4_26 : Nat), Z46_j16 s3_11 k_next_10  = Kb25 (Sum.inl ())) (hret : ∀ e : Bool, some e = Kb25 (Sum.inr e)) : ∀ (n25 : Nat) (s4_26 : Nat), (0 < n25 ∧ h10.FArgs.l.length < s4_26 + n25) → Z46_l25 a0 s3_11 k_next_10 n25 s4_26 = Option.bind (Z46_q25 h10 (h10.FArgs.l.drop s4_26) ) Kb25 := by
 intro n25
 induction n25 with
 | zero => intro s4_26 hn; exact absurd hn.1 (by omega)
 | succ n25 ih25 =>
  intro s4_26 hn
  rw [Z46_l25]
  refine Q.preB hh10 fun x29 hx_x29 => ?_
  subst hx_x29
  by_cases hlt : s4_26 < x29.FArgs.l.length
  ·obtain ⟨h25, hh25⟩ : ∃ x, x29.FArgs.l[s4_26]? = some x := ⟨_, List.getElem?_eq_getElem hlt⟩
   rw [Q.drop_of hh25, Z46_q25]
   refine Q.condT (Q.ltT hlt) ?_
   refine Q.bindPO hh10 fun x34 hx_x34 => ?_
   refine Q.bindPO (by first | exact hh25 | (simp only [hx_x34]; exact hh25) | (simp only [hx_x34] at hh25 ⊢; exact hh25)) fun x35 hx_x35 => ?_
   refine Q.bindPO (Z21_eq _) fun x37 hx_x37 => ?_
   refine Q.guardOO (Z27_eq _) fun x38 => ?_
   refine Q.guardOO (Z44_eq _) fun x39 => ?_
   refine Q.condO ?_ ?_
   ·all_goals exact hret _
   all_goals exact ih25 _ ⟨by omega, by omega⟩
  rw [List.drop_of_length_le (by omega), Z46_q25]
  refine Q.condF (Q.ltF hlt) ?_
  exact hend n25 s4_26
def Z46_q10  : List TDir → Option (Unit ⊕ Bool)
 | [] => some (Sum.inl ())
 | h10 :: r10 => on (h10) fun x19 => on (Z21_q x19.FName) fun x20 => on (bif !(!x20) then h10 else TDir.zero) fun x21 => bif ((!x20) || (decide ((16 : Int) < ((x21.FArgs.l.length : Nat) : Int)))) then (some (Sum.inr false)) else (Option.bind (Z46_q25 h10 h10.FArgs.l ) fun o25 => match o25 with | Sum.inl _ => (on (()) fun _ => Z46_q10  (r10) ) | Sum.inr e25 => (some (Sum.inr e25)))
theorem Z46_l10_qe {a0 : (Sl TDir)}  (Kb10 : (Unit ⊕ Bool) → Option Bool) (hend : ∀ (n10 : Nat) (s3_11 : Nat), Z46_j7    = Kb10 (Sum.inl ())) (hret : ∀ e : Bool, some e = Kb10 (Sum.inr e)) : ∀ (n10 : Nat) (s3_11 : Nat), (0 < n10 ∧ a0.l.length < s3_11 + n10) → Z46_l10 a0 n10 s3_11 = Option.bind (Z46_q10  (a0.l.drop s3_11) ) Kb10 := by
 intro n10
 induction n10 with
 | zero => intro s3_11 hn; exact absurd hn.1 (by omega)
 | succ n10 ih10 =>
  intro s3_11 hn
  rw [Z46_l10]
  by_cases hlt : s3_11 < a0.l.length
  ·obtain ⟨h10, hh10⟩ : ∃ x, a0.l[s3_11]? = some x := ⟨_, List.getElem?_eq_getElem hlt⟩
   rw [Q.drop_of hh10, Z46_q10]
   refine Q.condT (Q.ltT hlt) ?_
   refine Q.bindPO hh10 fun x19 hx_x19 => ?_
   refine Q.bindPO (Z21_eq _) fun x20 hx_x20 => ?_
   refine Q.guardPO hh10 fun x21 hx_x21 => ?_
   refine Q.condO ?_ ?_
   ·all_goals exact hret _
   refine Q.wrapOO fun Kb25 hKb25 => ?_
   refine Z46_l25_qe hh10 Kb25 ?_ ?_ _ _ ⟨by rw [hh10]; exact Nat.succ_pos _, by rw [hh10]; simp only [Option.elim]; omega⟩
   ·intro n25 s4_26
    refine Eq.trans ?_ (hKb25 _).symm
    try dsimp only
    refine Q.wrapPO fun Kj16 hKj16 => ?_
    have hj16 : Z46_j16 s3_11 (Z46_l10 a0 n10)  = Kj16 () := by
     refine Eq.trans ?_ (hKj16 _).symm
     unfold Z46_j16
     all_goals exact ih10 _ ⟨by omega, by omega⟩
    all_goals exact hj16
   intro e25
   refine Eq.trans ?_ (hKb25 _).symm
   try dsimp only
   all_goals exact hret _
  rw [List.drop_of_length_le (by omega), Z46_q10]
  refine Q.condF (Q.ltF hlt) ?_
  exact hend n10 s3_11
def Z46_q (a0 : (Sl TDir)) : Option Bool := bif (decide ((16 : Int) < ((a0.l.length : Nat) : Int))) then (some false) else (Option.bind (Z46_q10  a0.l ) fun o10 => match o10 with | Sum.inl _ => (on (()) fun _ => some true) | Sum.inr e10 => (some e10))
theorem Z46_eq (a0 : (Sl TDir)) : Z46 a0 = Z46_q a0 := by
 unfold Z46 Z46_q
 refine Eq.trans ?_ (Q.some_bind _)
 refine Q.condO ?_ ?_
 ·all_goals rfl
 refine Q.wrapOO fun Kb10 hKb10 => ?_
 refine Z46_l10_qe  Kb10 ?_ ?_ _ _ ⟨Nat.succ_pos _, by omega⟩
 ·intro n10 s3_11
  refine Eq.trans ?_ (hKb10 _).symm
  try dsimp only
  refine Q.wrapPO fun Kj7 hKj7 => ?_
  have hj7 : Z46_j7   = Kj7 () := by
   refine Eq.trans ?_ (hKj7 _).symm
   unfold Z46_j7
   all_goals rfl
  all_goals exact hj7
 intro e10
 refine Eq.trans ?_ (hKb10 _).symm
 try dsimp only
 all_goals rfl
def Z40_q10 (a0 : TRef) : List Int → Nat → Option (Unit ⊕ Bool)
 | [], s3_11 => some (Sum.inl ())
 | h10 :: r10, s3_11 => on (h10) fun x19 => on (bif (!decide (x19 = (1 : Int))) then h10 else (0 : Int)) fun x20 => bif ((!decide (x19 = (1 : Int))) && (!decide (x20 = (2 : Int)))) then (some (Sum.inr false)) else (on (bif (decide ((0 : Int) < ((s3_11 : Nat) : Int))) then h10 else (0 : Int)) fun x24 => guardO (((decide ((0 : Int) < ((s3_11 : Nat) : Int))) && (decide (x24 = (1 : Int))))) (subC ((s3_11 : Nat) : Int) (1 : Int)) (0 : Int) fun x25 => guardO (((decide ((0 : Int) < ((s3_11 : Nat) : Int))) && (decide (x24 = (1 : Int))))) (idxC a0.FWraps.l x25) (0 : Int) fun x26 => bif (((decide ((0 : Int) < ((s3_11 : Nat) : Int))) && (decide (x24 = (1 : Int)))) && (decide (x26 = (1 : Int)))) then (some (Sum.inr false)) else (Z40_q10 a0 (r10) (s3_11 + 1) ))
theorem Z40_l10_qe {a0 : TRef}  (Kb10 : (Unit ⊕ Bool) → Option Bool) (hend : ∀ (n10 : Nat) (s3_11 : Nat), Z40_j7    = Kb10 (Sum.inl ())) (hret : ∀ e : Bool, some e = Kb10 (Sum.inr e)) : ∀ (n10 : Nat) (s3_11 : Nat), (0 < n10 ∧ a0.FWraps.l.length < s3_11 + n10) → Z40_l10 a0 n10 s3_11 = Option.bind (Z40_q10 a0 (a0.FWraps.l.drop s3_11) s3_11 ) Kb10 := by
 intro n10
 induction n10 with
 | zero => intro s3_11 hn; exact absurd hn.1 (by omega)
 | succ n10 ih10 =>
  intro s3_11 hn
  rw [Z40_l10]
  by_cases hlt : s3_11 < a0.FWraps.l.length
  ·obtain ⟨h10, hh10⟩ : ∃ x, a0.FWraps.l[s3_11]? = some x := ⟨_, List.getElem?_eq_getElem hlt⟩
   rw [Q.drop_of hh10, Z40_q10]
   refine Q.condT (Q.ltT hlt) ?_
   refine Q.bindPO hh10 fun x19 hx_x19 => ?_
   refine Q.guardPO hh10 fun x20 hx_x20 => ?_
   refine Q.condO ?_ ?_
   ·all_goals exact hret _
   refine Q.guardPO hh10 fun x24 hx_x24 => ?_
   refine Q.guardOO rfl fun x25 => ?_
   refine Q.guardOO rfl fun x26 => ?_
   refine Q.condO ?_ ?_
   ·all_goals exact hret _
   all_goals exact ih10 _ ⟨by omega, by omega⟩
  rw [List.drop_of_length_le (by omega), Z40_q10]
  refine Q.condF (Q.ltF hlt) ?_
  exact hend n10 s3_11
def Z40_q (a0 : TRef) : Option Bool := on (Z21_q a0.FName) fun x4 => bif ((!x4) || (decide ((24 : Int) < ((a0.FWraps.l.length : Nat) : Int)))) then (some false) else (Option.bind (Z40_q10 a0 a0.FWraps.l 0 ) fun o10 => match o10 with | Sum.inl _ => (on (()) fun _ => some true) | Sum.inr e10 => (some e10))
theorem Z40_eq (a0 : TRef) : Z40 a0 = Z40_q a0 := by
 unfold Z40 Z40_q
 refine Eq.trans ?_ (Q.some_bind _)
 refine Q.bindPO (Z21_eq _) fun x4 hx_x4 => ?_
 refine Q.condO ?_ ?_
 ·all_goals rfl
 refine Q.wrapOO fun Kb10 hKb10 => ?_
 refine Z40_l10_qe  Kb10 ?_ ?_ _ _ ⟨Nat.succ_pos _, by omega⟩
 ·intro n10 s3_11
  refine Eq.trans ?_ (hKb10 _).symm
  try dsimp only
  refine Q.wrapPO fun Kj7 hKj7 => ?_
  have hj7 : Z40_j7   = Kj7 () := by
   refine Eq.trans ?_ (hKj7 _).symm
   unfold Z40_j7
   all_goals rfl
  all_goals exact hj7
 intro e10
 refine Eq.trans ?_ (hKb10 _).symm
 try dsimp only
 all_goals rfl
def Z50_q (a0 : TValue) : Bool := (((((decide (a0.FKind = (0 : Int))) && (decide (a0.FInt = (0 : Int)))) && ((a0.FText == ([] : Bs)))) && (decide (((a0.FItems.l.length : Nat) : Int) = (0 : Int)))) && (decide (((a0.FKeys.l.length : Nat) : Int) = (0 : Int))))
theorem Z50_eq (a0 : TValue) : Z50 a0 = some (Z50_q a0) := by
 unfold Z50 Z50_q
 all_goals rfl
def Z48_q10  : List TInput → Option (Unit ⊕ Bool)
 | [] => some (Sum.inl ())
 | h10 :: r10 => on (h10) fun x18 => on (Z21_q x18.FName) fun x21 => guardO (!(!x21)) (Z40_q x18.FType) false fun x22 => guardO (!((!x21) || (!x22))) (Z46_q x18.FDirs) false fun x23 => bif (((!x21) || (!x22)) || (!x23)) then (some (Sum.inr false)) else (guardO (x18.FHas) (Z27_q x18.FDefault) false fun x27 => guardO ((x18.FHas && !(!x27))) (Z44_q x18.FDefault) false fun x28 => on (bif (!(x18.FHas && ((!x27) || (!x28))) && (!x18.FHas)) then Z50_q x18.FDefault else false) fun x29 => bif ((x18.FHas && ((!x27) || (!x28))) || ((!x18.FHas) && (!x29))) then (some (Sum.inr false)) else (Z48_q10  (r10) ))
theorem Z48_l10_qe {a0 : (Sl TInput)}  (Kb10 : (Unit ⊕ Bool) → Option Bool) (hend : ∀ (n10 : Nat) (s3_11 : Nat), Z48_j7    = Kb10 (Sum.inl ())) (hret : ∀ e : Bool, some e = Kb10 (Sum.inr e)) : ∀ (n10 : Nat) (s3_11 : Nat), (0 < n10 ∧ a0.l.length < s3_11 + n10) → Z48_l10 a0 n10 s3_11 = Option.bind (Z48_q10  (a0.l.drop s3_11) ) Kb10 := by
 intro n10
 induction n10 with
 | zero => intro s3_11 hn; exact absurd hn.1 (by omega)
 | succ n10 ih10 =>
  intro s3_11 hn
  rw [Z48_l10]
  by_cases hlt : s3_11 < a0.l.length
  ·obtain ⟨h10, hh10⟩ : ∃ x, a0.l[s3_11]? = some x := ⟨_, List.getElem?_eq_getElem hlt⟩
   rw [Q.drop_of hh10, Z48_q10]
   refine Q.condT (Q.ltT hlt) ?_
   refine Q.bindPO hh10 fun x18 hx_x18 => ?_
   refine Q.bindPO (Z21_eq _) fun x21 hx_x21 => ?_
   refine Q.guardOO (Z40_eq _) fun x22 => ?_
   refine Q.guardOO (Z46_eq _) fun x23 => ?_
   refine Q.condO ?_ ?_
   ·all_goals exact hret _
   refine Q.guardOO (Z27_eq _) fun x27 => ?_
   refine Q.guardOO (Z44_eq _) fun x28 => ?_
   refine Q.guardPO (Z50_eq _) fun x29 hx_x29 => ?_
   refine Q.condO ?_ ?_
   ·all_goals exact hret _
   all_goals exact ih10 _ ⟨by omega, by omega⟩
  rw [List.drop_of_length_le (by omega), Z48_q10]
  refine Q.condF (Q.ltF hlt) ?_
  exact hend n10 s3_11
def Z48_q (a0 : (Sl TInput)) : Option Bool := bif (decide ((16 : Int) < ((a0.l.length : Nat) : Int))) then (some false) else (Option.bind (Z48_q10  a0.l ) fun o10 => match o10 with | Sum.inl _ => (on (()) fun _ => some true) | Sum.inr e10 => (some e10))
theorem Z48_eq (a0 : (Sl TInput)) : Z48 a0 = Z48_q a0 := by
 unfold Z48 Z48_q
 refine Eq.trans ?_ (Q.some_bind _)
 refine Q.condO ?_ ?_
 ·all_goals rfl
 refine Q.wrapOO fun Kb10 hKb10 => ?_
 refine Z48_l10_qe  Kb10 ?_ ?_ _ _ ⟨Nat.succ_pos _, by omega⟩
 ·intro n10 s3_11
  refine Eq.trans ?_ (hKb10 _).symm
  try dsimp only
  refine Q.wrapPO fun Kj7 hKj7 => ?_
  have hj7 : Z48_j7   = Kj7 () := by
   refine Eq.trans ?_ (hKj7 _).symm
   unfold Z48_j7
   all_goals rfl
  all_goals exact hj7
 intro e10
 refine Eq.trans ?_ (hKb10 _).symm
 try dsimp only
 all_goals rfl
def Z47_q10  : List TField → Option (Unit ⊕ Bool)
 | [] => some (Sum.inl ())
 | h10 :: r10 => on (h10) fun x18 => on (Z21_q x18.FName) fun x19 => on (bif !(!x19) then h10 else TField.zero) fun x20 => guardO (!(!x19)) (Z48_q x20.FArgs) false fun x21 => on (bif !((!x19) || (!x21)) then h10 else TField.zero) fun x22 => guardO (!((!x19) || (!x21))) (Z40_q x22.FType) false fun x23 => on (bif !(((!x19) || (!x21)) || (!x23)) then h10 else TField.zero) fun x24 => guardO (!(((!x19) || (!x21)) || (!x23))) (Z46_q x24.FDirs) false fun x25 => bif ((((!x19) || (!x21)) || (!x23)) || (!x25)) then (some (Sum.inr false)) else (Z47_q10  (r10) )
theorem Z47_l10_qe {a0 : (Sl TField)}  (Kb10 : (Unit ⊕ Bool) → Option Bool) (hend : ∀ (n10 : Nat) (s3_11 : Nat), Z47_j7    = Kb10 (Sum.inl ())) (hret : ∀ e : Bool, some e = Kb10 (Sum.inr e)) : ∀ (n10 : Nat) (s3_11 : Nat), (0 < n10 ∧ a0.l.length < s3_11 + n10) → Z47_l10 a0 n10 s3_11 = Option.bind (Z47_q10  (a0.l.drop s3_11) ) Kb10 := by
 intro n10
 induction n10 with
 | zero => intro s3_11 hn; exact absurd hn.1 (by omega)
 | succ n10 ih10 =>
  intro s3_11 hn
  rw [Z47_l10]
  by_cases hlt : s3_11 < a0.l.length
  ·obtain ⟨h10, hh10⟩ : ∃ x, a0.l[s3_11]? = some x := ⟨_, List.getElem?_eq_getElem hlt⟩
   rw [Q.drop_of hh10, Z47_q10]
   refine Q.condT (Q.ltT hlt) ?_
   refine Q.bindPO hh10 fun x18 hx_x18 => ?_
   refine Q.bindPO (Z21_eq _) fun x19 hx_x19 => ?_
   refine Q.guardPO hh10 fun x20 hx_x20 => ?_
   refine Q.guardOO (Z48_eq _) fun x21 => ?_
   refine Q.guardPO hh10 fun x22 hx_x22 => ?_
   refine Q.guardOO (Z40_eq _) fun x23 => ?_
   refine Q.guardPO hh10 fun x24 hx_x24 => ?_
   refine Q.guardOO (Z46_eq _) fun x25 => ?_
   refine Q.condO ?_ ?_
   ·all_goals exact hret _
   all_goals exact ih10 _ ⟨by omega, by omega⟩
  rw [List.drop_of_length_le (by omega), Z47_q10]
  refine Q.condF (Q.ltF hlt) ?_
  exact hend n10 s3_11
def Z47_q (a0 : (Sl TField)) : Option Bool := bif ((decide (((a0.l.length : Nat) : Int) < (1 : Int))) || (decide ((64 : Int) < ((a0.l.length : Nat) : Int)))) then (some false) else (Option.bind (Z47_q10  a0.l ) fun o10 => match o10 with | Sum.inl _ => (on (()) fun _ => some true) | Sum.inr e10 => (some e10))
theorem Z47_eq (a0 : (Sl TField)) : Z47 a0 = Z47_q a0 := by
 unfold Z47 Z47_q
 refine Eq.trans ?_ (Q.some_bind _)
 refine Q.condO ?_ ?_
 ·all_goals rfl
 refine Q.wrapOO fun Kb10 hKb10 => ?_
 refine Z47_l10_qe  Kb10 ?_ ?_ _ _ ⟨Nat.succ_pos _, by omega⟩
 ·intro n10 s3_11
  refine Eq.trans ?_ (hKb10 _).symm
  try dsimp only
  refine Q.wrapPO fun Kj7 hKj7 => ?_
  have hj7 : Z47_j7   = Kj7 () := by
   refine Eq.trans ?_ (hKj7 _).symm
   unfold Z47_j7
   all_goals rfl
  all_goals exact hj7
 intro e10
 refine Eq.trans ?_ (hKb10 _).symm
 try dsimp only
 all_goals rfl
end Go.Proofs
