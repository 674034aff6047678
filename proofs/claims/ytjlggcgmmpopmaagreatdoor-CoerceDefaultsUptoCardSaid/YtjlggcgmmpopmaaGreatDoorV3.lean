import Derived.Test.YtjlggcgmmpopmaaGreatDoorV2
set_option maxRecDepth 100000
set_option maxHeartbeats 2000000
set_option linter.unusedVariables false
set_option linter.unusedSimpArgs false
namespace Go.Proofs
open Go Go.Ab
open AOps Cert AWp
variable {lou : Lou}
def Z4 (a0 : TDoc) (a1 : TRef) (a2 : TValue) (a3 : TValue) : Option (TValue × Int) := (Z12 (Coerce_coercer.mk a0 a3 true (0 : Int)) a2).bind fun x6 => bif x6 then ((Z70 a0 a1.FName).bind fun x10 => bif (!x10) then (some ((TValue.mk (0 : Int) (0 : Int) ([] : Bs) true ([]) (Sl.nil : Sl Bs)), (10 : Int))) else (some ((TValue.mk (0 : Int) (0 : Int) ([] : Bs) true ([]) (Sl.nil : Sl Bs)), (8 : Int)))) else ((coerce_coercer_at (Coerce_coercer.mk a0 a3 true (0 : Int)) a1 a2 (1 : Int)).bind fun x15 => (Z16 x15.1 x15.2.1).bind fun x16 => some (x16.1, x16.2))
theorem Z4_walk {a0 : TDoc} {a1 : TRef} {a2 : TValue} {a3 : TValue} {oT : Ab.Obj} {gT : Nat} {r : (TValue × Int)} (hE : Z4 a0 a1 a2 a3 = some r) (H : Heap) (hgT : H gT = some oT) (hoT : IsTab Tryz.prog oT) : ACalls Tryz.prog 10 [.agg (TDoc.c a0), .agg (TRef.c a1), .agg (TValue.c a2), .agg (TValue.c a3)] H fun v h' => v = .tup [.agg (TValue.c r.1), .d (.int .i64 r.2)] ∧ h' = H := by
 unfold Z4 at hE
 refine ACalls.of_wp (fn := Tryz.f10) (c := _) Tryz.tab_ok (fun _ _ => Tryz.call10 _ _) Tryz.func10 rfl (n := 34) rfl (rs := [.cell 8 31, .tmp 9]) rfl rfl ?_
 refine seqK fun K1 hK1 => ?_
 refine region ?_
 refine s0 (boxV rfl) rfl ?_
 refine s0 (boxV rfl) rfl ?_
 refine s0 (boxV rfl) rfl ?_
 refine s0 (boxV rfl) rfl ?_
 refine sL (allocLA (TK rfl) rfl) rfl ?_
 refine s0 assignA rfl ?_
 refine nil ?_
 refine hK1 _ ?_
 clear hK1 K1
 refine seqK fun K2 hK2 => ?_
 refine region ?_
 refine s0 (loadV (TK rfl) rfl rfl rfl) rfl ?_
 refine s0 (loadV (TK rfl) rfl rfl rfl) rfl ?_
 refine s0 (build Tryz.tab_ok rfl rfl rfl rfl rfl rfl) rfl ?_
 refine sE (StepE.boxO rfl) rfl (fun _ _ _ ⟨id14_3, hid14_3, e1, e2, e3⟩ => ?_); subst e1 e2 e3
 have ne_id14_3_gT : id14_3 ≠ gT := fun e_ => by subst e_; simp_all
 refine AOps.heq (h' := (H.set id14_3 (some (.cells (Coerce_coercer.c (Coerce_coercer.mk a0 a3 true (0 : Int))))))) (by first | rfl | (rw [Heap.set_set]; rfl) | (funext n_; simp only [Heap.set]; (repeat' split) <;> first | rfl | (exfalso; simp_all; done) | (simp_all; done))) ?_
 refine s0 assignA rfl ?_
 refine nil ?_
 refine hK2 _ ?_
 clear hK2 K2
 refine seqK fun K4 hK4 => ?_
 refine seqK fun K5 hK5 => ?_
 refine region ?_
 refine s0 moveA rfl ?_
 refine s0 (loadV (TK rfl) rfl rfl rfl) rfl ?_
 obtain ⟨x6, gx6, hE⟩ := bindO_some hE
 refine s0 (callR rfl rfl (Z12_walk gx6 _ hpG)) rfl ?_
 refine nil ?_
 refine hK5 _ ?_
 clear hK5 K5
 refine condE hE rfl (fun hc7 hE => ?_) (fun hc7 hE => ?_)
 ·refine seqK fun K8 hK8 => ?_
  refine seqK fun K9 hK9 => ?_
  refine region ?_
  refine s0 (loadV (TK rfl) rfl rfl rfl) rfl ?_
  refine s0 (fieldVA (TK rfl) rfl rfl (TK rfl) rfl rfl) rfl ?_
  refine s0 (loadV (TK rfl) rfl rfl rfl) rfl ?_
  obtain ⟨x10, gx10, hE⟩ := bindO_some hE
  refine s0 (callP rfl rfl (fun H => Z70_walk gx10 H)) rfl ?_
  refine s0 (notB rfl) rfl ?_
  refine nil ?_
  refine hK9 _ ?_
  clear hK9 K9
  refine condE hE rfl (fun hc11 hE => ?_) (fun hc11 hE => ?_)
  ·refine seqK fun K12 hK12 => ?_
   refine region ?_
   refine s0 (build Tryz.tab_ok rfl rfl rfl rfl rfl rfl) rfl ?_
   refine sLn (storeLFA (TK rfl) rfl rfl rfl rfl rfl) ?_
   refine s0 assignA rfl ?_
   refine nil ?_
   refine hK12 _ ?_
   clear hK12 K12
   refine AWp.ret ?_
   repeat (first | refine xBlock_ret ?_ | refine xThen_ret ?_)
   obtain rfl := Option.some.inj hE
   refine retQ.retF H rfl ⟨rfl, rfl⟩ ?_
   first | exact Heap.sub_set hid14_3 | (simp only [Heap.set_set]; exact Heap.sub_set hid14_3)
  refine AWp.skip ?_
  refine hK8 _ ?_
  clear hK8 K8
  refine seqK fun K13 hK13 => ?_
  refine region ?_
  refine s0 (build Tryz.tab_ok rfl rfl rfl rfl rfl rfl) rfl ?_
  refine sLn (storeLFA (TK rfl) rfl rfl rfl rfl rfl) ?_
  refine s0 assignA rfl ?_
  refine nil ?_
  refine hK13 _ ?_
  clear hK13 K13
  refine AWp.ret ?_
  repeat (first | refine xBlock_ret ?_ | refine xThen_ret ?_)
  obtain rfl := Option.some.inj hE
  refine retQ.retF H rfl ⟨rfl, rfl⟩ ?_
  first | exact Heap.sub_set hid14_3 | (simp only [Heap.set_set]; exact Heap.sub_set hid14_3)
 refine AWp.skip ?_
 refine hK4 _ ?_
 clear hK4 K4
 refine seqK fun K14 hK14 => ?_
 refine region ?_
 refine s0 moveA rfl ?_
 refine s0 (loadV (TK rfl) rfl rfl rfl) rfl ?_
 refine s0 (loadV (TK rfl) rfl rfl rfl) rfl ?_
 obtain ⟨x15, gx15, hE⟩ := bindO_some hE
 refine sH (callH rfl rfl (coerce_coercer_at_walk (gT := gT) (oT := oT) gx15 _ hpG hpG (by assumption))) rfl ?_
 refine AOps.heq (h' := (H.set id14_3 (some (.cells (Coerce_coercer.c x15.2.2))))) (by first | rfl | (rw [Heap.set_set]; rfl) | (funext n_; simp only [Heap.set]; (repeat' split) <;> first | rfl | (exfalso; simp_all; done) | (simp_all; done))) ?_
 refine s0 (extract rfl rfl) rfl ?_
 refine s0 (extract rfl rfl) rfl ?_
 obtain ⟨x16, gx16, hE⟩ := bindO_some hE
 refine s0 (callP rfl rfl (fun H => Z16_walk gx16 H)) rfl ?_
 refine s0 (extract rfl rfl) rfl ?_
 refine s0 (extract rfl rfl) rfl ?_
 refine sLn (storeLFA (TK rfl) rfl rfl rfl rfl rfl) ?_
 refine s0 assignA rfl ?_
 refine nil ?_
 refine hK14 _ ?_
 clear hK14 K14
 refine AWp.ret ?_
 repeat (first | refine xBlock_ret ?_ | refine xThen_ret ?_)
 obtain rfl := Option.some.inj hE
 refine retQ.retF H rfl ⟨rfl, rfl⟩ ?_
 first | exact Heap.sub_set hid14_3 | (simp only [Heap.set_set]; exact Heap.sub_set hid14_3)
def Z3 (a0 : TDoc) (a1 : TRef) (a2 : TValue) : Option (TValue × Int) := (coerce_coercer_at (Coerce_coercer.mk a0 TValue.zero false (0 : Int)) a1 a2 (1 : Int)).bind fun x5 => (Z16 x5.1 x5.2.1).bind fun x6 => some (x6.1, x6.2)
theorem Z3_walk {a0 : TDoc} {a1 : TRef} {a2 : TValue} {oT : Ab.Obj} {gT : Nat} {r : (TValue × Int)} (hE : Z3 a0 a1 a2 = some r) (H : Heap) (hgT : H gT = some oT) (hoT : IsTab Tryz.prog oT) : ACalls Tryz.prog 13 [.agg (TDoc.c a0), .agg (TRef.c a1), .agg (TValue.c a2)] H fun v h' => v = .tup [.agg (TValue.c r.1), .d (.int .i64 r.2)] ∧ h' = H := by
 unfold Z3 at hE
 refine ACalls.of_wp (fn := Tryz.f13) (c := _) Tryz.tab_ok (fun _ _ => Tryz.call13 _ _) Tryz.func13 rfl (n := 21) rfl (rs := [.cell 6 31, .tmp 7]) rfl rfl ?_
 refine seqK fun K1 hK1 => ?_
 refine region ?_
 refine s0 (boxV rfl) rfl ?_
 refine s0 (boxV rfl) rfl ?_
 refine s0 (boxV rfl) rfl ?_
 refine sL (allocLA (TK rfl) rfl) rfl ?_
 refine s0 assignA rfl ?_
 refine nil ?_
 refine hK1 _ ?_
 clear hK1 K1
 refine seqK fun K2 hK2 => ?_
 refine region ?_
 refine s0 (loadV (TK rfl) rfl rfl rfl) rfl ?_
 refine s0 (build Tryz.tab_ok rfl rfl rfl rfl rfl rfl) rfl ?_
 refine sE (StepE.boxO rfl) rfl (fun _ _ _ ⟨id11_3, hid11_3, e1, e2, e3⟩ => ?_); subst e1 e2 e3
 have ne_id11_3_gT : id11_3 ≠ gT := fun e_ => by subst e_; simp_all
 refine AOps.heq (h' := (H.set id11_3 (some (.cells (Coerce_coercer.c (Coerce_coercer.mk a0 TValue.zero false (0 : Int))))))) (by first | rfl | (rw [Heap.set_set]; rfl) | (funext n_; simp only [Heap.set]; (repeat' split) <;> first | rfl | (exfalso; simp_all; done) | (simp_all; done))) ?_
 refine s0 assignA rfl ?_
 refine nil ?_
 refine hK2 _ ?_
 clear hK2 K2
 refine seqK fun K4 hK4 => ?_
 refine region ?_
 refine s0 moveA rfl ?_
 refine s0 (loadV (TK rfl) rfl rfl rfl) rfl ?_
 refine s0 (loadV (TK rfl) rfl rfl rfl) rfl ?_
 obtain ⟨x5, gx5, hE⟩ := bindO_some hE
 refine sH (callH rfl rfl (coerce_coercer_at_walk (gT := gT) (oT := oT) gx5 _ hpG hpG (by assumption))) rfl ?_
 refine AOps.heq (h' := (H.set id11_3 (some (.cells (Coerce_coercer.c x5.2.2))))) (by first | rfl | (rw [Heap.set_set]; rfl) | (funext n_; simp only [Heap.set]; (repeat' split) <;> first | rfl | (exfalso; simp_all; done) | (simp_all; done))) ?_
 refine s0 (extract rfl rfl) rfl ?_
 refine s0 (extract rfl rfl) rfl ?_
 obtain ⟨x6, gx6, hE⟩ := bindO_some hE
 refine s0 (callP rfl rfl (fun H => Z16_walk gx6 H)) rfl ?_
 refine s0 (extract rfl rfl) rfl ?_
 refine s0 (extract rfl rfl) rfl ?_
 refine sLn (storeLFA (TK rfl) rfl rfl rfl rfl rfl) ?_
 refine s0 assignA rfl ?_
 refine nil ?_
 refine hK4 _ ?_
 clear hK4 K4
 refine AWp.ret ?_
 repeat (first | refine xBlock_ret ?_ | refine xThen_ret ?_)
 obtain rfl := Option.some.inj hE
 refine retQ.retF H rfl ⟨rfl, rfl⟩ ?_
 first | exact Heap.sub_set hid11_3 | (simp only [Heap.set_set]; exact Heap.sub_set hid11_3)
def Z8_j2  (y3_l0 : TValue) : Option (TValue × Bool) := some ((TValue.mk (0 : Int) (0 : Int) ([] : Bs) true ([]) (Sl.nil : Sl Bs)), false)
def Z8_l7 (a0 : (Sl TArg)) (a1 : Bs)  : Nat → Nat → TValue → Option (TValue × Bool)
 | 0, _, _ => none
 | n7 + 1, s10_8, y9_l0 => bif (decide (((s10_8 : Nat) : Int) < ((a0.l.length : Nat) : Int))) then ((a0.l[s10_8]?).bind fun x15 => bif ((x15.FName == a1)) then (some (x15.FValue, true)) else ((Z8_l7 a0 a1 n7) (s10_8 + 1) y9_l0)) else (Z8_j2   y9_l0)
def Z8 (a0 : (Sl TArg)) (a1 : Bs) : Option (TValue × Bool) := Z8_l7 a0 a1 (a0.l.length + 1) 0 TValue.zero
theorem Z8_walk {a0 : (Sl TArg)} {a1 : Bs} {w0 : Option Nat}  {r : (TValue × Bool)} (hE : Z8 a0 a1 = some r) (H : Heap)  : ACalls Tryz.prog 40 [.d (Sl.d 6 TArg.c w0 a0), .d (.str a1)] H fun v h' => v = .tup [.agg (TValue.c r.1), .d (.bool r.2)] ∧ h' = H := by
 unfold Z8 at hE
 refine ACalls.of_wp (fn := Tryz.f40) (c := _) Tryz.tab_ok (fun _ _ => Tryz.call40 _ _) Tryz.func40 rfl (n := 22) rfl (rs := [.cell 4 31, .tmp 5]) rfl rfl ?_
 refine seqK fun K1 hK1 => ?_
 refine region ?_
 refine sL (allocLA (TK rfl) rfl) rfl ?_
 refine s0 assignA rfl ?_
 refine nil ?_
 refine hK1 _ ?_
 clear hK1 K1
 refine seqJ (KeepsT.A (k := 4) KeepsT.nil) (fun (z : TValue) => []) (fun z => [TValue.c z]) (fun z => H) (fun z => Z8_j2 z = some r) ?_ ?_
 ·intro K2 hK2
  refine seqK fun K5 hK5 => ?_
  refine region ?_
  refine s0 moveA rfl ?_
  refine sLen (f := TArg.c) (s := a0) (TK rfl) rfl rfl rfl rfl fun hL6 => ?_
  refine s0 moveA rfl ?_
  refine nil ?_
  refine hK5 _ ?_
  clear hK5 K5
  refine block ?_
  refine loopO (KeepsT.A (k := 1) (KeepsT.A (k := 4) (KeepsT.A (k := 8) (KeepsT.A (k := 9) KeepsT.nil)))) (fun (z : Nat × Nat × TValue) => [(10, .a (.d (.int .i64 ((z.2.1 : Nat) : Int))))]) (fun z => [TValue.c z.2.2]) (fun z => H) (fun z => z.1) (fun z => Z8_l7 a0 a1 z.1 z.2.1 z.2.2 = some r) ((a0.l.length + 1), 0, TValue.zero) hE Weak.toA ?_
  rintro ⟨n7, s10_8, y9_l0⟩ hE K7 hK7
  try dsimp only at hE
  cases n7 with
  | zero => cases hE
  | succ n7 =>
    rw [Z8_l7] at hE
    refine seqK fun K10 hK10 => ?_
    refine region ?_
    refine s0 (binI rfl rfl rfl) rfl ?_
    refine nil ?_
    refine hK10 _ ?_
    clear hK10 K10
    refine seqK fun K11 hK11 => ?_
    refine condE hE rfl (fun hc12 hE => ?_) (fun hc12 hE => ?_)
    ·try dsimp only at hc12
     have hf12 := of_decide_eq_true hc12
     refine AWp.skip ?_
     refine hK11 _ ?_
     clear hK11 K11
     refine seqK fun K13 hK13 => ?_
     refine block ?_
     refine seqK fun K14 hK14 => ?_
     refine region ?_
     obtain ⟨x15, gx15, hE⟩ := bindO_some hE
     refine s0 (idxMn (f := TArg.c) (n := s10_8) (TK rfl) rfl (TK rfl) rfl rfl rfl gx15) rfl ?_
     refine s0 (loadV (TK rfl) rfl rfl rfl) rfl ?_
     refine sL (allocLA (TK rfl) rfl) rfl ?_
     refine sLn (storeLFA (TK rfl) rfl rfl rfl rfl rfl) ?_
     refine nil ?_
     refine hK14 _ ?_
     clear hK14 K14
     refine freezeA 7 _ rfl (Keeps.c (k := 1) (by conv => lhs; whnf) (by rfl) (Keeps.c (k := 4) (by conv => lhs; whnf) (by rfl) (Keeps.c (k := 8) (by conv => lhs; whnf) (by rfl) (Keeps.c (k := 9) (by conv => lhs; whnf) (by rfl) (Keeps.c (k := 10) (by conv => lhs; whnf) (by rfl) Keeps.nil))))) ?_
     refine seqK fun K16 hK16 => ?_
     refine region ?_
     refine s0 (fieldVA (TK rfl) rfl rfl (TK rfl) rfl rfl) rfl ?_
     refine s0 (loadV (TK rfl) rfl rfl rfl) rfl ?_
     refine s0 moveA rfl ?_
     refine s0 (binS rfl rfl rfl) rfl ?_
     refine nil ?_
     refine hK16 _ ?_
     clear hK16 K16
     refine condE hE rfl (fun hc17 hE => ?_) (fun hc17 hE => ?_)
     ·refine seqK fun K18 hK18 => ?_
      refine region ?_
      refine s0 (fieldVA (TK rfl) rfl rfl (TK rfl) rfl rfl) rfl ?_
      refine s0 (loadV (TK rfl) rfl rfl rfl) rfl ?_
      refine sLn (storeLFA (TK rfl) rfl rfl rfl rfl rfl) ?_
      refine s0 assignA rfl ?_
      refine nil ?_
      refine hK18 _ ?_
      clear hK18 K18
      refine AWp.ret ?_
      repeat (first | refine xBlock_ret ?_ | refine xThen_ret ?_)
      obtain rfl := Option.some.inj hE
      refine retQ.retF H rfl ⟨rfl, rfl⟩ ?_
      exact (fun _ _ h => h)
     refine AWp.skip ?_
     refine hK13 _ ?_
     clear hK13 K13
     refine region ?_
     refine s0 (addIA rfl rfl) rfl ?_
     refine s0 moveA rfl ?_
     refine nil ?_
     exact hK7 _ (n7, (s10_8 + 1), y9_l0) Weak.toA hE (Nat.lt_succ_self _)
    refine AWp.exit ?_
    exact hK2 _ y9_l0 Weak.toA hE
 rintro y3_l0 hE
 try dsimp only at hE
 unfold Z8_j2 at hE
 refine seqK fun K4 hK4 => ?_
 refine region ?_
 refine s0 (build Tryz.tab_ok rfl rfl rfl rfl rfl rfl) rfl ?_
 refine sLn (storeLFA (TK rfl) rfl rfl rfl rfl rfl) ?_
 refine s0 assignA rfl ?_
 refine nil ?_
 refine hK4 _ ?_
 clear hK4 K4
 refine AWp.ret ?_
 repeat (first | refine xBlock_ret ?_ | refine xThen_ret ?_)
 obtain rfl := Option.some.inj hE
 refine retQ.retF H rfl ⟨rfl, rfl⟩ ?_
 exact (fun _ _ h => h)
def Z0_j6  (s17_7 : (Sl TArg)) : Option ((Sl TArg) × Int) := some (s17_7, (0 : Int))
def Z0_j17 (s60_13 : Nat) (k_next_11 : (Sl TArg) → Nat → Option ((Sl TArg) × Int)) (s17_18 : (Sl TArg)) : Option ((Sl TArg) × Int) := k_next_11 s17_18 (s60_13 + 1)
def Z0_j30 (s17_12 : (Sl TArg)) (s60_13 : Nat) (x20 : TInput) (k_next_11 : (Sl TArg) → Nat → Option ((Sl TArg) × Int)) (s24_31 : Int) (y32_l0 : TValue) : Option ((Sl TArg) × Int) := bif (!decide (s24_31 = (0 : Int))) then (some ((Sl.nil : Sl TArg), s24_31)) else ((appC 96 s17_12 (⟨false, [(TArg.mk x20.FName y32_l0)]⟩ : Sl TArg)).bind fun x37 => Z0_j17 s60_13 k_next_11 x37)
def Z0_l11 (a0 : TDoc) (a1 : (Sl TInput)) (a2 : (Sl TArg)) (a3 : TValue)  : Nat → (Sl TArg) → Nat → Option ((Sl TArg) × Int)
 | 0, _, _ => none
 | n11 + 1, s17_12, s60_13 => bif (decide (((s60_13 : Nat) : Int) < ((a1.l.length : Nat) : Int))) then ((a1.l[s60_13]?).bind fun x20 => (partC a1 none (some ((s60_13 : Nat) : Int))).bind fun x23 => (Z69 x23 x20.FName).bind fun x24 => bif x24.2 then (Z0_j17 s60_13 ((Z0_l11 a0 a1 a2 a3 n11)) s17_12) else ((Z8 a2 x20.FName).bind fun x28 => guardO (x28.2) (Z12 (Coerce_coercer.mk a0 a3 true (0 : Int)) x28.1) false fun x39 => bif (x28.2 && (!x39)) then ((Z4 a0 x20.FType x28.1 a3).bind fun x41 => Z0_j30 s17_12 s60_13 x20 ((Z0_l11 a0 a1 a2 a3 n11)) x41.2 x41.1) else (bif x20.FHas then ((Z4 a0 x20.FType x20.FDefault (TValue.mk (0 : Int) (0 : Int) ([] : Bs) true ([]) (Sl.nil : Sl Bs))).bind fun x44 => Z0_j30 s17_12 s60_13 x20 ((Z0_l11 a0 a1 a2 a3 n11)) x44.2 x44.1) else ((Z87 x20.FType).bind fun x46 => bif x46 then (Z0_j30 s17_12 s60_13 x20 ((Z0_l11 a0 a1 a2 a3 n11)) (22 : Int) x28.1) else (Z0_j17 s60_13 ((Z0_l11 a0 a1 a2 a3 n11)) s17_12))))) else (Z0_j6   s17_12)
def Z0_j2 (a0 : TDoc) (a1 : (Sl TInput)) (a2 : (Sl TArg)) (a3 : TValue)   : Option ((Sl TArg) × Int) := Z0_l11 a0 a1 a2 a3 (a1.l.length + 1) (Sl.nil : Sl TArg) 0
def Z0_l50 (a0 : TDoc) (a1 : (Sl TInput)) (a2 : (Sl TArg)) (a3 : TValue)  : Nat → Nat → Option ((Sl TArg) × Int)
 | 0, _ => none
 | n50 + 1, s27_51 => bif (decide (((s27_51 : Nat) : Int) < ((a2.l.length : Nat) : Int))) then ((a2.l[s27_51]?).bind fun x57 => (Z69 a1 x57.FName).bind fun x59 => (partC a2 none (some ((s27_51 : Nat) : Int))).bind fun x61 => (Z8 x61 x57.FName).bind fun x62 => bif ((!x59.2) || x62.2) then (some ((Sl.nil : Sl TArg), (22 : Int))) else ((Z0_l50 a0 a1 a2 a3 n50) (s27_51 + 1))) else (Z0_j2 a0 a1 a2 a3  )
def Z0 (a0 : TDoc) (a1 : (Sl TInput)) (a2 : (Sl TArg)) (a3 : TValue) : Option ((Sl TArg) × Int) := Z0_l50 a0 a1 a2 a3 (a2.l.length + 1) 0
theorem Z0_walk {a0 : TDoc} {a1 : (Sl TInput)} {a2 : (Sl TArg)} {a3 : TValue} {w1 : Option Nat} {w2 : Option Nat} {oT : Ab.Obj} {gT : Nat} {r : ((Sl TArg) × Int)} (hE : Z0 a0 a1 a2 a3 = some r) (H : Heap) (hgT : H gT = some oT) (hoT : IsTab Tryz.prog oT) : ACalls Tryz.prog 18 [.agg (TDoc.c a0), .d (Sl.d 10 TInput.c w1 a1), .d (Sl.d 6 TArg.c w2 a2), .agg (TValue.c a3)] H fun v h' => v = .tup [.d (Sl.d 6 TArg.c none r.1), .d (.int .i64 r.2)] ∧ h' = H := by
 unfold Z0 at hE
 refine ACalls.of_wp (fn := Tryz.f18) (c := _) Tryz.tab_ok (fun _ _ => Tryz.call18 _ _) Tryz.func18 rfl (n := 128) rfl (rs := [.tmp 8, .tmp 9]) rfl rfl ?_
 refine AWp.tok 6 fun tk1 htk1 => ?_
 have ne_tk1_gT : tk1 ≠ gT := fun e_ => by subst e_; simp_all
 refine seqK fun K1 hK1 => ?_
 refine region ?_
 refine s0 (boxV rfl) rfl ?_
 refine s0 (boxV rfl) rfl ?_
 refine s0 (assignNil (k' := 6) rfl) rfl ?_
 refine s0 assignA rfl ?_
 refine nil ?_
 refine hK1 _ ?_
 clear hK1 K1
 refine seqJH (KeepsT.A (k := 1) (KeepsT.A (k := 2) (KeepsT.A (k := 4) (KeepsT.A (k := 7) KeepsT.nil)))) (fun (z : Unit) => []) (fun z => (H.set tk1 (some (.tok 6 0)))) (fun z => Z0_j2 a0 a1 a2 a3  = some r) ?_ ?_
 ·intro K2 hK2
  refine seqK fun K48 hK48 => ?_
  refine region ?_
  refine s0 moveA rfl ?_
  refine sLen (f := TArg.c) (s := a2) (TK rfl) rfl rfl rfl rfl fun hL49 => ?_
  refine s0 moveA rfl ?_
  refine nil ?_
  refine hK48 _ ?_
  clear hK48 K48
  refine block ?_
  refine loopH (KeepsT.A (k := 1) (KeepsT.A (k := 2) (KeepsT.A (k := 4) (KeepsT.A (k := 7) (KeepsT.A (k := 25) (KeepsT.A (k := 26) KeepsT.nil)))))) (fun (z : Nat × Nat) => [(27, .a (.d (.int .i64 ((z.2 : Nat) : Int))))]) (fun z => (H.set tk1 (some (.tok 6 0)))) (fun z => z.1) (fun z => Z0_l50 a0 a1 a2 a3 z.1 z.2 = some r) ((a2.l.length + 1), 0) hE Weak.toA ?_
  rintro ⟨n50, s27_51⟩ hE K50 hK50
  try dsimp only at hE
  cases n50 with
  | zero => cases hE
  | succ n50 =>
    rw [Z0_l50] at hE
    refine seqK fun K52 hK52 => ?_
    refine region ?_
    refine s0 (binI rfl rfl rfl) rfl ?_
    refine nil ?_
    refine hK52 _ ?_
    clear hK52 K52
    refine seqK fun K53 hK53 => ?_
    refine condE hE rfl (fun hc54 hE => ?_) (fun hc54 hE => ?_)
    ·try dsimp only at hc54
     have hf54 := of_decide_eq_true hc54
     refine AWp.skip ?_
     refine hK53 _ ?_
     clear hK53 K53
     refine seqK fun K55 hK55 => ?_
     refine block ?_
     refine seqK fun K56 hK56 => ?_
     refine region ?_
     refine s0 moveA rfl ?_
     obtain ⟨x57, gx57, hE⟩ := bindO_some hE
     refine s0 (idxMn (f := TArg.c) (n := s27_51) (TK rfl) rfl (TK rfl) rfl rfl rfl gx57) rfl ?_
     refine s0 (loadV (TK rfl) rfl rfl rfl) rfl ?_
     refine sL (allocLA (TK rfl) rfl) rfl ?_
     refine s0 assignA rfl ?_
     refine sLn (storeLFA (TK rfl) rfl rfl rfl rfl rfl) ?_
     refine nil ?_
     refine hK56 _ ?_
     clear hK56 K56
     refine freezeA 11 _ rfl (Keeps.c (k := 1) (by conv => lhs; whnf) (by rfl) (Keeps.c (k := 2) (by conv => lhs; whnf) (by rfl) (Keeps.c (k := 4) (by conv => lhs; whnf) (by rfl) (Keeps.c (k := 7) (by conv => lhs; whnf) (by rfl) (Keeps.c (k := 10) (by conv => lhs; whnf) (by rfl) (Keeps.c (k := 25) (by conv => lhs; whnf) (by rfl) (Keeps.c (k := 26) (by conv => lhs; whnf) (by rfl) (Keeps.c (k := 27) (by conv => lhs; whnf) (by rfl) Keeps.nil)))))))) ?_
     refine seqK fun K58 hK58 => ?_
     refine region ?_
     refine s0 moveA rfl ?_
     refine s0 (fieldVA (TK rfl) rfl rfl (TK rfl) rfl rfl) rfl ?_
     refine s0 (loadV (TK rfl) rfl rfl rfl) rfl ?_
     obtain ⟨x59, gx59, hE⟩ := bindO_some hE
     refine s0 (callP rfl rfl (fun H => Z69_walk gx59 H)) rfl ?_
     refine s0 moveA rfl ?_
     refine s0 (extract rfl rfl) rfl ?_
     refine s0 (extract rfl rfl) rfl ?_
     refine sL (allocLA (TK rfl) rfl) rfl ?_
     refine sLn (storeLFA (TK rfl) rfl rfl rfl rfl rfl) ?_
     refine s0 assignA rfl ?_
     refine nil ?_
     refine hK58 _ ?_
     clear hK58 K58
     refine freezeA 12 _ rfl (Keeps.c (k := 1) (by conv => lhs; whnf) (by rfl) (Keeps.c (k := 2) (by conv => lhs; whnf) (by rfl) (Keeps.c (k := 4) (by conv => lhs; whnf) (by rfl) (Keeps.c (k := 7) (by conv => lhs; whnf) (by rfl) (Keeps.c (k := 10) (by conv => lhs; whnf) (by rfl) (Keeps.c (k := 11) (by conv => lhs; whnf) (by rfl) (Keeps.c (k := 13) (by conv => lhs; whnf) (by rfl) (Keeps.c (k := 25) (by conv => lhs; whnf) (by rfl) (Keeps.c (k := 26) (by conv => lhs; whnf) (by rfl) (Keeps.c (k := 27) (by conv => lhs; whnf) (by rfl) Keeps.nil)))))))))) ?_
     refine seqK fun K60 hK60 => ?_
     refine AWp.draw rfl ?_
     refine DOps.s0 moveA rfl ?_
     refine DOps.s0 moveA rfl ?_
     obtain ⟨x61, gx61, hE⟩ := bindO_some hE
     refine DOps.s0 (partM (f := TArg.c) (l := none) (r := (some ((s27_51 : Nat) : Int))) (TK rfl) rfl (TK rfl) rfl rfl trivial rfl gx61) rfl ?_
     refine DOps.s0 (fieldVA (TK rfl) rfl rfl (TK rfl) rfl rfl) rfl ?_
     refine DOps.s0 (loadV (TK rfl) rfl rfl rfl) rfl ?_
     obtain ⟨x62, gx62, hE⟩ := bindO_some hE
     refine DOps.s0 (callP rfl rfl (fun H => Z8_walk gx62 H)) rfl ?_
     refine DOps.s0 moveA rfl ?_
     refine DOps.s0 (extract rfl rfl) rfl ?_
     refine DOps.s0 (extract rfl rfl) rfl ?_
     refine DOps.sB (TK rfl) rfl rfl ?_ (by repeat (first | exact Snoc.nil | apply Snoc.cons))
     refine DOps.sLn (storeLFA (TK rfl) rfl rfl rfl rfl rfl) ?_
     refine DOps.s0 assignA rfl ?_
     refine DOps.nil (by decide +kernel) ?_
     refine hK60 _ ?_
     clear hK60 K60
     refine freezeA 14 _ rfl (Keeps.c (k := 1) (by conv => lhs; whnf) (by rfl) (Keeps.c (k := 2) (by conv => lhs; whnf) (by rfl) (Keeps.c (k := 4) (by conv => lhs; whnf) (by rfl) (Keeps.c (k := 7) (by conv => lhs; whnf) (by rfl) (Keeps.c (k := 13) (by conv => lhs; whnf) (by rfl) (Keeps.c (k := 15) (by conv => lhs; whnf) (by rfl) (Keeps.c (k := 25) (by conv => lhs; whnf) (by rfl) (Keeps.c (k := 26) (by conv => lhs; whnf) (by rfl) (Keeps.c (k := 27) (by conv => lhs; whnf) (by rfl) Keeps.nil))))))))) ?_
     refine seqK fun K63 hK63 => ?_
     refine region ?_
     refine s0 moveA rfl ?_
     refine s0 (notB rfl) rfl ?_
     refine s0 moveA rfl ?_
     refine gC rfl rfl (fun hC => moveA) rfl ?_
     refine s0 (pickOrA rfl rfl rfl) rfl ?_
     refine nil ?_
     refine hK63 _ ?_
     clear hK63 K63
     refine condE hE rfl (fun hc64 hE => ?_) (fun hc64 hE => ?_)
     ·refine seqK fun K65 hK65 => ?_
      refine region ?_
      refine s0 (assignNil (k' := 6) rfl) rfl ?_
      refine s0 assignA rfl ?_
      refine nil ?_
      refine hK65 _ ?_
      clear hK65 K65
      refine AWp.ret ?_
      repeat (first | refine xBlock_ret ?_ | refine xThen_ret ?_)
      obtain rfl := Option.some.inj hE
      refine retQ.retF H rfl ⟨rfl, rfl⟩ ?_
      first | exact Heap.sub_set htk1 | (simp only [Heap.set_set]; exact Heap.sub_set htk1)
     refine AWp.skip ?_
     refine hK55 _ ?_
     clear hK55 K55
     refine region ?_
     refine s0 (addIA rfl rfl) rfl ?_
     refine s0 moveA rfl ?_
     refine nil ?_
     exact hK50 _ (n50, (s27_51 + 1)) Weak.toA hE (Nat.lt_succ_self _)
    refine AWp.exit ?_
    exact hK2 _ () Weak.toA hE
 rintro _ hE
 try dsimp only at hE
 unfold Z0_j2 at hE
 refine seqK fun K3 hK3 => ?_
 refine region ?_
 refine s0 (loadV (TK rfl) rfl rfl rfl) rfl ?_
 refine s0 (loadV (TK rfl) rfl rfl rfl) rfl ?_
 refine s0 (build Tryz.tab_ok rfl rfl rfl rfl rfl rfl) rfl ?_
 refine sE (StepE.boxO rfl) rfl (fun _ _ _ ⟨id57_4, hid57_4, e1, e2, e3⟩ => ?_); subst e1 e2 e3
 obtain ⟨ne_id57_4_tk1, hid57_4⟩ := Heap.set_fresh hid57_4
 have ne_id57_4_gT : id57_4 ≠ gT := fun e_ => by subst e_; simp_all
 refine AOps.heq (h' := ((H.set tk1 (some (.tok 6 0))).set id57_4 (some (.cells (Coerce_coercer.c (Coerce_coercer.mk a0 a3 true (0 : Int))))))) (by first | rfl | (rw [Heap.set_set]; rfl) | (funext n_; simp only [Heap.set]; (repeat' split) <;> first | rfl | (exfalso; simp_all; done) | (simp_all; done))) ?_
 refine s0 assignA rfl ?_
 refine nil ?_
 refine hK3 _ ?_
 clear hK3 K3
 refine seqK fun K5 hK5 => ?_
 refine region ?_
 refine s0 assignA rfl ?_
 refine nil ?_
 refine hK5 _ ?_
 clear hK5 K5
 refine AWp.nilTok 17 6 tk1 rfl hpG ?_
 refine seqJH KeepsT.nil (fun (z : (Sl TArg)) => [(17, .a (.d (Sl.d 6 TArg.c (some tk1) z)))]) (fun z => ((H.set tk1 (some (.tok 6 z.l.length))).set id57_4 (some (.cells (Coerce_coercer.c (Coerce_coercer.mk a0 a3 true (0 : Int))))))) (fun z => Z0_j6 z = some r) ?_ ?_
 ·intro K6 hK6
  refine seqK fun K9 hK9 => ?_
  refine region ?_
  refine s0 moveA rfl ?_
  refine sLen (f := TInput.c) (s := a1) (TK rfl) rfl rfl rfl rfl fun hL10 => ?_
  refine s0 moveA rfl ?_
  refine nil ?_
  refine hK9 _ ?_
  clear hK9 K9
  refine block ?_
  refine loopH (KeepsT.A (k := 1) (KeepsT.A (k := 2) (KeepsT.A (k := 4) (KeepsT.A (k := 7) (KeepsT.A (k := 16) (KeepsT.A (k := 58) (KeepsT.A (k := 59) KeepsT.nil))))))) (fun (z : Nat × (Sl TArg) × Nat) => [(17, .a (.d (Sl.d 6 TArg.c (some tk1) z.2.1))), (60, .a (.d (.int .i64 ((z.2.2 : Nat) : Int))))]) (fun z => ((H.set tk1 (some (.tok 6 z.2.1.l.length))).set id57_4 (some (.cells (Coerce_coercer.c (Coerce_coercer.mk a0 a3 true (0 : Int))))))) (fun z => z.1) (fun z => Z0_l11 a0 a1 a2 a3 z.1 z.2.1 z.2.2 = some r) ((a1.l.length + 1), (Sl.nil : Sl TArg), 0) hE Weak.toA ?_
  rintro ⟨n11, s17_12, s60_13⟩ hE K11 hK11
  try dsimp only at hE
  cases n11 with
  | zero => cases hE
  | succ n11 =>
    rw [Z0_l11] at hE
    refine seqK fun K14 hK14 => ?_
    refine region ?_
    refine s0 (binI rfl rfl rfl) rfl ?_
    refine nil ?_
    refine hK14 _ ?_
    clear hK14 K14
    refine seqK fun K15 hK15 => ?_
    refine condE hE rfl (fun hc16 hE => ?_) (fun hc16 hE => ?_)
    ·try dsimp only at hc16
     have hf16 := of_decide_eq_true hc16
     refine AWp.skip ?_
     refine hK15 _ ?_
     clear hK15 K15
     refine seqJH (KeepsT.A (k := 1) (KeepsT.A (k := 2) (KeepsT.A (k := 4) (KeepsT.A (k := 7) (KeepsT.A (k := 16) (KeepsT.A (k := 58) (KeepsT.A (k := 59) (KeepsT.A (k := 60) KeepsT.nil)))))))) (fun (z : (Sl TArg)) => [(17, .a (.d (Sl.d 6 TArg.c (some tk1) z)))]) (fun z => ((H.set tk1 (some (.tok 6 z.l.length))).set id57_4 (some (.cells (Coerce_coercer.c (Coerce_coercer.mk a0 a3 true (0 : Int))))))) (fun z => Z0_j17 s60_13 ((Z0_l11 a0 a1 a2 a3 n11)) z = some r) ?_ ?_
     ·intro K17 hK17
      refine block ?_
      refine seqK fun K19 hK19 => ?_
      refine region ?_
      refine s0 moveA rfl ?_
      obtain ⟨x20, gx20, hE⟩ := bindO_some hE
      refine s0 (idxMn (f := TInput.c) (n := s60_13) (TK rfl) rfl (TK rfl) rfl rfl rfl gx20) rfl ?_
      refine s0 (loadV (TK rfl) rfl rfl rfl) rfl ?_
      refine sL (allocLA (TK rfl) rfl) rfl ?_
      refine s0 assignA rfl ?_
      refine sLn (storeLFA (TK rfl) rfl rfl rfl rfl rfl) ?_
      refine nil ?_
      refine hK19 _ ?_
      clear hK19 K19
      refine freezeA 19 _ rfl (Keeps.c (k := 1) (by conv => lhs; whnf) (by rfl) (Keeps.c (k := 2) (by conv => lhs; whnf) (by rfl) (Keeps.c (k := 4) (by conv => lhs; whnf) (by rfl) (Keeps.c (k := 7) (by conv => lhs; whnf) (by rfl) (Keeps.c (k := 16) (by conv => lhs; whnf) (by rfl) (Keeps.c (k := 17) (by conv => lhs; whnf) (by rfl) (Keeps.c (k := 18) (by conv => lhs; whnf) (by rfl) (Keeps.c (k := 58) (by conv => lhs; whnf) (by rfl) (Keeps.c (k := 59) (by conv => lhs; whnf) (by rfl) (Keeps.c (k := 60) (by conv => lhs; whnf) (by rfl) Keeps.nil)))))))))) ?_
      refine seqK fun K21 hK21 => ?_
      refine seqK fun K22 hK22 => ?_
      refine AWp.draw rfl ?_
      refine DOps.s0 moveA rfl ?_
      refine DOps.s0 moveA rfl ?_
      obtain ⟨x23, gx23, hE⟩ := bindO_some hE
      refine DOps.s0 (partM (f := TInput.c) (l := none) (r := (some ((s60_13 : Nat) : Int))) (TK rfl) rfl (TK rfl) rfl rfl trivial rfl gx23) rfl ?_
      refine DOps.s0 (fieldVA (TK rfl) rfl rfl (TK rfl) rfl rfl) rfl ?_
      refine DOps.s0 (loadV (TK rfl) rfl rfl rfl) rfl ?_
      obtain ⟨x24, gx24, hE⟩ := bindO_some hE
      refine DOps.s0 (callP rfl rfl (fun H => Z69_walk gx24 H)) rfl ?_
      refine DOps.s0 moveA rfl ?_
      refine DOps.s0 (extract rfl rfl) rfl ?_
      refine DOps.s0 (extract rfl rfl) rfl ?_
      refine DOps.sB (TK rfl) rfl rfl ?_ (by repeat (first | exact Snoc.nil | apply Snoc.cons))
      refine DOps.sLn (storeLFA (TK rfl) rfl rfl rfl rfl rfl) ?_
      refine DOps.s0 assignA rfl ?_
      refine DOps.nil (by decide +kernel) ?_
      refine hK22 _ ?_
      clear hK22 K22
      refine freezeA 20 _ rfl (Keeps.c (k := 1) (by conv => lhs; whnf) (by rfl) (Keeps.c (k := 2) (by conv => lhs; whnf) (by rfl) (Keeps.c (k := 4) (by conv => lhs; whnf) (by rfl) (Keeps.c (k := 7) (by conv => lhs; whnf) (by rfl) (Keeps.c (k := 16) (by conv => lhs; whnf) (by rfl) (Keeps.c (k := 17) (by conv => lhs; whnf) (by rfl) (Keeps.c (k := 19) (by conv => lhs; whnf) (by rfl) (Keeps.c (k := 21) (by conv => lhs; whnf) (by rfl) (Keeps.c (k := 58) (by conv => lhs; whnf) (by rfl) (Keeps.c (k := 59) (by conv => lhs; whnf) (by rfl) (Keeps.c (k := 60) (by conv => lhs; whnf) (by rfl) Keeps.nil))))))))))) ?_
      refine seqK fun K25 hK25 => ?_
      refine region ?_
      refine s0 moveA rfl ?_
      refine nil ?_
      refine hK25 _ ?_
      clear hK25 K25
      refine condE hE rfl (fun hc26 hE => ?_) (fun hc26 hE => ?_)
      ·refine AWp.exit ?_
       exact hK17 _ s17_12 Weak.toA hE
      refine AWp.skip ?_
      refine hK21 _ ?_
      clear hK21 K21
      refine seqK fun K27 hK27 => ?_
      refine region ?_
      refine s0 moveA rfl ?_
      refine s0 (fieldVA (TK rfl) rfl rfl (TK rfl) rfl rfl) rfl ?_
      refine s0 (loadV (TK rfl) rfl rfl rfl) rfl ?_
      obtain ⟨x28, gx28, hE⟩ := bindO_some hE
      refine s0 (callP rfl rfl (fun H => Z8_walk gx28 H)) rfl ?_
      refine s0 moveA rfl ?_
      refine s0 (extract rfl rfl) rfl ?_
      refine s0 (extract rfl rfl) rfl ?_
      refine sL (allocLA (TK rfl) rfl) rfl ?_
      refine sLn (storeLFA (TK rfl) rfl rfl rfl rfl rfl) ?_
      refine s0 assignA rfl ?_
      refine nil ?_
      refine hK27 _ ?_
      clear hK27 K27
      refine seqK fun K29 hK29 => ?_
      refine region ?_
      refine s0 assignA rfl ?_
      refine nil ?_
      refine hK29 _ ?_
      clear hK29 K29
      refine seqJ (KeepsT.A (k := 1) (KeepsT.A (k := 2) (KeepsT.A (k := 4) (KeepsT.A (k := 7) (KeepsT.A (k := 16) (KeepsT.A (k := 17) (KeepsT.A (k := 19) (KeepsT.A (k := 22) (KeepsT.A (k := 58) (KeepsT.A (k := 59) (KeepsT.A (k := 60) KeepsT.nil))))))))))) (fun (z : Int × TValue) => [(24, .a (.d (.int .i64 z.1)))]) (fun z => [TValue.c z.2]) (fun z => ((H.set tk1 (some (.tok 6 s17_12.l.length))).set id57_4 (some (.cells (Coerce_coercer.c (Coerce_coercer.mk a0 a3 true (0 : Int))))))) (fun z => Z0_j30 s17_12 s60_13 x20 ((Z0_l11 a0 a1 a2 a3 n11)) z.1 z.2 = some r) ?_ ?_
      ·intro K30 hK30
       refine block ?_
       refine seqK fun K38 hK38 => ?_
       refine region ?_
       refine s0 moveA rfl ?_
       refine s0 moveA rfl ?_
       refine gC rfl rfl (fun hC => moveA) rfl ?_
       refine gC rfl rfl (fun hC => loadL (TK rfl) rfl rfl rfl rfl) rfl ?_
       obtain ⟨x39, gx39, hE⟩ := guardO_some hE
       refine gC rfl rfl (fun hC => ungdA (k := 85) rfl (ungdA (k := 86) rfl (callR rfl rfl (Z12_walk (gx39 hC) _ hpG)))) rfl ?_
       refine gC rfl rfl (fun hC => ungdA (k := 87) rfl (notB rfl)) rfl ?_
       refine s0 (pickAndA rfl rfl rfl) rfl ?_
       refine s0 assignA rfl ?_
       refine nil ?_
       refine hK38 _ ?_
       clear hK38 K38
       refine condE hE rfl (fun hc40 hE => ?_) (fun hc40 hE => ?_)
       ·refine region ?_
        refine s0 (loadV (TK rfl) rfl rfl rfl) rfl ?_
        refine s0 (fieldVA (TK rfl) rfl rfl (TK rfl) rfl rfl) rfl ?_
        refine s0 (loadV (TK rfl) rfl rfl rfl) rfl ?_
        refine s0 (loadL (TK rfl) rfl rfl rfl rfl) rfl ?_
        refine s0 (loadV (TK rfl) rfl rfl rfl) rfl ?_
        obtain ⟨x41, gx41, hE⟩ := bindO_some hE
        refine s0 (callR rfl rfl (Z4_walk (gT := gT) (oT := oT) gx41 _ hpG (by assumption))) rfl ?_
        refine s0 moveA rfl ?_
        refine s0 (extract rfl rfl) rfl ?_
        refine s0 (extract rfl rfl) rfl ?_
        refine sLn (storeLFA (TK rfl) rfl rfl rfl rfl rfl) ?_
        refine s0 assignA rfl ?_
        refine nil ?_
        exact hK30 _ (x41.2, x41.1) Weak.toA hE
       refine seqK fun K42 hK42 => ?_
       refine region ?_
       refine s0 (fieldVA (TK rfl) rfl rfl (TK rfl) rfl rfl) rfl ?_
       refine s0 (loadV (TK rfl) rfl rfl rfl) rfl ?_
       refine s0 assignA rfl ?_
       refine nil ?_
       refine hK42 _ ?_
       clear hK42 K42
       refine condE hE rfl (fun hc43 hE => ?_) (fun hc43 hE => ?_)
       ·refine region ?_
        refine s0 (loadV (TK rfl) rfl rfl rfl) rfl ?_
        refine s0 (fieldVA (TK rfl) rfl rfl (TK rfl) rfl rfl) rfl ?_
        refine s0 (loadV (TK rfl) rfl rfl rfl) rfl ?_
        refine s0 (fieldVA (TK rfl) rfl rfl (TK rfl) rfl rfl) rfl ?_
        refine s0 (loadV (TK rfl) rfl rfl rfl) rfl ?_
        refine s0 (build Tryz.tab_ok rfl rfl rfl rfl rfl rfl) rfl ?_
        obtain ⟨x44, gx44, hE⟩ := bindO_some hE
        refine s0 (callR rfl rfl (Z4_walk (gT := gT) (oT := oT) gx44 _ hpG (by assumption))) rfl ?_
        refine s0 moveA rfl ?_
        refine s0 (extract rfl rfl) rfl ?_
        refine s0 (extract rfl rfl) rfl ?_
        refine sLn (storeLFA (TK rfl) rfl rfl rfl rfl rfl) ?_
        refine s0 assignA rfl ?_
        refine nil ?_
        exact hK30 _ (x44.2, x44.1) Weak.toA hE
       refine seqK fun K45 hK45 => ?_
       refine region ?_
       refine s0 (fieldVA (TK rfl) rfl rfl (TK rfl) rfl rfl) rfl ?_
       refine s0 (loadV (TK rfl) rfl rfl rfl) rfl ?_
       obtain ⟨x46, gx46, hE⟩ := bindO_some hE
       refine s0 (callP rfl rfl (fun H => Z87_walk gx46 H)) rfl ?_
       refine s0 assignA rfl ?_
       refine nil ?_
       refine hK45 _ ?_
       clear hK45 K45
       refine condE hE rfl (fun hc47 hE => ?_) (fun hc47 hE => ?_)
       ·refine region ?_
        refine s0 assignA rfl ?_
        refine nil ?_
        exact hK30 _ ((22 : Int), x28.1) Weak.toA hE
       refine AWp.exit ?_
       exact hK17 _ s17_12 Weak.toA hE
      rintro ⟨s24_31, y32_l0⟩ hE
      try dsimp only at hE
      unfold Z0_j30 at hE
      refine seqK fun K33 hK33 => ?_
      refine seqK fun K34 hK34 => ?_
      refine region ?_
      refine s0 moveA rfl ?_
      refine s0 (binI rfl rfl rfl) rfl ?_
      refine nil ?_
      refine hK34 _ ?_
      clear hK34 K34
      refine condE hE rfl (fun hc35 hE => ?_) (fun hc35 hE => ?_)
      ·refine seqK fun K36 hK36 => ?_
       refine region ?_
       refine s0 moveA rfl ?_
       refine s0 (assignNil (k' := 6) rfl) rfl ?_
       refine s0 assignA rfl ?_
       refine nil ?_
       refine hK36 _ ?_
       clear hK36 K36
       refine AWp.ret ?_
       repeat (first | refine xBlock_ret ?_ | refine xThen_ret ?_)
       obtain rfl := Option.some.inj hE
       refine retQ.retF H rfl ⟨rfl, rfl⟩ ?_
       intro id_ o_ he_
       have e_tk1 : id_ ≠ tk1 := fun e_ => by subst e_; simp_all [Heap.set]
       have e_id57_4 : id_ ≠ id57_4 := fun e_ => by subst e_; simp_all [Heap.set]
       rw [← he_]
       simp only [Heap.set] at he_ ⊢
       (repeat' split) <;> simp_all
      refine AWp.skip ?_
      refine hK33 _ ?_
      clear hK33 K33
      refine region ?_
      refine s0 moveA rfl ?_
      refine s0 (fieldVA (TK rfl) rfl rfl (TK rfl) rfl rfl) rfl ?_
      refine s0 (loadV (TK rfl) rfl rfl rfl) rfl ?_
      refine s0 (loadL (TK rfl) rfl rfl rfl rfl) rfl ?_
      refine s0 (build Tryz.tab_ok rfl rfl rfl rfl rfl rfl) rfl ?_
      refine s0 (buildSlice (TK rfl) rfl (TK rfl) rfl rfl rfl rfl rfl rfl) rfl ?_
      obtain ⟨x37, gx37, hE⟩ := bindO_some hE
      refine sH (appM (f := TArg.c) (TK rfl) rfl (TK rfl) (TK rfl) ⟨_, rfl⟩ rfl rfl (by decide) rfl rfl rfl rfl hpG rfl gx37) rfl ?_
      refine AOps.heq (h' := ((H.set tk1 (some (.tok 6 x37.l.length))).set id57_4 (some (.cells (Coerce_coercer.c (Coerce_coercer.mk a0 a3 true (0 : Int))))))) (by first | rfl | (rw [Heap.set_set]; rfl) | (funext n_; simp only [Heap.set]; (repeat' split) <;> first | rfl | (exfalso; simp_all; done) | (simp_all; done))) ?_
      refine s0 assignA rfl ?_
      refine nil ?_
      exact hK17 _ x37 Weak.toA hE
     rintro s17_18 hE
     try dsimp only at hE
     unfold Z0_j17 at hE
     refine region ?_
     refine s0 (addIA rfl rfl) rfl ?_
     refine s0 moveA rfl ?_
     refine nil ?_
     exact hK11 _ (n11, s17_18, (s60_13 + 1)) Weak.toA hE (Nat.lt_succ_self _)
    refine AWp.exit ?_
    exact hK6 _ s17_12 Weak.toA hE
 rintro s17_7 hE
 try dsimp only at hE
 unfold Z0_j6 at hE
 refine seqK fun K8 hK8 => ?_
 refine region ?_
 refine s0 moveA rfl ?_
 refine s0 assignA rfl ?_
 refine s0 assignA rfl ?_
 refine nil ?_
 refine hK8 _ ?_
 clear hK8 K8
 refine AWp.dropTok 8 rfl ?_
 refine AWp.ret ?_
 repeat (first | refine xBlock_ret ?_ | refine xThen_ret ?_)
 obtain rfl := Option.some.inj hE
 refine retQ.retF H rfl ⟨rfl, rfl⟩ ?_
 intro id_ o_ he_
 have e_tk1 : id_ ≠ tk1 := fun e_ => by subst e_; simp_all [Heap.set]
 have e_id57_4 : id_ ≠ id57_4 := fun e_ => by subst e_; simp_all [Heap.set]
 rw [← he_]
 simp only [Heap.set] at he_ ⊢
 (repeat' split) <;> simp_all
def Z78_j2   : Option Int := some (-1 : Int)
def Z78_l6 (a0 : (Sl TVar)) (a1 : (TVar → Option Bool))  : Nat → Nat → Option Int
 | 0, _ => none
 | n6 + 1, s8_7 => bif (decide (((s8_7 : Nat) : Int) < ((a0.l.length : Nat) : Int))) then ((a0.l[s8_7]?).bind fun x14 => (a1 x14).bind fun x15 => bif x15 then (some ((s8_7 : Nat) : Int)) else ((Z78_l6 a0 a1 n6) (s8_7 + 1))) else (Z78_j2   )
def Z78 (a0 : (Sl TVar)) (a1 : (TVar → Option Bool)) : Option Int := Z78_l6 a0 a1 (a0.l.length + 1) 0
theorem Z78_walk {a0 : (Sl TVar)} {a1 : (TVar → Option Bool)} {w0 : Option Nat} {cl1 : List D} {k1 : Nat} {r : Int} (hE : Z78 a0 a1 = some r) (H : Heap) (hf1 : ∀ x0 r, a1 x0 = some r → ∀ H, ACalls Tryz.prog k1 ([.agg (TVar.c x0)] ++ cl1.map A.d) H fun v h' => v = .a (.d (.bool r)) ∧ h' = H) : ACalls Tryz.prog 73 [.d (Sl.d 9 TVar.c w0 a0), .d (.func k1 cl1)] H fun v h' => v = .a (.d (.int .i64 r)) ∧ h' = H := by
 unfold Z78 at hE
 refine ACalls.of_wp (fn := Tryz.f73) (c := _) Tryz.tab_ok (fun _ _ => Tryz.call73 _ _) Tryz.func73 rfl (n := 19) rfl (rs := [.tmp 4]) rfl rfl ?_
 refine seqK fun K1 hK1 => ?_
 refine region ?_
 refine s0 assignA rfl ?_
 refine nil ?_
 refine hK1 _ ?_
 clear hK1 K1
 refine seqJH KeepsT.nil (fun (z : Unit) => []) (fun z => H) (fun z => Z78_j2  = some r) ?_ ?_
 ·intro K2 hK2
  refine seqK fun K4 hK4 => ?_
  refine region ?_
  refine s0 moveA rfl ?_
  refine sLen (f := TVar.c) (s := a0) (TK rfl) rfl rfl rfl rfl fun hL5 => ?_
  refine s0 moveA rfl ?_
  refine nil ?_
  refine hK4 _ ?_
  clear hK4 K4
  refine block ?_
  refine loopH (KeepsT.A (k := 0) (KeepsT.A (k := 1) (KeepsT.A (k := 7) KeepsT.nil))) (fun (z : Nat × Nat) => [(8, .a (.d (.int .i64 ((z.2 : Nat) : Int))))]) (fun z => H) (fun z => z.1) (fun z => Z78_l6 a0 a1 z.1 z.2 = some r) ((a0.l.length + 1), 0) hE Weak.toA ?_
  rintro ⟨n6, s8_7⟩ hE K6 hK6
  try dsimp only at hE
  cases n6 with
  | zero => cases hE
  | succ n6 =>
    rw [Z78_l6] at hE
    refine seqK fun K8 hK8 => ?_
    refine region ?_
    refine s0 (binI rfl rfl rfl) rfl ?_
    refine nil ?_
    refine hK8 _ ?_
    clear hK8 K8
    refine seqK fun K9 hK9 => ?_
    refine condE hE rfl (fun hc10 hE => ?_) (fun hc10 hE => ?_)
    ·try dsimp only at hc10
     have hf10 := of_decide_eq_true hc10
     refine AWp.skip ?_
     refine hK9 _ ?_
     clear hK9 K9
     refine seqK fun K11 hK11 => ?_
     refine block ?_
     refine seqK fun K12 hK12 => ?_
     refine region ?_
     refine s0 moveA rfl ?_
     refine s0 assignA rfl ?_
     refine nil ?_
     refine hK12 _ ?_
     clear hK12 K12
     refine seqK fun K13 hK13 => ?_
     refine region ?_
     refine s0 moveA rfl ?_
     refine s0 moveA rfl ?_
     refine s0 moveA rfl ?_
     obtain ⟨x14, gx14, hE⟩ := bindO_some hE
     refine s0 (idxMn (f := TVar.c) (n := s8_7) (TK rfl) rfl (TK rfl) rfl rfl rfl gx14) rfl ?_
     refine s0 (loadV (TK rfl) rfl rfl rfl) rfl ?_
     obtain ⟨x15, gx15, hE⟩ := bindO_some hE
     refine s0 (callP rfl rfl (hf1 _ _ gx15)) rfl ?_
     refine nil ?_
     refine hK13 _ ?_
     clear hK13 K13
     refine condE hE rfl (fun hc16 hE => ?_) (fun hc16 hE => ?_)
     ·refine seqK fun K17 hK17 => ?_
      refine region ?_
      refine s0 moveA rfl ?_
      refine s0 assignA rfl ?_
      refine nil ?_
      refine hK17 _ ?_
      clear hK17 K17
      refine AWp.ret ?_
      repeat (first | refine xBlock_ret ?_ | refine xThen_ret ?_)
      obtain rfl := Option.some.inj hE
      refine retQ.retF H rfl ⟨rfl, rfl⟩ ?_
      exact (fun _ _ h => h)
     refine AWp.skip ?_
     refine hK11 _ ?_
     clear hK11 K11
     refine region ?_
     refine s0 (addIA rfl rfl) rfl ?_
     refine s0 moveA rfl ?_
     refine nil ?_
     exact hK6 _ (n6, (s8_7 + 1)) Weak.toA hE (Nat.lt_succ_self _)
    refine AWp.exit ?_
    exact hK2 _ () Weak.toA hE
 rintro _ hE
 try dsimp only at hE
 unfold Z78_j2 at hE
 refine seqK fun K3 hK3 => ?_
 refine region ?_
 refine s0 assignA rfl ?_
 refine nil ?_
 refine hK3 _ ?_
 clear hK3 K3
 refine AWp.ret ?_
 repeat (first | refine xBlock_ret ?_ | refine xThen_ret ?_)
 obtain rfl := Option.some.inj hE
 refine retQ.retF H rfl ⟨rfl, rfl⟩ ?_
 exact (fun _ _ h => h)
def Z76 (a0 : (Sl TVar)) (a1 : (TVar → Option Bool)) : Option Bool := (Z78 a0 a1).bind fun x3 => some (decide ((0 : Int) ≤ x3))
theorem Z76_walk {a0 : (Sl TVar)} {a1 : (TVar → Option Bool)} {w0 : Option Nat} {cl1 : List D} {k1 : Nat} {r : Bool} (hE : Z76 a0 a1 = some r) (H : Heap) (hf1 : ∀ x0 r, a1 x0 = some r → ∀ H, ACalls Tryz.prog k1 ([.agg (TVar.c x0)] ++ cl1.map A.d) H fun v h' => v = .a (.d (.bool r)) ∧ h' = H) : ACalls Tryz.prog 46 [.d (Sl.d 9 TVar.c w0 a0), .d (.func k1 cl1)] H fun v h' => v = .a (.d (.bool r)) ∧ h' = H := by
 unfold Z76 at hE
 refine ACalls.of_wp (fn := Tryz.f46) (c := _) Tryz.tab_ok (fun _ _ => Tryz.call46 _ _) Tryz.func46 rfl (n := 9) rfl (rs := [.tmp 4]) rfl rfl ?_
 refine seqK fun K1 hK1 => ?_
 refine region ?_
 refine s0 assignA rfl ?_
 refine nil ?_
 refine hK1 _ ?_
 clear hK1 K1
 refine seqK fun K2 hK2 => ?_
 refine region ?_
 refine s0 moveA rfl ?_
 refine s0 moveA rfl ?_
 obtain ⟨x3, gx3, hE⟩ := bindO_some hE
 refine s0 (callP rfl rfl (fun H => Z78_walk gx3 H hf1)) rfl ?_
 refine s0 (binI rfl rfl rfl) rfl ?_
 refine s0 assignA rfl ?_
 refine nil ?_
 refine hK2 _ ?_
 clear hK2 K2
 refine AWp.ret ?_
 repeat (first | refine xBlock_ret ?_ | refine xThen_ret ?_)
 obtain rfl := Option.some.inj hE
 refine retQ.retF H rfl ⟨rfl, rfl⟩ ?_
 exact (fun _ _ h => h)
def Z7 (a0 : TVar) (a1 : TVar) : Option Bool := some ((a0.FName == a1.FName))
theorem Z7_walk {a0 : TVar} {a1 : TVar}   {r : Bool} (hE : Z7 a0 a1 = some r) (H : Heap)  : ACalls Tryz.prog 47 [.agg (TVar.c a0), .d (.view (TVar.c a1))] H fun v h' => v = .a (.d (.bool r)) ∧ h' = H := by
 unfold Z7 at hE
 refine ACalls.of_wp (fn := Tryz.f47) (c := _) Tryz.tab_ok (fun _ _ => Tryz.call47 _ _) Tryz.func47 rfl (n := 9) rfl (rs := [.tmp 3]) rfl rfl ?_
 refine seqK fun K1 hK1 => ?_
 refine region ?_
 refine s0 (boxV rfl) rfl ?_
 refine s0 assignA rfl ?_
 refine nil ?_
 refine hK1 _ ?_
 clear hK1 K1
 refine seqK fun K2 hK2 => ?_
 refine region ?_
 refine s0 (fieldVA (TK rfl) rfl rfl (TK rfl) rfl rfl) rfl ?_
 refine s0 (loadV (TK rfl) rfl rfl rfl) rfl ?_
 refine s0 (fieldVA (TK rfl) rfl rfl (TK rfl) rfl rfl) rfl ?_
 refine s0 (loadV (TK rfl) rfl rfl rfl) rfl ?_
 refine s0 (binS rfl rfl rfl) rfl ?_
 refine s0 assignA rfl ?_
 refine nil ?_
 refine hK2 _ ?_
 clear hK2 K2
 refine AWp.ret ?_
 repeat (first | refine xBlock_ret ?_ | refine xThen_ret ?_)
 obtain rfl := Option.some.inj hE
 refine retQ.retF H rfl ⟨rfl, rfl⟩ ?_
 exact (fun _ _ h => h)
end Go.Proofs

namespace Go.Proofs
open Go Go.Ab
open AOps Cert AWp
variable {lou : Lou}
def Z6_j9  (y10_l0 : TValue) (y11_l1 : TValue) : Option (TValue × Bs × Int) := some (y11_l1, ([] : Bs), (0 : Int))
def Z6_j22 (s27_16 : Nat) (k_next_15 : Nat → TValue → TValue → Option (TValue × Bs × Int)) (y23_l0 : TValue) (y24_l1 : TValue) : Option (TValue × Bs × Int) := k_next_15 (s27_16 + 1) y23_l0 y24_l1
def Z6_j35 (s27_16 : Nat) (y17_l0 : TValue) (y18_l1 : TValue) (x26 : TVar) (k_next_15 : Nat → TValue → TValue → Option (TValue × Bs × Int)) (s14_36 : Int) (y37_l2 : TValue) : Option (TValue × Bs × Int) := bif (!decide (s14_36 = (0 : Int))) then (some ((TValue.mk (0 : Int) (0 : Int) ([] : Bs) true ([]) (Sl.nil : Sl Bs)), x26.FName, s14_36)) else ((appC 16 y18_l1.FKeys (⟨false, [x26.FName]⟩ : Sl Bs)).bind fun x42 => (appC 80 y18_l1.FItems (⟨false, [y37_l2]⟩ : Sl TValue)).bind fun x43 => Z6_j22 s27_16 k_next_15 y17_l0 (TValue.mk y18_l1.FKind y18_l1.FInt y18_l1.FText x43.nl x43.l x42))
def Z6_l15 (a0 : TDoc) (a1 : (Sl TVar)) (a2 : TValue)  : Nat → Nat → TValue → TValue → Option (TValue × Bs × Int)
 | 0, _, _, _ => none
 | n15 + 1, s27_16, y17_l0, y18_l1 => bif (decide (((s27_16 : Nat) : Int) < ((a1.l.length : Nat) : Int))) then ((a1.l[s27_16]?).bind fun x26 => (partC a1 none (some ((s27_16 : Nat) : Int))).bind fun x29 => (Z76 x29 (fun y0 => Z7 y0 x26)).bind fun x30 => bif x30 then (Z6_j22 s27_16 ((Z6_l15 a0 a1 a2 n15)) y17_l0 y18_l1) else ((Z89 a2 x26.FName).bind fun x33 => bif x33.2 then ((Z3 a0 x26.FType x33.1).bind fun x46 => Z6_j35 s27_16 y17_l0 y18_l1 x26 ((Z6_l15 a0 a1 a2 n15)) x46.2 x46.1) else (bif x26.FHas then ((Z4 a0 x26.FType x26.FDefault (TValue.mk (0 : Int) (0 : Int) ([] : Bs) true ([]) (Sl.nil : Sl Bs))).bind fun x49 => Z6_j35 s27_16 y17_l0 y18_l1 x26 ((Z6_l15 a0 a1 a2 n15)) x49.2 x49.1) else ((Z87 x26.FType).bind fun x51 => bif x51 then (Z6_j35 s27_16 y17_l0 y18_l1 x26 ((Z6_l15 a0 a1 a2 n15)) (27 : Int) x33.1) else (Z6_j22 s27_16 ((Z6_l15 a0 a1 a2 n15)) y17_l0 y18_l1))))) else (Z6_j9   y17_l0 y18_l1)
def Z6 (a0 : TDoc) (a1 : (Sl TVar)) (a2 : TValue) : Option (TValue × Bs × Int) := bif ((!decide (a2.FKind = (6 : Int))) && (!decide (a2.FKind = (0 : Int)))) then (some ((TValue.mk (0 : Int) (0 : Int) ([] : Bs) true ([]) (Sl.nil : Sl Bs)), ([] : Bs), (9 : Int))) else (Z6_l15 a0 a1 a2 (a1.l.length + 1) 0 TValue.zero (TValue.mk (6 : Int) (0 : Int) ([] : Bs) true ([]) (Sl.nil : Sl Bs)))
theorem Z6_walk {a0 : TDoc} {a1 : (Sl TVar)} {a2 : TValue} {w1 : Option Nat} {oT : Ab.Obj} {gT : Nat} {r : (TValue × Bs × Int)} (hE : Z6 a0 a1 a2 = some r) (H : Heap) (hgT : H gT = some oT) (hoT : IsTab Tryz.prog oT) : ACalls Tryz.prog 20 [.agg (TDoc.c a0), .d (Sl.d 9 TVar.c w1 a1), .agg (TValue.c a2)] H fun v h' => v = .tup [.agg (TValue.c r.1), .d (.str r.2.1), .d (.int .i64 r.2.2)] ∧ h' = H := by
 unfold Z6 at hE
 refine ACalls.of_wp (fn := Tryz.f20) (c := _) Tryz.tab_ok (fun _ _ => Tryz.call20 _ _) Tryz.func20 rfl (n := 92) rfl (rs := [.cell 6 31, .tmp 7, .tmp 8]) rfl rfl ?_
 refine seqK fun K1 hK1 => ?_
 refine region ?_
 refine s0 (boxV rfl) rfl ?_
 refine s0 (boxV rfl) rfl ?_
 refine sL (allocLA (TK rfl) rfl) rfl ?_
 refine s0 assignA rfl ?_
 refine s0 assignA rfl ?_
 refine nil ?_
 refine hK1 _ ?_
 clear hK1 K1
 refine seqK fun K2 hK2 => ?_
 refine seqK fun K3 hK3 => ?_
 refine region ?_
 refine s0 (fieldVA (TK rfl) rfl rfl (TK rfl) rfl rfl) rfl ?_
 refine s0 (loadV (TK rfl) rfl rfl rfl) rfl ?_
 refine s0 (binI rfl rfl rfl) rfl ?_
 refine s0 moveA rfl ?_
 refine gC rfl rfl (fun hC => fieldVA (TK rfl) rfl rfl (TK rfl) rfl rfl) rfl ?_
 refine gC rfl rfl (fun hC => ungdA (k := 19) rfl (loadV (TK rfl) rfl rfl rfl)) rfl ?_
 refine gC rfl rfl (fun hC => ungdA (k := 20) rfl (binI rfl rfl rfl)) rfl ?_
 refine s0 (pickAndA rfl rfl rfl) rfl ?_
 refine nil ?_
 refine hK3 _ ?_
 clear hK3 K3
 refine condE hE rfl (fun hc4 hE => ?_) (fun hc4 hE => ?_)
 ·refine seqK fun K5 hK5 => ?_
  refine region ?_
  refine s0 (build Tryz.tab_ok rfl rfl rfl rfl rfl rfl) rfl ?_
  refine sLn (storeLFA (TK rfl) rfl rfl rfl rfl rfl) ?_
  refine s0 assignA rfl ?_
  refine s0 assignA rfl ?_
  refine nil ?_
  refine hK5 _ ?_
  clear hK5 K5
  refine AWp.ret ?_
  repeat (first | refine xBlock_ret ?_ | refine xThen_ret ?_)
  obtain rfl := Option.some.inj hE
  refine retQ.retF H rfl ⟨rfl, rfl⟩ ?_
  exact (fun _ _ h => h)
 refine AWp.skip ?_
 refine hK2 _ ?_
 clear hK2 K2
 refine seqK fun K6 hK6 => ?_
 refine region ?_
 refine s0 (build Tryz.tab_ok rfl rfl rfl rfl rfl rfl) rfl ?_
 refine sL (allocLA (TK rfl) rfl) rfl ?_
 refine AOps.tok 5 fun tk9_7 htk9_7 => ?_
 have ne_tk9_7_gT : tk9_7 ≠ gT := fun e_ => by subst e_; simp_all
 refine AOps.relocal 1 _ rfl (fun j w cs hh hx => tok_cell 3 5 5 hh (t := tk9_7) hpG hx rfl) ?_
 refine AOps.tok 1 fun tk9_8 htk9_8 => ?_
 obtain ⟨ne_tk9_8_tk9_7, htk9_8⟩ := Heap.set_fresh htk9_8
 have ne_tk9_8_gT : tk9_8 ≠ gT := fun e_ => by subst e_; simp_all
 refine AOps.relocal 1 _ rfl (fun j w cs hh hx => tok_cell 4 1 1 hh (t := tk9_8) hpG hx rfl) ?_
 refine sLn (storeLFA (TK rfl) rfl rfl rfl rfl rfl) ?_
 refine AOps.relocal 1 _ rfl (fun j w cs hh hx => tok_cell 3 5 5 hh (t := tk9_7) hpG hx rfl) ?_
 refine AOps.relocal 1 _ rfl (fun j w cs hh hx => tok_cell 4 1 1 hh (t := tk9_8) hpG hx rfl) ?_
 refine nil ?_
 refine hK6 _ ?_
 clear hK6 K6
 refine seqJ (KeepsT.A (k := 6) (KeepsT.A (k := 9) KeepsT.nil)) (fun (z : TValue × TValue) => []) (fun z => [TValue.c z.1, ((intE .i64) z.2.FKind ++ (intE .i64) z.2.FInt ++ strE z.2.FText ++ [Sl.d 5 TValue.c (some tk9_7) z.2.FItems] ++ [Sl.d 1 strE (some tk9_8) z.2.FKeys])]) (fun z => ((H.set tk9_7 (some (.tok 5 z.2.FItems.l.length))).set tk9_8 (some (.tok 1 z.2.FKeys.l.length)))) (fun z => Z6_j9 z.1 z.2 = some r) ?_ ?_
 ·intro K9 hK9
  refine seqK fun K13 hK13 => ?_
  refine region ?_
  refine s0 moveA rfl ?_
  refine sLen (f := TVar.c) (s := a1) (TK rfl) rfl rfl rfl rfl fun hL14 => ?_
  refine s0 moveA rfl ?_
  refine nil ?_
  refine hK13 _ ?_
  clear hK13 K13
  refine block ?_
  refine loopO (KeepsT.A (k := 1) (KeepsT.A (k := 3) (KeepsT.A (k := 5) (KeepsT.A (k := 6) (KeepsT.A (k := 9) (KeepsT.A (k := 25) (KeepsT.A (k := 26) KeepsT.nil))))))) (fun (z : Nat × Nat × TValue × TValue) => [(27, .a (.d (.int .i64 ((z.2.1 : Nat) : Int))))]) (fun z => [TValue.c z.2.2.1, ((intE .i64) z.2.2.2.FKind ++ (intE .i64) z.2.2.2.FInt ++ strE z.2.2.2.FText ++ [Sl.d 5 TValue.c (some tk9_7) z.2.2.2.FItems] ++ [Sl.d 1 strE (some tk9_8) z.2.2.2.FKeys])]) (fun z => ((H.set tk9_7 (some (.tok 5 z.2.2.2.FItems.l.length))).set tk9_8 (some (.tok 1 z.2.2.2.FKeys.l.length)))) (fun z => z.1) (fun z => Z6_l15 a0 a1 a2 z.1 z.2.1 z.2.2.1 z.2.2.2 = some r) ((a1.l.length + 1), 0, TValue.zero, (TValue.mk (6 : Int) (0 : Int) ([] : Bs) true ([]) (Sl.nil : Sl Bs))) hE Weak.toA ?_
  rintro ⟨n15, s27_16, y17_l0, y18_l1⟩ hE K15 hK15
  try dsimp only at hE
  cases n15 with
  | zero => cases hE
  | succ n15 =>
    rw [Z6_l15] at hE
    refine seqK fun K19 hK19 => ?_
    refine region ?_
    refine s0 (binI rfl rfl rfl) rfl ?_
    refine nil ?_
    refine hK19 _ ?_
    clear hK19 K19
    refine seqK fun K20 hK20 => ?_
    refine condE hE rfl (fun hc21 hE => ?_) (fun hc21 hE => ?_)
    ·try dsimp only at hc21
     have hf21 := of_decide_eq_true hc21
     refine AWp.skip ?_
     refine hK20 _ ?_
     clear hK20 K20
     refine seqJ (KeepsT.A (k := 1) (KeepsT.A (k := 3) (KeepsT.A (k := 5) (KeepsT.A (k := 6) (KeepsT.A (k := 9) (KeepsT.A (k := 25) (KeepsT.A (k := 26) (KeepsT.A (k := 27) KeepsT.nil)))))))) (fun (z : TValue × TValue) => []) (fun z => [TValue.c z.1, ((intE .i64) z.2.FKind ++ (intE .i64) z.2.FInt ++ strE z.2.FText ++ [Sl.d 5 TValue.c (some tk9_7) z.2.FItems] ++ [Sl.d 1 strE (some tk9_8) z.2.FKeys])]) (fun z => ((H.set tk9_7 (some (.tok 5 z.2.FItems.l.length))).set tk9_8 (some (.tok 1 z.2.FKeys.l.length)))) (fun z => Z6_j22 s27_16 ((Z6_l15 a0 a1 a2 n15)) z.1 z.2 = some r) ?_ ?_
     ·intro K22 hK22
      refine block ?_
      refine seqK fun K25 hK25 => ?_
      refine region ?_
      refine s0 moveA rfl ?_
      obtain ⟨x26, gx26, hE⟩ := bindO_some hE
      refine s0 (idxMn (f := TVar.c) (n := s27_16) (TK rfl) rfl (TK rfl) rfl rfl rfl gx26) rfl ?_
      refine s0 (loadV (TK rfl) rfl rfl rfl) rfl ?_
      refine sL (allocLA (TK rfl) rfl) rfl ?_
      refine s0 assignA rfl ?_
      refine sLn (storeLFA (TK rfl) rfl rfl rfl rfl rfl) ?_
      refine nil ?_
      refine hK25 _ ?_
      clear hK25 K25
      refine freezeA 11 _ rfl (Keeps.c (k := 1) (by conv => lhs; whnf) (by rfl) (Keeps.c (k := 3) (by conv => lhs; whnf) (by rfl) (Keeps.c (k := 5) (by conv => lhs; whnf) (by rfl) (Keeps.c (k := 6) (by conv => lhs; whnf) (by rfl) (Keeps.c (k := 9) (by conv => lhs; whnf) (by rfl) (Keeps.c (k := 10) (by conv => lhs; whnf) (by rfl) (Keeps.c (k := 25) (by conv => lhs; whnf) (by rfl) (Keeps.c (k := 26) (by conv => lhs; whnf) (by rfl) (Keeps.c (k := 27) (by conv => lhs; whnf) (by rfl) Keeps.nil))))))))) ?_
      refine seqK fun K27 hK27 => ?_
      refine seqK fun K28 hK28 => ?_
      refine region ?_
      refine s0 moveA rfl ?_
      refine s0 moveA rfl ?_
      obtain ⟨x29, gx29, hE⟩ := bindO_some hE
      refine s0 (partM (f := TVar.c) (l := none) (r := (some ((s27_16 : Nat) : Int))) (TK rfl) rfl (TK rfl) rfl rfl trivial rfl gx29) rfl ?_
      refine s0 (makeFunc rfl) rfl ?_
      obtain ⟨x30, gx30, hE⟩ := bindO_some hE
      refine s0 (callP rfl rfl (fun H => Z76_walk gx30 H (fun _ _ hx => Z7_walk hx))) rfl ?_
      refine nil ?_
      refine hK28 _ ?_
      clear hK28 K28
      refine condE hE rfl (fun hc31 hE => ?_) (fun hc31 hE => ?_)
      ·refine AWp.exit ?_
       exact hK22 _ (y17_l0, y18_l1) Weak.toA hE
      refine AWp.skip ?_
      refine hK27 _ ?_
      clear hK27 K27
      refine seqK fun K32 hK32 => ?_
      refine region ?_
      refine s0 (loadV (TK rfl) rfl rfl rfl) rfl ?_
      refine s0 (fieldVA (TK rfl) rfl rfl (TK rfl) rfl rfl) rfl ?_
      refine s0 (loadV (TK rfl) rfl rfl rfl) rfl ?_
      obtain ⟨x33, gx33, hE⟩ := bindO_some hE
      refine s0 (callP rfl rfl (fun H => Z89_walk gx33 H)) rfl ?_
      refine s0 moveA rfl ?_
      refine s0 (extract rfl rfl) rfl ?_
      refine s0 (extract rfl rfl) rfl ?_
      refine sL (allocLA (TK rfl) rfl) rfl ?_
      refine sLn (storeLFA (TK rfl) rfl rfl rfl rfl rfl) ?_
      refine s0 assignA rfl ?_
      refine nil ?_
      refine hK32 _ ?_
      clear hK32 K32
      refine seqK fun K34 hK34 => ?_
      refine region ?_
      refine s0 assignA rfl ?_
      refine nil ?_
      refine hK34 _ ?_
      clear hK34 K34
      refine seqJ (KeepsT.A (k := 1) (KeepsT.A (k := 3) (KeepsT.A (k := 5) (KeepsT.A (k := 6) (KeepsT.A (k := 9) (KeepsT.A (k := 11) (KeepsT.A (k := 12) (KeepsT.A (k := 25) (KeepsT.A (k := 26) (KeepsT.A (k := 27) KeepsT.nil)))))))))) (fun (z : Int × TValue) => [(14, .a (.d (.int .i64 z.1)))]) (fun z => [TValue.c y17_l0, ((intE .i64) y18_l1.FKind ++ (intE .i64) y18_l1.FInt ++ strE y18_l1.FText ++ [Sl.d 5 TValue.c (some tk9_7) y18_l1.FItems] ++ [Sl.d 1 strE (some tk9_8) y18_l1.FKeys]), TValue.c z.2]) (fun z => ((H.set tk9_7 (some (.tok 5 y18_l1.FItems.l.length))).set tk9_8 (some (.tok 1 y18_l1.FKeys.l.length)))) (fun z => Z6_j35 s27_16 y17_l0 y18_l1 x26 ((Z6_l15 a0 a1 a2 n15)) z.1 z.2 = some r) ?_ ?_
      ·intro K35 hK35
       refine block ?_
       refine seqK fun K44 hK44 => ?_
       refine region ?_
       refine s0 moveA rfl ?_
       refine s0 assignA rfl ?_
       refine nil ?_
       refine hK44 _ ?_
       clear hK44 K44
       refine condE hE rfl (fun hc45 hE => ?_) (fun hc45 hE => ?_)
       ·refine region ?_
        refine s0 (loadV (TK rfl) rfl rfl rfl) rfl ?_
        refine s0 (fieldVA (TK rfl) rfl rfl (TK rfl) rfl rfl) rfl ?_
        refine s0 (loadV (TK rfl) rfl rfl rfl) rfl ?_
        refine s0 (loadL (TK rfl) rfl rfl rfl rfl) rfl ?_
        obtain ⟨x46, gx46, hE⟩ := bindO_some hE
        refine s0 (callR rfl rfl (Z3_walk (gT := gT) (oT := oT) gx46 _ hpG (by assumption))) rfl ?_
        refine s0 moveA rfl ?_
        refine s0 (extract rfl rfl) rfl ?_
        refine s0 (extract rfl rfl) rfl ?_
        refine sLn (storeLFA (TK rfl) rfl rfl rfl rfl rfl) ?_
        refine s0 assignA rfl ?_
        refine nil ?_
        exact hK35 _ (x46.2, x46.1) Weak.toA hE
       refine seqK fun K47 hK47 => ?_
       refine region ?_
       refine s0 (fieldVA (TK rfl) rfl rfl (TK rfl) rfl rfl) rfl ?_
       refine s0 (loadV (TK rfl) rfl rfl rfl) rfl ?_
       refine s0 assignA rfl ?_
       refine nil ?_
       refine hK47 _ ?_
       clear hK47 K47
       refine condE hE rfl (fun hc48 hE => ?_) (fun hc48 hE => ?_)
       ·refine region ?_
        refine s0 (loadV (TK rfl) rfl rfl rfl) rfl ?_
        refine s0 (fieldVA (TK rfl) rfl rfl (TK rfl) rfl rfl) rfl ?_
        refine s0 (loadV (TK rfl) rfl rfl rfl) rfl ?_
        refine s0 (fieldVA (TK rfl) rfl rfl (TK rfl) rfl rfl) rfl ?_
        refine s0 (loadV (TK rfl) rfl rfl rfl) rfl ?_
        refine s0 (build Tryz.tab_ok rfl rfl rfl rfl rfl rfl) rfl ?_
        obtain ⟨x49, gx49, hE⟩ := bindO_some hE
        refine s0 (callR rfl rfl (Z4_walk (gT := gT) (oT := oT) gx49 _ hpG (by assumption))) rfl ?_
        refine s0 moveA rfl ?_
        refine s0 (extract rfl rfl) rfl ?_
        refine s0 (extract rfl rfl) rfl ?_
        refine sLn (storeLFA (TK rfl) rfl rfl rfl rfl rfl) ?_
        refine s0 assignA rfl ?_
        refine nil ?_
        exact hK35 _ (x49.2, x49.1) Weak.toA hE
       refine seqK fun K50 hK50 => ?_
       refine region ?_
       refine s0 (fieldVA (TK rfl) rfl rfl (TK rfl) rfl rfl) rfl ?_
       refine s0 (loadV (TK rfl) rfl rfl rfl) rfl ?_
       obtain ⟨x51, gx51, hE⟩ := bindO_some hE
       refine s0 (callP rfl rfl (fun H => Z87_walk gx51 H)) rfl ?_
       refine s0 assignA rfl ?_
       refine nil ?_
       refine hK50 _ ?_
       clear hK50 K50
       refine condE hE rfl (fun hc52 hE => ?_) (fun hc52 hE => ?_)
       ·refine region ?_
        refine s0 assignA rfl ?_
        refine nil ?_
        exact hK35 _ ((27 : Int), x33.1) Weak.toA hE
       refine AWp.exit ?_
       exact hK22 _ (y17_l0, y18_l1) Weak.toA hE
      rintro ⟨s14_36, y37_l2⟩ hE
      try dsimp only at hE
      unfold Z6_j35 at hE
      refine seqK fun K38 hK38 => ?_
      refine seqK fun K39 hK39 => ?_
      refine region ?_
      refine s0 moveA rfl ?_
      refine s0 (binI rfl rfl rfl) rfl ?_
      refine nil ?_
      refine hK39 _ ?_
      clear hK39 K39
      refine condE hE rfl (fun hc40 hE => ?_) (fun hc40 hE => ?_)
      ·refine seqK fun K41 hK41 => ?_
       refine AWp.draw rfl ?_
       refine DOps.s0 (build Tryz.tab_ok rfl rfl rfl rfl rfl rfl) rfl ?_
       refine DOps.s0 (fieldVA (TK rfl) rfl rfl (TK rfl) rfl rfl) rfl ?_
       refine DOps.s0 (loadV (TK rfl) rfl rfl rfl) rfl ?_
       refine DOps.s0 moveA rfl ?_
       refine DOps.sLn (storeLFA (TK rfl) rfl rfl rfl rfl rfl) ?_
       refine DOps.s0 assignA rfl ?_
       refine DOps.s0 assignA rfl ?_
       refine DOps.nil (by decide +kernel) ?_
       refine hK41 _ ?_
       clear hK41 K41
       refine AWp.ret ?_
       repeat (first | refine xBlock_ret ?_ | refine xThen_ret ?_)
       obtain rfl := Option.some.inj hE
       refine retQ.retF H rfl ⟨rfl, rfl⟩ ?_
       intro id_ o_ he_
       have e_tk9_7 : id_ ≠ tk9_7 := fun e_ => by subst e_; simp_all [Heap.set]
       have e_tk9_8 : id_ ≠ tk9_8 := fun e_ => by subst e_; simp_all [Heap.set]
       rw [← he_]
       simp only [Heap.set] at he_ ⊢
       (repeat' split) <;> simp_all
      refine AWp.skip ?_
      refine hK38 _ ?_
      clear hK38 K38
      refine AWp.draw rfl ?_
      refine DOps.s0 (fieldL (TK rfl) rfl rfl (TK rfl) rfl rfl) rfl ?_
      refine DOps.s0 (loadL (TK rfl) rfl rfl rfl rfl) rfl ?_
      refine DOps.s0 (fieldVA (TK rfl) rfl rfl (TK rfl) rfl rfl) rfl ?_
      refine DOps.s0 (loadV (TK rfl) rfl rfl rfl) rfl ?_
      refine DOps.s0 (buildSlice (TK rfl) rfl (TK rfl) rfl rfl rfl rfl rfl rfl) rfl ?_
      obtain ⟨x42, gx42, hE⟩ := bindO_some hE
      refine DOps.sH (appM (f := strE) (TK rfl) rfl (TK rfl) (TK rfl) ⟨_, rfl⟩ rfl rfl (by decide) rfl rfl rfl rfl hpG rfl gx42) rfl ?_
      refine DOps.heq (h' := ((H.set tk9_7 (some (.tok 5 y18_l1.FItems.l.length))).set tk9_8 (some (.tok 1 x42.l.length)))) (by first | rfl | (rw [Heap.set_set]; rfl) | (funext n_; simp only [Heap.set]; (repeat' split) <;> first | rfl | (exfalso; simp_all; done) | (simp_all; done))) ?_
      refine DOps.s0 (fieldL (TK rfl) rfl rfl (TK rfl) rfl rfl) rfl ?_
      refine DOps.s0 (loadL (TK rfl) rfl rfl rfl rfl) rfl ?_
      refine DOps.s0 (loadL (TK rfl) rfl rfl rfl rfl) rfl ?_
      refine DOps.s0 (buildSlice (TK rfl) rfl (TK rfl) rfl rfl rfl rfl rfl rfl) rfl ?_
      obtain ⟨x43, gx43, hE⟩ := bindO_some hE
      refine DOps.sH (appM (f := TValue.c) (TK rfl) rfl (TK rfl) (TK rfl) ⟨_, rfl⟩ rfl rfl (by decide) rfl rfl rfl rfl hpG rfl gx43) rfl ?_
      refine DOps.heq (h' := ((H.set tk9_7 (some (.tok 5 x43.l.length))).set tk9_8 (some (.tok 1 x42.l.length)))) (by first | rfl | (rw [Heap.set_set]; rfl) | (funext n_; simp only [Heap.set]; (repeat' split) <;> first | rfl | (exfalso; simp_all; done) | (simp_all; done))) ?_
      refine DOps.s0 (fieldL (TK rfl) rfl rfl (TK rfl) rfl rfl) rfl ?_
      refine DOps.sLn (storeL1 (TK rfl) rfl rfl rfl rfl (by repeat (first | exact SetAt.zero | apply SetAt.succ)) (by repeat (first | exact SetAt.zero | apply SetAt.succ))) ?_
      refine DOps.s0 (fieldL (TK rfl) rfl rfl (TK rfl) rfl rfl) rfl ?_
      refine DOps.sLn (storeL1 (TK rfl) rfl rfl rfl rfl (by repeat (first | exact SetAt.zero | apply SetAt.succ)) (by repeat (first | exact SetAt.zero | apply SetAt.succ))) ?_
      refine DOps.nil (by decide +kernel) ?_
      exact hK22 _ (y17_l0, (TValue.mk y18_l1.FKind y18_l1.FInt y18_l1.FText x43.nl x43.l x42)) Weak.toA hE
     rintro ⟨y23_l0, y24_l1⟩ hE
     try dsimp only at hE
     unfold Z6_j22 at hE
     refine region ?_
     refine s0 (addIA rfl rfl) rfl ?_
     refine s0 moveA rfl ?_
     refine nil ?_
     exact hK15 _ (n15, (s27_16 + 1), y23_l0, y24_l1) Weak.toA hE (Nat.lt_succ_self _)
    refine AWp.exit ?_
    exact hK9 _ (y17_l0, y18_l1) Weak.toA hE
 rintro ⟨y10_l0, y11_l1⟩ hE
 try dsimp only at hE
 unfold Z6_j9 at hE
 refine seqK fun K12 hK12 => ?_
 refine AWp.relocal 1 _ rfl (fun j w cs hh hx => untok_cell 3 hx rfl) ?_
 refine AWp.relocal 1 _ rfl (fun j w cs hh hx => untok_cell 4 hx rfl) ?_
 refine AWp.relocal 1 (TValue.c y11_l1) rfl (fun j w cs hh hx => by rw [TValue.cu_eq]; exact hx) ?_
 refine region ?_
 refine s0 (loadL (TK rfl) rfl rfl rfl rfl) rfl ?_
 refine sLn (storeLFA (TK rfl) rfl rfl rfl rfl rfl) ?_
 refine s0 assignA rfl ?_
 refine s0 assignA rfl ?_
 refine nil ?_
 refine hK12 _ ?_
 clear hK12 K12
 refine AWp.ret ?_
 repeat (first | refine xBlock_ret ?_ | refine xThen_ret ?_)
 obtain rfl := Option.some.inj hE
 refine retQ.retF H rfl ⟨rfl, rfl⟩ ?_
 intro id_ o_ he_
 have e_tk9_7 : id_ ≠ tk9_7 := fun e_ => by subst e_; simp_all [Heap.set]
 have e_tk9_8 : id_ ≠ tk9_8 := fun e_ => by subst e_; simp_all [Heap.set]
 rw [← he_]
 simp only [Heap.set] at he_ ⊢
 (repeat' split) <;> simp_all
def Tryz.lay57_ren : Go.Shelf.Ren := ⟨fun | 156 => 57 | 165 => 84 | 166 => 85 | 169 => 86 | 240 => 110 | 241 => 111 | 276 => 121 | 277 => 122 | n => n, fun | 31 => 29 | 9 => 9 | 3 => 3 | 4 => 4 | 0 => 0 | 20 => 20 | 72 => 131 | 76 => 135 | 70 => 128 | 37 => 129 | 75 => 134 | 127 => 153 | 164 => 156 | 5 => 5 | 80 => 137 | n => n, fun | n => n⟩
theorem Tryz.lay57 : Go.Proofs.Lays.n156 Tryz.prog Tryz.lay57_ren := {
 mixed := by kernel_rfl
 f156 := Tryz.func57.trans (congrArg some (by kernel_rfl))
 f165 := Tryz.func84.trans (congrArg some (by kernel_rfl))
 f166 := Tryz.func85.trans (congrArg some (by kernel_rfl))
 f169 := Tryz.func86.trans (congrArg some (by kernel_rfl))
 f240 := Tryz.func110.trans (congrArg some (by kernel_rfl))
 f241 := Tryz.func111.trans (congrArg some (by kernel_rfl))
 f276 := Tryz.func121.trans (congrArg some (by kernel_rfl))
 f277 := Tryz.func122.trans (congrArg some (by kernel_rfl))
 t0 := Tryz.underlying0
 a0 := Tryz.isAgg0
 z0 := Tryz.sizeOf0
 v0 := Tryz.zeroValue0
 t3 := Tryz.underlying3
 a3 := Tryz.isAgg3
 z3 := Tryz.sizeOf3
 v3 := Tryz.zeroValue3
 t4 := Tryz.underlying4
 a4 := Tryz.isAgg4
 z4 := Tryz.sizeOf4
 v4 := Tryz.zeroValue4
 t9 := Tryz.underlying9
 a9 := Tryz.isAgg9
 z9 := Tryz.sizeOf9
 v9 := Tryz.zeroValue9
 t20 := Tryz.underlying20
 a20 := Tryz.isAgg20
 z20 := Tryz.sizeOf20
 v20 := Tryz.zeroValue20
 t31 := Tryz.underlying29
 a31 := Tryz.isAgg29
 z31 := Tryz.sizeOf29
 v31 := Tryz.zeroValue29
 t37 := Tryz.underlying129
 a37 := Tryz.isAgg129
 z37 := Tryz.sizeOf129
 v37 := Tryz.zeroValue129
 t70 := Tryz.underlying128
 a70 := Tryz.isAgg128
 z70 := Tryz.sizeOf128
 v70 := Tryz.zeroValue128
 t72 := Tryz.underlying131
 a72 := Tryz.isAgg131
 z72 := Tryz.sizeOf131
 v72 := Tryz.zeroValue131
 t75 := Tryz.underlying134
 a75 := Tryz.isAgg134
 z75 := Tryz.sizeOf134
 v75 := Tryz.zeroValue134
 t76 := Tryz.underlying135
 a76 := Tryz.isAgg135
 z76 := Tryz.sizeOf135
 v76 := Tryz.zeroValue135
 t127 := Tryz.underlying153
 a127 := Tryz.isAgg153
 z127 := Tryz.sizeOf153
 v127 := Tryz.zeroValue153
 t164 := Tryz.underlying156
 a164 := Tryz.isAgg156
 z164 := Tryz.sizeOf156
 v164 := Tryz.zeroValue156 }
theorem Tryz.extra57 : Builder.Extra Tryz.prog Tryz.lay57_ren where
 sizeBuilder := by kernel_rfl
 liesBuilder := by kernel_rfl
 t5 := Tryz.underlying5
 a5 := Tryz.isAgg5
 z5 := Tryz.sizeOf5
 v5 := Tryz.zeroValue5
 infoByte := by kernel_rfl
 cellsByte := by kernel_rfl
 sizeByte := by kernel_rfl
 neB5 := by decide
def Z82 (s : Sl Bs) (sep : Bs) : Option Bs := joinC s sep
theorem Z82_walk {a0 : Sl Bs} {a1 : Bs} {w0 : Option Nat} {r : Bs} (hE : Z82 a0 a1 = some r) (H : Heap) : ACalls Tryz.prog 57 [.d (Sl.d 1 strE w0 a0), .d (.str a1)] H fun v h' => v = .a (.d (.str r)) ∧ h' = H := join_calls Tryz.lay57 Tryz.extra57 hE rfl
def Z84 (a0 : Bs) : Option Bs := none
theorem Z84_walk {a0 : Bs}   {r : Bs} (hE : Z84 a0 = some r) (H : Heap)  : ACalls Tryz.prog 83 [.d (.str a0)] H fun v h' => v = .a (.d (.str r)) ∧ h' = H := by cases hE
def Z17_j32  (s3_33 : (Sl Bs)) : Option Bs := (Z82 s3_33 ([44, 32] : Bs)).bind fun x35 => (catC ([91] : Bs) x35).bind fun x36 => (catC x36 ([93] : Bs)).bind fun x37 => some x37
def Z17_l40 (a0 : TValue) (k_rec_56 : TValue → Option Bs) : Nat → (Sl Bs) → Nat → Option Bs
 | 0, _, _ => none
 | n40 + 1, s3_41, s40_42 => bif (decide (((s40_42 : Nat) : Int) < ((a0.FItems.l.length : Nat) : Int))) then ((a0.FItems.l[s40_42]?).bind fun x48 => (k_rec_56 x48).bind fun x49 => (appC 16 s3_41 (⟨false, [x49]⟩ : Sl Bs)).bind fun x50 => (Z17_l40 a0 k_rec_56 n40) x50 (s40_42 + 1)) else (Z17_j32   s3_41)
def Z17_j53  (s3_54 : (Sl Bs)) : Option Bs := (Z82 s3_54 ([44, 32] : Bs)).bind fun x56 => (catC ([123] : Bs) x56).bind fun x57 => (catC x57 ([125] : Bs)).bind fun x58 => some x58
def Z17_l62 (a0 : TValue) (k_rec_56 : TValue → Option Bs) : Nat → (Sl Bs) → Int → Option Bs
 | 0, _, _ => none
 | n62 + 1, s3_63, s63_64 => bif (decide (s63_64 < (if ((a0.FItems.l.length : Nat) : Int) < ((a0.FKeys.l.length : Nat) : Int) then ((a0.FItems.l.length : Nat) : Int) else ((a0.FKeys.l.length : Nat) : Int)))) then ((idxC a0.FKeys.l s63_64).bind fun x70 => (catC x70 ([58, 32] : Bs)).bind fun x71 => (idxC a0.FItems.l s63_64).bind fun x72 => (k_rec_56 x72).bind fun x73 => (catC x71 x73).bind fun x74 => (appC 16 s3_63 (⟨false, [x74]⟩ : Sl Bs)).bind fun x75 => (addC s63_64 (1 : Int)).bind fun x76 => (Z17_l62 a0 k_rec_56 n62) x75 x76) else (Z17_j53   s3_63)
def Z17_n : Nat → TValue → Option Bs
 | 0, _ => none
 | n + 1, a0 => bif (decide (a0.FKind = (0 : Int))) then (some ([110, 117, 108, 108] : Bs)) else (bif (decide (a0.FKind = (1 : Int))) then (bif (decide (a0.FInt = (0 : Int))) then (some ([102, 97, 108, 115, 101] : Bs)) else (some ([116, 114, 117, 101] : Bs))) else (bif (decide (a0.FKind = (2 : Int))) then ((Z83 a0.FInt).bind fun x18 => some x18) else (bif (decide (a0.FKind = (3 : Int))) then ((Z84 a0.FText).bind fun x22 => some x22) else (bif (decide (a0.FKind = (4 : Int))) then (some a0.FText) else (bif (decide (a0.FKind = (7 : Int))) then ((catC ([36] : Bs) a0.FText).bind fun x29 => some x29) else (bif (decide (a0.FKind = (5 : Int))) then (Z17_l40 a0 (Z17_n n) (a0.FItems.l.length + 1) (Sl.nil : Sl Bs) 0) else (bif (decide (a0.FKind = (6 : Int))) then (Z17_l62 a0 (Z17_n n) F0 (Sl.nil : Sl Bs) (0 : Int)) else (some ([] : Bs)))))))))
theorem Z17_step (n : Nat) (ih_56 : ∀ {a0 : TValue} {oT : Ab.Obj} {gT : Nat} {r : Bs}, Z17_n n a0 = some r → ∀ (H : Heap) (hgT : H gT = some oT) (hoT : IsTab Tryz.prog oT), ACalls Tryz.prog 56 [.agg (TValue.c a0)] H fun v h' => v = .a (.d (.str r)) ∧ h' = H) : ∀ {a0 : TValue} {oT : Ab.Obj} {gT : Nat} {r : Bs}, Z17_n (n + 1) a0 = some r → ∀ (H : Heap) (hgT : H gT = some oT) (hoT : IsTab Tryz.prog oT), ACalls Tryz.prog 56 [.agg (TValue.c a0)] H fun v h' => v = .a (.d (.str r)) ∧ h' = H := by
 intro a0 oT gT r hE H hgT hoT
 rw [Z17_n] at hE
 refine ACalls.of_wp (fn := Tryz.f56) (c := _) Tryz.tab_ok (fun _ _ => Tryz.call56 _ _) Tryz.func56 rfl (n := 87) rfl (rs := [.tmp 2]) rfl rfl ?_
 refine AWp.tok 1 fun tk1 htk1 => ?_
 have ne_tk1_gT : tk1 ≠ gT := fun e_ => by subst e_; simp_all
 refine seqK fun K1 hK1 => ?_
 refine region ?_
 refine s0 (boxV rfl) rfl ?_
 refine s0 assignA rfl ?_
 refine nil ?_
 refine hK1 _ ?_
 clear hK1 K1
 refine seqK fun K2 hK2 => ?_
 refine region ?_
 refine s0 assignA rfl ?_
 refine nil ?_
 refine hK2 _ ?_
 clear hK2 K2
 refine AWp.nilTok 3 1 tk1 rfl hpG ?_
 refine seqK fun K3 hK3 => ?_
 refine seqK fun K4 hK4 => ?_
 refine region ?_
 refine s0 (fieldVA (TK rfl) rfl rfl (TK rfl) rfl rfl) rfl ?_
 refine s0 (loadV (TK rfl) rfl rfl rfl) rfl ?_
 refine nil ?_
 refine hK4 _ ?_
 clear hK4 K4
 refine block ?_
 refine seqK fun K5 hK5 => ?_
 refine region ?_
 refine s0 (binI rfl rfl rfl) rfl ?_
 refine s0 assignA rfl ?_
 refine nil ?_
 refine hK5 _ ?_
 clear hK5 K5
 refine condE hE rfl (fun hc6 hE => ?_) (fun hc6 hE => ?_)
 ·refine seqK fun K7 hK7 => ?_
  refine region ?_
  refine s0 assignA rfl ?_
  refine nil ?_
  refine hK7 _ ?_
  clear hK7 K7
  refine AWp.ret ?_
  repeat (first | refine xBlock_ret ?_ | refine xThen_ret ?_)
  obtain rfl := Option.some.inj hE
  refine retQ.retF H rfl ⟨rfl, rfl⟩ ?_
  first | exact Heap.sub_set htk1 | (simp only [Heap.set_set]; exact Heap.sub_set htk1)
 refine seqK fun K8 hK8 => ?_
 refine region ?_
 refine s0 (binI rfl rfl rfl) rfl ?_
 refine s0 assignA rfl ?_
 refine nil ?_
 refine hK8 _ ?_
 clear hK8 K8
 refine condE hE rfl (fun hc9 hE => ?_) (fun hc9 hE => ?_)
 ·refine seqK fun K10 hK10 => ?_
  refine seqK fun K11 hK11 => ?_
  refine region ?_
  refine s0 (fieldVA (TK rfl) rfl rfl (TK rfl) rfl rfl) rfl ?_
  refine s0 (loadV (TK rfl) rfl rfl rfl) rfl ?_
  refine s0 (binI rfl rfl rfl) rfl ?_
  refine nil ?_
  refine hK11 _ ?_
  clear hK11 K11
  refine condE hE rfl (fun hc12 hE => ?_) (fun hc12 hE => ?_)
  ·refine seqK fun K13 hK13 => ?_
   refine region ?_
   refine s0 assignA rfl ?_
   refine nil ?_
   refine hK13 _ ?_
   clear hK13 K13
   refine AWp.ret ?_
   repeat (first | refine xBlock_ret ?_ | refine xThen_ret ?_)
   obtain rfl := Option.some.inj hE
   refine retQ.retF H rfl ⟨rfl, rfl⟩ ?_
   first | exact Heap.sub_set htk1 | (simp only [Heap.set_set]; exact Heap.sub_set htk1)
  refine AWp.skip ?_
  refine hK10 _ ?_
  clear hK10 K10
  refine seqK fun K14 hK14 => ?_
  refine region ?_
  refine s0 assignA rfl ?_
  refine nil ?_
  refine hK14 _ ?_
  clear hK14 K14
  refine AWp.ret ?_
  repeat (first | refine xBlock_ret ?_ | refine xThen_ret ?_)
  obtain rfl := Option.some.inj hE
  refine retQ.retF H rfl ⟨rfl, rfl⟩ ?_
  first | exact Heap.sub_set htk1 | (simp only [Heap.set_set]; exact Heap.sub_set htk1)
 refine seqK fun K15 hK15 => ?_
 refine region ?_
 refine s0 (binI rfl rfl rfl) rfl ?_
 refine s0 assignA rfl ?_
 refine nil ?_
 refine hK15 _ ?_
 clear hK15 K15
 refine condE hE rfl (fun hc16 hE => ?_) (fun hc16 hE => ?_)
 ·refine seqK fun K17 hK17 => ?_
  refine region ?_
  refine s0 (fieldVA (TK rfl) rfl rfl (TK rfl) rfl rfl) rfl ?_
  refine s0 (loadV (TK rfl) rfl rfl rfl) rfl ?_
  obtain ⟨x18, gx18, hE⟩ := bindO_some hE
  refine s0 (callR rfl rfl (Z83_walk (gT := gT) (oT := oT) gx18 _ hpG (by assumption))) rfl ?_
  refine s0 assignA rfl ?_
  refine nil ?_
  refine hK17 _ ?_
  clear hK17 K17
  refine AWp.ret ?_
  repeat (first | refine xBlock_ret ?_ | refine xThen_ret ?_)
  obtain rfl := Option.some.inj hE
  refine retQ.retF H rfl ⟨rfl, rfl⟩ ?_
  first | exact Heap.sub_set htk1 | (simp only [Heap.set_set]; exact Heap.sub_set htk1)
 refine seqK fun K19 hK19 => ?_
 refine region ?_
 refine s0 (binI rfl rfl rfl) rfl ?_
 refine s0 assignA rfl ?_
 refine nil ?_
 refine hK19 _ ?_
 clear hK19 K19
 refine condE hE rfl (fun hc20 hE => ?_) (fun hc20 hE => ?_)
 ·refine seqK fun K21 hK21 => ?_
  refine region ?_
  refine s0 (fieldVA (TK rfl) rfl rfl (TK rfl) rfl rfl) rfl ?_
  refine s0 (loadV (TK rfl) rfl rfl rfl) rfl ?_
  obtain ⟨x22, gx22, hE⟩ := bindO_some hE
  refine s0 (callP rfl rfl (fun H => Z84_walk gx22 H)) rfl ?_
  refine s0 assignA rfl ?_
  refine nil ?_
  refine hK21 _ ?_
  clear hK21 K21
  refine AWp.ret ?_
  repeat (first | refine xBlock_ret ?_ | refine xThen_ret ?_)
  obtain rfl := Option.some.inj hE
  refine retQ.retF H rfl ⟨rfl, rfl⟩ ?_
  first | exact Heap.sub_set htk1 | (simp only [Heap.set_set]; exact Heap.sub_set htk1)
 refine seqK fun K23 hK23 => ?_
 refine region ?_
 refine s0 (binI rfl rfl rfl) rfl ?_
 refine s0 assignA rfl ?_
 refine nil ?_
 refine hK23 _ ?_
 clear hK23 K23
 refine condE hE rfl (fun hc24 hE => ?_) (fun hc24 hE => ?_)
 ·refine seqK fun K25 hK25 => ?_
  refine region ?_
  refine s0 (fieldVA (TK rfl) rfl rfl (TK rfl) rfl rfl) rfl ?_
  refine s0 (loadV (TK rfl) rfl rfl rfl) rfl ?_
  refine s0 assignA rfl ?_
  refine nil ?_
  refine hK25 _ ?_
  clear hK25 K25
  refine AWp.ret ?_
  repeat (first | refine xBlock_ret ?_ | refine xThen_ret ?_)
  obtain rfl := Option.some.inj hE
  refine retQ.retF H rfl ⟨rfl, rfl⟩ ?_
  first | exact Heap.sub_set htk1 | (simp only [Heap.set_set]; exact Heap.sub_set htk1)
 refine seqK fun K26 hK26 => ?_
 refine region ?_
 refine s0 (binI rfl rfl rfl) rfl ?_
 refine s0 assignA rfl ?_
 refine nil ?_
 refine hK26 _ ?_
 clear hK26 K26
 refine condE hE rfl (fun hc27 hE => ?_) (fun hc27 hE => ?_)
 ·refine seqK fun K28 hK28 => ?_
  refine region ?_
  refine s0 (fieldVA (TK rfl) rfl rfl (TK rfl) rfl rfl) rfl ?_
  refine s0 (loadV (TK rfl) rfl rfl rfl) rfl ?_
  obtain ⟨x29, gx29, hE⟩ := bindO_some hE
  refine s0 (catM rfl rfl gx29) rfl ?_
  refine s0 assignA rfl ?_
  refine nil ?_
  refine hK28 _ ?_
  clear hK28 K28
  refine AWp.ret ?_
  repeat (first | refine xBlock_ret ?_ | refine xThen_ret ?_)
  obtain rfl := Option.some.inj hE
  refine retQ.retF H rfl ⟨rfl, rfl⟩ ?_
  first | exact Heap.sub_set htk1 | (simp only [Heap.set_set]; exact Heap.sub_set htk1)
 refine seqK fun K30 hK30 => ?_
 refine region ?_
 refine s0 (binI rfl rfl rfl) rfl ?_
 refine s0 assignA rfl ?_
 refine nil ?_
 refine hK30 _ ?_
 clear hK30 K30
 refine condE hE rfl (fun hc31 hE => ?_) (fun hc31 hE => ?_)
 ·refine seqJH KeepsT.nil (fun (z : (Sl Bs)) => [(3, .a (.d (Sl.d 1 strE (some tk1) z)))]) (fun z => (H.set tk1 (some (.tok 1 z.l.length)))) (fun z => Z17_j32 z = some r) ?_ ?_
  ·intro K32 hK32
   refine seqK fun K38 hK38 => ?_
   refine region ?_
   refine s0 (fieldVA (TK rfl) rfl rfl (TK rfl) rfl rfl) rfl ?_
   refine s0 (loadV (TK rfl) rfl rfl (congrArg (fun x => some (A.d x)) (TValue.FItemsD_eq _))) rfl ?_
   refine sLen (f := TValue.c) (s := a0.FItems) (TK rfl) rfl rfl rfl rfl fun hL39 => ?_
   refine s0 moveA rfl ?_
   refine nil ?_
   refine hK38 _ ?_
   clear hK38 K38
   refine block ?_
   refine loopH (KeepsT.A (k := 38) (KeepsT.A (k := 39) KeepsT.nil)) (fun (z : Nat × (Sl Bs) × Nat) => [(3, .a (.d (Sl.d 1 strE (some tk1) z.2.1))), (40, .a (.d (.int .i64 ((z.2.2 : Nat) : Int))))]) (fun z => (H.set tk1 (some (.tok 1 z.2.1.l.length)))) (fun z => z.1) (fun z => Z17_l40 a0 (Z17_n n) z.1 z.2.1 z.2.2 = some r) ((a0.FItems.l.length + 1), (Sl.nil : Sl Bs), 0) hE Weak.toA ?_
   rintro ⟨n40, s3_41, s40_42⟩ hE K40 hK40
   try dsimp only at hE
   cases n40 with
   | zero => cases hE
   | succ n40 =>
     rw [Z17_l40] at hE
     refine seqK fun K43 hK43 => ?_
     refine region ?_
     refine s0 (binI rfl rfl rfl) rfl ?_
     refine nil ?_
     refine hK43 _ ?_
     clear hK43 K43
     refine seqK fun K44 hK44 => ?_
     refine condE hE rfl (fun hc45 hE => ?_) (fun hc45 hE => ?_)
     ·try dsimp only at hc45
      have hf45 := of_decide_eq_true hc45
      refine AWp.skip ?_
      refine hK44 _ ?_
      clear hK44 K44
      refine seqK fun K46 hK46 => ?_
      refine block ?_
      refine seqK fun K47 hK47 => ?_
      refine region ?_
      obtain ⟨x48, gx48, hE⟩ := bindO_some hE
      refine s0 (idxMn (f := TValue.c) (n := s40_42) (TK rfl) rfl (TK rfl) rfl rfl rfl gx48) rfl ?_
      refine s0 (loadV (TK rfl) rfl rfl rfl) rfl ?_
      refine sL (allocLA (TK rfl) rfl) rfl ?_
      refine sLn (storeLFA (TK rfl) rfl rfl rfl rfl rfl) ?_
      refine nil ?_
      refine hK47 _ ?_
      clear hK47 K47
      refine freezeA 5 _ rfl (Keeps.c (k := 3) (by conv => lhs; whnf) (by rfl) (Keeps.c (k := 38) (by conv => lhs; whnf) (by rfl) (Keeps.c (k := 39) (by conv => lhs; whnf) (by rfl) (Keeps.c (k := 40) (by conv => lhs; whnf) (by rfl) Keeps.nil)))) ?_
      refine region ?_
      refine s0 moveA rfl ?_
      refine s0 (loadV (TK rfl) rfl rfl rfl) rfl ?_
      obtain ⟨x49, gx49, hE⟩ := bindO_some hE
      refine s0 (callR rfl rfl (ih_56 (gT := gT) (oT := oT) gx49 _ hpG (by assumption))) rfl ?_
      refine s0 (buildSlice (TK rfl) rfl (TK rfl) rfl rfl rfl rfl rfl rfl) rfl ?_
      obtain ⟨x50, gx50, hE⟩ := bindO_some hE
      refine sH (appM (f := strE) (TK rfl) rfl (TK rfl) (TK rfl) ⟨_, rfl⟩ rfl rfl (by decide) rfl rfl rfl rfl hpG rfl gx50) rfl ?_
      refine AOps.heq (h' := (H.set tk1 (some (.tok 1 x50.l.length)))) (by first | rfl | (rw [Heap.set_set]; rfl) | (funext n_; simp only [Heap.set]; (repeat' split) <;> first | rfl | (exfalso; simp_all; done) | (simp_all; done))) ?_
      refine s0 assignA rfl ?_
      refine nil ?_
      refine hK46 _ ?_
      clear hK46 K46
      refine region ?_
      refine s0 (addIA rfl rfl) rfl ?_
      refine s0 moveA rfl ?_
      refine nil ?_
      exact hK40 _ (n40, x50, (s40_42 + 1)) Weak.toA hE (Nat.lt_succ_self _)
     refine AWp.exit ?_
     exact hK32 _ s3_41 Weak.toA hE
  rintro s3_33 hE
  try dsimp only at hE
  unfold Z17_j32 at hE
  refine seqK fun K34 hK34 => ?_
  refine region ?_
  refine s0 moveA rfl ?_
  obtain ⟨x35, gx35, hE⟩ := bindO_some hE
  refine s0 (callP rfl rfl (fun H => Z82_walk gx35 H)) rfl ?_
  obtain ⟨x36, gx36, hE⟩ := bindO_some hE
  refine s0 (catM rfl rfl gx36) rfl ?_
  obtain ⟨x37, gx37, hE⟩ := bindO_some hE
  refine s0 (catM rfl rfl gx37) rfl ?_
  refine s0 assignA rfl ?_
  refine nil ?_
  refine hK34 _ ?_
  clear hK34 K34
  refine AWp.ret ?_
  repeat (first | refine xBlock_ret ?_ | refine xThen_ret ?_)
  obtain rfl := Option.some.inj hE
  refine retQ.retF H rfl ⟨rfl, rfl⟩ ?_
  first | exact Heap.sub_set htk1 | (simp only [Heap.set_set]; exact Heap.sub_set htk1)
 refine seqK fun K51 hK51 => ?_
 refine region ?_
 refine s0 (binI rfl rfl rfl) rfl ?_
 refine s0 assignA rfl ?_
 refine nil ?_
 refine hK51 _ ?_
 clear hK51 K51
 refine condE hE rfl (fun hc52 hE => ?_) (fun hc52 hE => ?_)
 ·refine seqJH KeepsT.nil (fun (z : (Sl Bs)) => [(3, .a (.d (Sl.d 1 strE (some tk1) z)))]) (fun z => (H.set tk1 (some (.tok 1 z.l.length)))) (fun z => Z17_j53 z = some r) ?_ ?_
  ·intro K53 hK53
   refine seqK fun K59 hK59 => ?_
   refine region ?_
   refine s0 (fieldVA (TK rfl) rfl rfl (TK rfl) rfl rfl) rfl ?_
   refine s0 (loadV (TK rfl) rfl rfl rfl) rfl ?_
   refine sLen (f := strE) (s := a0.FKeys) (TK rfl) rfl rfl rfl rfl fun hL60 => ?_
   refine s0 (fieldVA (TK rfl) rfl rfl (TK rfl) rfl rfl) rfl ?_
   refine s0 (loadV (TK rfl) rfl rfl (congrArg (fun x => some (A.d x)) (TValue.FItemsD_eq _))) rfl ?_
   refine sLen (f := TValue.c) (s := a0.FItems) (TK rfl) rfl rfl rfl rfl fun hL61 => ?_
   refine s0 (minM rfl rfl) rfl ?_
   refine s0 moveA rfl ?_
   refine nil ?_
   refine hK59 _ ?_
   clear hK59 K59
   refine block ?_
   refine loopH (KeepsT.A (k := 1) (KeepsT.A (k := 62) KeepsT.nil)) (fun (z : Nat × (Sl Bs) × Int) => [(3, .a (.d (Sl.d 1 strE (some tk1) z.2.1))), (63, .a (.d (.int .i64 z.2.2)))]) (fun z => (H.set tk1 (some (.tok 1 z.2.1.l.length)))) (fun z => z.1) (fun z => Z17_l62 a0 (Z17_n n) z.1 z.2.1 z.2.2 = some r) (F0, (Sl.nil : Sl Bs), (0 : Int)) hE Weak.toA ?_
   rintro ⟨n62, s3_63, s63_64⟩ hE K62 hK62
   try dsimp only at hE
   cases n62 with
   | zero => cases hE
   | succ n62 =>
     rw [Z17_l62] at hE
     refine seqK fun K65 hK65 => ?_
     refine region ?_
     refine s0 (binI rfl rfl rfl) rfl ?_
     refine nil ?_
     refine hK65 _ ?_
     clear hK65 K65
     refine seqK fun K66 hK66 => ?_
     refine condE hE rfl (fun hc67 hE => ?_) (fun hc67 hE => ?_)
     ·refine AWp.skip ?_
      refine hK66 _ ?_
      clear hK66 K66
      refine seqK fun K68 hK68 => ?_
      refine block ?_
      refine seqK fun K69 hK69 => ?_
      refine region ?_
      refine s0 moveA rfl ?_
      refine s0 assignA rfl ?_
      refine nil ?_
      refine hK69 _ ?_
      clear hK69 K69
      refine AWp.draw rfl ?_
      refine DOps.s0 moveA rfl ?_
      refine DOps.s0 (fieldVA (TK rfl) rfl rfl (TK rfl) rfl rfl) rfl ?_
      refine DOps.s0 (loadV (TK rfl) rfl rfl rfl) rfl ?_
      refine DOps.s0 moveA rfl ?_
      obtain ⟨x70, gx70, hE⟩ := bindO_some hE
      refine DOps.s0 (idxM (f := strE) (TK rfl) rfl (TK rfl) rfl rfl rfl gx70) rfl ?_
      refine DOps.s0 (loadV (TK rfl) rfl rfl rfl) rfl ?_
      obtain ⟨x71, gx71, hE⟩ := bindO_some hE
      refine DOps.s0 (catM rfl rfl gx71) rfl ?_
      refine DOps.s0 (fieldVA (TK rfl) rfl rfl (TK rfl) rfl rfl) rfl ?_
      refine DOps.s0 (loadV (TK rfl) rfl rfl (congrArg (fun x => some (A.d x)) (TValue.FItemsD_eq _))) rfl ?_
      refine DOps.s0 moveA rfl ?_
      obtain ⟨x72, gx72, hE⟩ := bindO_some hE
      refine DOps.s0 (idxM (f := TValue.c) (TK rfl) rfl (TK rfl) rfl rfl rfl gx72) rfl ?_
      refine DOps.s0 (loadV (TK rfl) rfl rfl rfl) rfl ?_
      obtain ⟨x73, gx73, hE⟩ := bindO_some hE
      refine DOps.s0 (callR rfl rfl (ih_56 (gT := gT) (oT := oT) gx73 _ hpG (by assumption))) rfl ?_
      obtain ⟨x74, gx74, hE⟩ := bindO_some hE
      refine DOps.s0 (catM rfl rfl gx74) rfl ?_
      refine DOps.s0 (buildSlice (TK rfl) rfl (TK rfl) rfl rfl rfl rfl rfl rfl) rfl ?_
      obtain ⟨x75, gx75, hE⟩ := bindO_some hE
      refine DOps.sH (appM (f := strE) (TK rfl) rfl (TK rfl) (TK rfl) ⟨_, rfl⟩ rfl rfl (by decide) rfl rfl rfl rfl hpG rfl gx75) rfl ?_
      refine DOps.heq (h' := (H.set tk1 (some (.tok 1 x75.l.length)))) (by first | rfl | (rw [Heap.set_set]; rfl) | (funext n_; simp only [Heap.set]; (repeat' split) <;> first | rfl | (exfalso; simp_all; done) | (simp_all; done))) ?_
      refine DOps.s0 assignA rfl ?_
      refine DOps.nil (by decide +kernel) ?_
      refine hK68 _ ?_
      clear hK68 K68
      refine region ?_
      obtain ⟨x76, gx76, hE⟩ := bindO_some hE
      refine s0 (addM rfl rfl gx76) rfl ?_
      refine s0 moveA rfl ?_
      refine nil ?_
      exact hK62 _ (n62, x75, x76) Weak.toA hE (Nat.lt_succ_self _)
     refine AWp.exit ?_
     exact hK53 _ s3_63 Weak.toA hE
  rintro s3_54 hE
  try dsimp only at hE
  unfold Z17_j53 at hE
  refine seqK fun K55 hK55 => ?_
  refine region ?_
  refine s0 moveA rfl ?_
  obtain ⟨x56, gx56, hE⟩ := bindO_some hE
  refine s0 (callP rfl rfl (fun H => Z82_walk gx56 H)) rfl ?_
  obtain ⟨x57, gx57, hE⟩ := bindO_some hE
  refine s0 (catM rfl rfl gx57) rfl ?_
  obtain ⟨x58, gx58, hE⟩ := bindO_some hE
  refine s0 (catM rfl rfl gx58) rfl ?_
  refine s0 assignA rfl ?_
  refine nil ?_
  refine hK55 _ ?_
  clear hK55 K55
  refine AWp.ret ?_
  repeat (first | refine xBlock_ret ?_ | refine xThen_ret ?_)
  obtain rfl := Option.some.inj hE
  refine retQ.retF H rfl ⟨rfl, rfl⟩ ?_
  first | exact Heap.sub_set htk1 | (simp only [Heap.set_set]; exact Heap.sub_set htk1)
 refine AWp.skip ?_
 refine hK3 _ ?_
 clear hK3 K3
 refine seqK fun K77 hK77 => ?_
 refine region ?_
 refine s0 assignA rfl ?_
 refine nil ?_
 refine hK77 _ ?_
 clear hK77 K77
 refine AWp.ret ?_
 repeat (first | refine xBlock_ret ?_ | refine xThen_ret ?_)
 obtain rfl := Option.some.inj hE
 refine retQ.retF H rfl ⟨rfl, rfl⟩ ?_
 first | exact Heap.sub_set htk1 | (simp only [Heap.set_set]; exact Heap.sub_set htk1)
theorem Z17_all : ∀ (n : Nat), (∀ {a0 : TValue} {oT : Ab.Obj} {gT : Nat} {r : Bs}, Z17_n n a0 = some r → ∀ (H : Heap) (hgT : H gT = some oT) (hoT : IsTab Tryz.prog oT), ACalls Tryz.prog 56 [.agg (TValue.c a0)] H fun v h' => v = .a (.d (.str r)) ∧ h' = H)
 | 0 => fun hE => by first | cases hE | (rw [Z17_n] at hE; cases hE)
 | n + 1 => Z17_step n (Z17_all n)
def Z17 (a0 : TValue) : Option Bs := Z17_n F0 a0
theorem Z17_walk {a0 : TValue} {oT : Ab.Obj} {gT : Nat} {r : Bs} (hE : Z17 a0 = some r) (H : Heap) (hgT : H gT = some oT) (hoT : IsTab Tryz.prog oT) : ACalls Tryz.prog 56 [.agg (TValue.c a0)] H fun v h' => v = .a (.d (.str r)) ∧ h' = H := (Z17_all F0) hE H hgT hoT
end Go.Proofs
