import Derived.Test.YtjlggcgmmpopmaaDoorV3
set_option maxRecDepth 100000
set_option maxHeartbeats 2000000
set_option linter.unusedVariables false
set_option linter.unusedSimpArgs false
namespace Go.Proofs
open Go Go.Ab
open AOps Cert AWp
variable {lou : Lou}
def Z2 (a0 : TDoc) (a1 : TRef) (a2 : TValue) (a3 : TValue) : Option (TValue × Int) := (Z10 (Coerce_coercer.mk a0 a3 true (0 : Int)) a2).bind fun x6 => bif x6 then ((Z39 a0 a1.FName).bind fun x10 => bif (!x10) then (some ((TValue.mk (0 : Int) (0 : Int) ([] : Bs) true ([]) (Sl.nil : Sl Bs)), (10 : Int))) else (some ((TValue.mk (0 : Int) (0 : Int) ([] : Bs) true ([]) (Sl.nil : Sl Bs)), (8 : Int)))) else ((coerce_coercer_at (Coerce_coercer.mk a0 a3 true (0 : Int)) a1 a2 (1 : Int)).bind fun x15 => (Z14 x15.1 x15.2.1).bind fun x16 => some (x16.1, x16.2))
theorem Z2_walk {a0 : TDoc} {a1 : TRef} {a2 : TValue} {a3 : TValue} {oT : Ab.Obj} {gT : Nat} {r : (TValue × Int)} (hE : Z2 a0 a1 a2 a3 = some r) (H : Heap) (hgT : H gT = some oT) (hoT : IsTab Tryd.prog oT) : ACalls Tryd.prog 13 [.agg (TDoc.c a0), .agg (TRef.c a1), .agg (TValue.c a2), .agg (TValue.c a3)] H fun v h' => v = .tup [.agg (TValue.c r.1), .d (.int .i64 r.2)] ∧ h' = H := by
 unfold Z2 at hE
 refine ACalls.of_wp (fn := Tryd.f13) (c := _) Tryd.tab_ok (fun _ _ => Tryd.call13 _ _) Tryd.func13 rfl (n := 34) rfl (rs := [.cell 8 27, .tmp 9]) rfl rfl ?_
 refine seqK fun K1 hK1 => ?_
 refine region ?_
 refine s0 (boxV rfl) rfl ?_
 refine s0 (boxV rfl) rfl ?_
 refine s0 (boxV rfl) rfl ?_
 refine s0 (boxV rfl) rfl ?_
 refine sL (allocLA (TK rfl) rfl) rfl ?_
 refine s0 assignA rfl ?_
 refine nil ?_
 refine hK1 _ ?_
 clear hK1 K1
 refine seqK fun K2 hK2 => ?_
 refine region ?_
 refine s0 (loadV (TK rfl) rfl rfl rfl) rfl ?_
 refine s0 (loadV (TK rfl) rfl rfl rfl) rfl ?_
 refine s0 (build Tryd.tab_ok rfl rfl rfl rfl rfl rfl) rfl ?_
 refine sE (StepE.boxO rfl) rfl (fun _ _ _ ⟨id14_3, hid14_3, e1, e2, e3⟩ => ?_); subst e1 e2 e3
 have ne_id14_3_gT : id14_3 ≠ gT := fun e_ => by subst e_; simp_all
 refine AOps.heq (h' := (H.set id14_3 (some (.cells (Coerce_coercer.c (Coerce_coercer.mk a0 a3 true (0 : Int))))))) (by first | rfl | (rw [Heap.set_set]; rfl) | (funext n_; simp only [Heap.set]; (repeat' split) <;> first | rfl | (exfalso; simp_all; done) | (simp_all; done))) ?_
 refine s0 assignA rfl ?_
 refine nil ?_
 refine hK2 _ ?_
 clear hK2 K2
 refine seqK fun K4 hK4 => ?_
 refine seqK fun K5 hK5 => ?_
 refine region ?_
 refine s0 moveA rfl ?_
 refine s0 (loadV (TK rfl) rfl rfl rfl) rfl ?_
 obtain ⟨x6, gx6, hE⟩ := bindO_some hE
 refine s0 (callR rfl rfl (Z10_walk gx6 _ hpG)) rfl ?_
 refine nil ?_
 refine hK5 _ ?_
 clear hK5 K5
 refine condE hE rfl (fun hc7 hE => ?_) (fun hc7 hE => ?_)
 ·refine seqK fun K8 hK8 => ?_
  refine seqK fun K9 hK9 => ?_
  refine region ?_
  refine s0 (loadV (TK rfl) rfl rfl rfl) rfl ?_
  refine s0 (fieldVA (TK rfl) rfl rfl (TK rfl) rfl rfl) rfl ?_
  refine s0 (loadV (TK rfl) rfl rfl rfl) rfl ?_
  obtain ⟨x10, gx10, hE⟩ := bindO_some hE
  refine s0 (callP rfl rfl (fun H => Z39_walk gx10 H)) rfl ?_
  refine s0 (notB rfl) rfl ?_
  refine nil ?_
  refine hK9 _ ?_
  clear hK9 K9
  refine condE hE rfl (fun hc11 hE => ?_) (fun hc11 hE => ?_)
  ·refine seqK fun K12 hK12 => ?_
   refine region ?_
   refine s0 (build Tryd.tab_ok rfl rfl rfl rfl rfl rfl) rfl ?_
   refine sLn (storeLFA (TK rfl) rfl rfl rfl rfl rfl) ?_
   refine s0 assignA rfl ?_
   refine nil ?_
   refine hK12 _ ?_
   clear hK12 K12
   refine AWp.ret ?_
   repeat (first | refine xBlock_ret ?_ | refine xThen_ret ?_)
   obtain rfl := Option.some.inj hE
   refine retQ.retF H rfl ⟨rfl, rfl⟩ ?_
   first | exact Heap.sub_set hid14_3 | (simp only [Heap.set_set]; exact Heap.sub_set hid14_3)
  refine AWp.skip ?_
  refine hK8 _ ?_
  clear hK8 K8
  refine seqK fun K13 hK13 => ?_
  refine region ?_
  refine s0 (build Tryd.tab_ok rfl rfl rfl rfl rfl rfl) rfl ?_
  refine sLn (storeLFA (TK rfl) rfl rfl rfl rfl rfl) ?_
  refine s0 assignA rfl ?_
  refine nil ?_
  refine hK13 _ ?_
  clear hK13 K13
  refine AWp.ret ?_
  repeat (first | refine xBlock_ret ?_ | refine xThen_ret ?_)
  obtain rfl := Option.some.inj hE
  refine retQ.retF H rfl ⟨rfl, rfl⟩ ?_
  first | exact Heap.sub_set hid14_3 | (simp only [Heap.set_set]; exact Heap.sub_set hid14_3)
 refine AWp.skip ?_
 refine hK4 _ ?_
 clear hK4 K4
 refine seqK fun K14 hK14 => ?_
 refine region ?_
 refine s0 moveA rfl ?_
 refine s0 (loadV (TK rfl) rfl rfl rfl) rfl ?_
 refine s0 (loadV (TK rfl) rfl rfl rfl) rfl ?_
 obtain ⟨x15, gx15, hE⟩ := bindO_some hE
 refine sH (callH rfl rfl (coerce_coercer_at_walk (gT := gT) (oT := oT) gx15 _ hpG hpG (by assumption))) rfl ?_
 refine AOps.heq (h' := (H.set id14_3 (some (.cells (Coerce_coercer.c x15.2.2))))) (by first | rfl | (rw [Heap.set_set]; rfl) | (funext n_; simp only [Heap.set]; (repeat' split) <;> first | rfl | (exfalso; simp_all; done) | (simp_all; done))) ?_
 refine s0 (extract rfl rfl) rfl ?_
 refine s0 (extract rfl rfl) rfl ?_
 obtain ⟨x16, gx16, hE⟩ := bindO_some hE
 refine s0 (callP rfl rfl (fun H => Z14_walk gx16 H)) rfl ?_
 refine s0 (extract rfl rfl) rfl ?_
 refine s0 (extract rfl rfl) rfl ?_
 refine sLn (storeLFA (TK rfl) rfl rfl rfl rfl rfl) ?_
 refine s0 assignA rfl ?_
 refine nil ?_
 refine hK14 _ ?_
 clear hK14 K14
 refine AWp.ret ?_
 repeat (first | refine xBlock_ret ?_ | refine xThen_ret ?_)
 obtain rfl := Option.some.inj hE
 refine retQ.retF H rfl ⟨rfl, rfl⟩ ?_
 first | exact Heap.sub_set hid14_3 | (simp only [Heap.set_set]; exact Heap.sub_set hid14_3)
def Z1 (a0 : TDoc) (a1 : TRef) (a2 : TValue) : Option (TValue × Int) := (coerce_coercer_at (Coerce_coercer.mk a0 TValue.zero false (0 : Int)) a1 a2 (1 : Int)).bind fun x5 => (Z14 x5.1 x5.2.1).bind fun x6 => some (x6.1, x6.2)
theorem Z1_walk {a0 : TDoc} {a1 : TRef} {a2 : TValue} {oT : Ab.Obj} {gT : Nat} {r : (TValue × Int)} (hE : Z1 a0 a1 a2 = some r) (H : Heap) (hgT : H gT = some oT) (hoT : IsTab Tryd.prog oT) : ACalls Tryd.prog 14 [.agg (TDoc.c a0), .agg (TRef.c a1), .agg (TValue.c a2)] H fun v h' => v = .tup [.agg (TValue.c r.1), .d (.int .i64 r.2)] ∧ h' = H := by
 unfold Z1 at hE
 refine ACalls.of_wp (fn := Tryd.f14) (c := _) Tryd.tab_ok (fun _ _ => Tryd.call14 _ _) Tryd.func14 rfl (n := 21) rfl (rs := [.cell 6 27, .tmp 7]) rfl rfl ?_
 refine seqK fun K1 hK1 => ?_
 refine region ?_
 refine s0 (boxV rfl) rfl ?_
 refine s0 (boxV rfl) rfl ?_
 refine s0 (boxV rfl) rfl ?_
 refine sL (allocLA (TK rfl) rfl) rfl ?_
 refine s0 assignA rfl ?_
 refine nil ?_
 refine hK1 _ ?_
 clear hK1 K1
 refine seqK fun K2 hK2 => ?_
 refine region ?_
 refine s0 (loadV (TK rfl) rfl rfl rfl) rfl ?_
 refine s0 (build Tryd.tab_ok rfl rfl rfl rfl rfl rfl) rfl ?_
 refine sE (StepE.boxO rfl) rfl (fun _ _ _ ⟨id11_3, hid11_3, e1, e2, e3⟩ => ?_); subst e1 e2 e3
 have ne_id11_3_gT : id11_3 ≠ gT := fun e_ => by subst e_; simp_all
 refine AOps.heq (h' := (H.set id11_3 (some (.cells (Coerce_coercer.c (Coerce_coercer.mk a0 TValue.zero false (0 : Int))))))) (by first | rfl | (rw [Heap.set_set]; rfl) | (funext n_; simp only [Heap.set]; (repeat' split) <;> first | rfl | (exfalso; simp_all; done) | (simp_all; done))) ?_
 refine s0 assignA rfl ?_
 refine nil ?_
 refine hK2 _ ?_
 clear hK2 K2
 refine seqK fun K4 hK4 => ?_
 refine region ?_
 refine s0 moveA rfl ?_
 refine s0 (loadV (TK rfl) rfl rfl rfl) rfl ?_
 refine s0 (loadV (TK rfl) rfl rfl rfl) rfl ?_
 obtain ⟨x5, gx5, hE⟩ := bindO_some hE
 refine sH (callH rfl rfl (coerce_coercer_at_walk (gT := gT) (oT := oT) gx5 _ hpG hpG (by assumption))) rfl ?_
 refine AOps.heq (h' := (H.set id11_3 (some (.cells (Coerce_coercer.c x5.2.2))))) (by first | rfl | (rw [Heap.set_set]; rfl) | (funext n_; simp only [Heap.set]; (repeat' split) <;> first | rfl | (exfalso; simp_all; done) | (simp_all; done))) ?_
 refine s0 (extract rfl rfl) rfl ?_
 refine s0 (extract rfl rfl) rfl ?_
 obtain ⟨x6, gx6, hE⟩ := bindO_some hE
 refine s0 (callP rfl rfl (fun H => Z14_walk gx6 H)) rfl ?_
 refine s0 (extract rfl rfl) rfl ?_
 refine s0 (extract rfl rfl) rfl ?_
 refine sLn (storeLFA (TK rfl) rfl rfl rfl rfl rfl) ?_
 refine s0 assignA rfl ?_
 refine nil ?_
 refine hK4 _ ?_
 clear hK4 K4
 refine AWp.ret ?_
 repeat (first | refine xBlock_ret ?_ | refine xThen_ret ?_)
 obtain rfl := Option.some.inj hE
 refine retQ.retF H rfl ⟨rfl, rfl⟩ ?_
 first | exact Heap.sub_set hid11_3 | (simp only [Heap.set_set]; exact Heap.sub_set hid11_3)
def Z6_j2  (y3_l0 : TValue) : Option (TValue × Bool) := some ((TValue.mk (0 : Int) (0 : Int) ([] : Bs) true ([]) (Sl.nil : Sl Bs)), false)
def Z6_l7 (a0 : (Sl TArg)) (a1 : Bs)  : Nat → Nat → TValue → Option (TValue × Bool)
 | 0, _, _ => none
 | n7 + 1, s10_8, y9_l0 => bif (decide (((s10_8 : Nat) : Int) < ((a0.l.length : Nat) : Int))) then ((a0.l[s10_8]?).bind fun x15 => bif ((x15.FName == a1)) then (some (x15.FValue, true)) else ((Z6_l7 a0 a1 n7) (s10_8 + 1) y9_l0)) else (Z6_j2   y9_l0)
def Z6 (a0 : (Sl TArg)) (a1 : Bs) : Option (TValue × Bool) := Z6_l7 a0 a1 (a0.l.length + 1) 0 TValue.zero
theorem Z6_walk {a0 : (Sl TArg)} {a1 : Bs} {w0 : Option Nat}  {r : (TValue × Bool)} (hE : Z6 a0 a1 = some r) (H : Heap)  : ACalls Tryd.prog 34 [.d (Sl.d 6 TArg.c w0 a0), .d (.str a1)] H fun v h' => v = .tup [.agg (TValue.c r.1), .d (.bool r.2)] ∧ h' = H := by
 unfold Z6 at hE
 refine ACalls.of_wp (fn := Tryd.f34) (c := _) Tryd.tab_ok (fun _ _ => Tryd.call34 _ _) Tryd.func34 rfl (n := 22) rfl (rs := [.cell 4 27, .tmp 5]) rfl rfl ?_
 refine seqK fun K1 hK1 => ?_
 refine region ?_
 refine sL (allocLA (TK rfl) rfl) rfl ?_
 refine s0 assignA rfl ?_
 refine nil ?_
 refine hK1 _ ?_
 clear hK1 K1
 refine seqJ (KeepsT.A (k := 4) KeepsT.nil) (fun (z : TValue) => []) (fun z => [TValue.c z]) (fun z => H) (fun z => Z6_j2 z = some r) ?_ ?_
 ·intro K2 hK2
  refine seqK fun K5 hK5 => ?_
  refine region ?_
  refine s0 moveA rfl ?_
  refine sLen (f := TArg.c) (s := a0) (TK rfl) rfl rfl rfl rfl fun hL6 => ?_
  refine s0 moveA rfl ?_
  refine nil ?_
  refine hK5 _ ?_
  clear hK5 K5
  refine block ?_
  refine loopO (KeepsT.A (k := 1) (KeepsT.A (k := 4) (KeepsT.A (k := 8) (KeepsT.A (k := 9) KeepsT.nil)))) (fun (z : Nat × Nat × TValue) => [(10, .a (.d (.int .i64 ((z.2.1 : Nat) : Int))))]) (fun z => [TValue.c z.2.2]) (fun z => H) (fun z => z.1) (fun z => Z6_l7 a0 a1 z.1 z.2.1 z.2.2 = some r) ((a0.l.length + 1), 0, TValue.zero) hE Weak.toA ?_
  rintro ⟨n7, s10_8, y9_l0⟩ hE K7 hK7
  try dsimp only at hE
  cases n7 with
  | zero => cases hE
  | succ n7 =>
    rw [Z6_l7] at hE
    refine seqK fun K10 hK10 => ?_
    refine region ?_
    refine s0 (binI rfl rfl rfl) rfl ?_
    refine nil ?_
    refine hK10 _ ?_
    clear hK10 K10
    refine seqK fun K11 hK11 => ?_
    refine condE hE rfl (fun hc12 hE => ?_) (fun hc12 hE => ?_)
    ·try dsimp only at hc12
     have hf12 := of_decide_eq_true hc12
     refine AWp.skip ?_
     refine hK11 _ ?_
     clear hK11 K11
     refine seqK fun K13 hK13 => ?_
     refine block ?_
     refine seqK fun K14 hK14 => ?_
     refine region ?_
     obtain ⟨x15, gx15, hE⟩ := bindO_some hE
     refine s0 (idxMn (f := TArg.c) (n := s10_8) (TK rfl) rfl (TK rfl) rfl rfl rfl gx15) rfl ?_
     refine s0 (loadV (TK rfl) rfl rfl rfl) rfl ?_
     refine sL (allocLA (TK rfl) rfl) rfl ?_
     refine sLn (storeLFA (TK rfl) rfl rfl rfl rfl rfl) ?_
     refine nil ?_
     refine hK14 _ ?_
     clear hK14 K14
     refine freezeA 7 _ rfl (Keeps.c (k := 1) (by conv => lhs; whnf) (by rfl) (Keeps.c (k := 4) (by conv => lhs; whnf) (by rfl) (Keeps.c (k := 8) (by conv => lhs; whnf) (by rfl) (Keeps.c (k := 9) (by conv => lhs; whnf) (by rfl) (Keeps.c (k := 10) (by conv => lhs; whnf) (by rfl) Keeps.nil))))) ?_
     refine seqK fun K16 hK16 => ?_
     refine region ?_
     refine s0 (fieldVA (TK rfl) rfl rfl (TK rfl) rfl rfl) rfl ?_
     refine s0 (loadV (TK rfl) rfl rfl rfl) rfl ?_
     refine s0 moveA rfl ?_
     refine s0 (binS rfl rfl rfl) rfl ?_
     refine nil ?_
     refine hK16 _ ?_
     clear hK16 K16
     refine condE hE rfl (fun hc17 hE => ?_) (fun hc17 hE => ?_)
     ·refine seqK fun K18 hK18 => ?_
      refine region ?_
      refine s0 (fieldVA (TK rfl) rfl rfl (TK rfl) rfl rfl) rfl ?_
      refine s0 (loadV (TK rfl) rfl rfl rfl) rfl ?_
      refine sLn (storeLFA (TK rfl) rfl rfl rfl rfl rfl) ?_
      refine s0 assignA rfl ?_
      refine nil ?_
      refine hK18 _ ?_
      clear hK18 K18
      refine AWp.ret ?_
      repeat (first | refine xBlock_ret ?_ | refine xThen_ret ?_)
      obtain rfl := Option.some.inj hE
      refine retQ.retF H rfl ⟨rfl, rfl⟩ ?_
      exact (fun _ _ h => h)
     refine AWp.skip ?_
     refine hK13 _ ?_
     clear hK13 K13
     refine region ?_
     refine s0 (addIA rfl rfl) rfl ?_
     refine s0 moveA rfl ?_
     refine nil ?_
     exact hK7 _ (n7, (s10_8 + 1), y9_l0) Weak.toA hE (Nat.lt_succ_self _)
    refine AWp.exit ?_
    exact hK2 _ y9_l0 Weak.toA hE
 rintro y3_l0 hE
 try dsimp only at hE
 unfold Z6_j2 at hE
 refine seqK fun K4 hK4 => ?_
 refine region ?_
 refine s0 (build Tryd.tab_ok rfl rfl rfl rfl rfl rfl) rfl ?_
 refine sLn (storeLFA (TK rfl) rfl rfl rfl rfl rfl) ?_
 refine s0 assignA rfl ?_
 refine nil ?_
 refine hK4 _ ?_
 clear hK4 K4
 refine AWp.ret ?_
 repeat (first | refine xBlock_ret ?_ | refine xThen_ret ?_)
 obtain rfl := Option.some.inj hE
 refine retQ.retF H rfl ⟨rfl, rfl⟩ ?_
 exact (fun _ _ h => h)
def Z0_j6  (s17_7 : (Sl TArg)) : Option ((Sl TArg) × Int) := some (s17_7, (0 : Int))
def Z0_j17 (s60_13 : Nat) (k_next_11 : (Sl TArg) → Nat → Option ((Sl TArg) × Int)) (s17_18 : (Sl TArg)) : Option ((Sl TArg) × Int) := k_next_11 s17_18 (s60_13 + 1)
def Z0_j30 (s17_12 : (Sl TArg)) (s60_13 : Nat) (x20 : TInput) (k_next_11 : (Sl TArg) → Nat → Option ((Sl TArg) × Int)) (s24_31 : Int) (y32_l0 : TValue) : Option ((Sl TArg) × Int) := bif (!decide (s24_31 = (0 : Int))) then (some ((Sl.nil : Sl TArg), s24_31)) else ((appC 96 s17_12 (⟨false, [(TArg.mk x20.FName y32_l0)]⟩ : Sl TArg)).bind fun x37 => Z0_j17 s60_13 k_next_11 x37)
def Z0_l11 (a0 : TDoc) (a1 : (Sl TInput)) (a2 : (Sl TArg)) (a3 : TValue)  : Nat → (Sl TArg) → Nat → Option ((Sl TArg) × Int)
 | 0, _, _ => none
 | n11 + 1, s17_12, s60_13 => bif (decide (((s60_13 : Nat) : Int) < ((a1.l.length : Nat) : Int))) then ((a1.l[s60_13]?).bind fun x20 => (partC a1 none (some ((s60_13 : Nat) : Int))).bind fun x23 => (Z38 x23 x20.FName).bind fun x24 => bif x24.2 then (Z0_j17 s60_13 ((Z0_l11 a0 a1 a2 a3 n11)) s17_12) else ((Z6 a2 x20.FName).bind fun x28 => guardO (x28.2) (Z10 (Coerce_coercer.mk a0 a3 true (0 : Int)) x28.1) false fun x39 => bif (x28.2 && (!x39)) then ((Z2 a0 x20.FType x28.1 a3).bind fun x41 => Z0_j30 s17_12 s60_13 x20 ((Z0_l11 a0 a1 a2 a3 n11)) x41.2 x41.1) else (bif x20.FHas then ((Z2 a0 x20.FType x20.FDefault (TValue.mk (0 : Int) (0 : Int) ([] : Bs) true ([]) (Sl.nil : Sl Bs))).bind fun x44 => Z0_j30 s17_12 s60_13 x20 ((Z0_l11 a0 a1 a2 a3 n11)) x44.2 x44.1) else ((Z60 x20.FType).bind fun x46 => bif x46 then (Z0_j30 s17_12 s60_13 x20 ((Z0_l11 a0 a1 a2 a3 n11)) (22 : Int) x28.1) else (Z0_j17 s60_13 ((Z0_l11 a0 a1 a2 a3 n11)) s17_12))))) else (Z0_j6   s17_12)
def Z0_j2 (a0 : TDoc) (a1 : (Sl TInput)) (a2 : (Sl TArg)) (a3 : TValue)   : Option ((Sl TArg) × Int) := Z0_l11 a0 a1 a2 a3 (a1.l.length + 1) (Sl.nil : Sl TArg) 0
def Z0_l50 (a0 : TDoc) (a1 : (Sl TInput)) (a2 : (Sl TArg)) (a3 : TValue)  : Nat → Nat → Option ((Sl TArg) × Int)
 | 0, _ => none
 | n50 + 1, s27_51 => bif (decide (((s27_51 : Nat) : Int) < ((a2.l.length : Nat) : Int))) then ((a2.l[s27_51]?).bind fun x57 => (Z38 a1 x57.FName).bind fun x59 => (partC a2 none (some ((s27_51 : Nat) : Int))).bind fun x61 => (Z6 x61 x57.FName).bind fun x62 => bif ((!x59.2) || x62.2) then (some ((Sl.nil : Sl TArg), (22 : Int))) else ((Z0_l50 a0 a1 a2 a3 n50) (s27_51 + 1))) else (Z0_j2 a0 a1 a2 a3  )
def Z0 (a0 : TDoc) (a1 : (Sl TInput)) (a2 : (Sl TArg)) (a3 : TValue) : Option ((Sl TArg) × Int) := Z0_l50 a0 a1 a2 a3 (a2.l.length + 1) 0
theorem Z0_walk {a0 : TDoc} {a1 : (Sl TInput)} {a2 : (Sl TArg)} {a3 : TValue} {w1 : Option Nat} {w2 : Option Nat} {oT : Ab.Obj} {gT : Nat} {r : ((Sl TArg) × Int)} (hE : Z0 a0 a1 a2 a3 = some r) (H : Heap) (hgT : H gT = some oT) (hoT : IsTab Tryd.prog oT) : ACalls Tryd.prog 16 [.agg (TDoc.c a0), .d (Sl.d 10 TInput.c w1 a1), .d (Sl.d 6 TArg.c w2 a2), .agg (TValue.c a3)] H fun v h' => v = .tup [.d (Sl.d 6 TArg.c none r.1), .d (.int .i64 r.2)] ∧ h' = H := by
 unfold Z0 at hE
 refine ACalls.of_wp (fn := Tryd.f16) (c := _) Tryd.tab_ok (fun _ _ => Tryd.call16 _ _) Tryd.func16 rfl (n := 128) rfl (rs := [.tmp 8, .tmp 9]) rfl rfl ?_
 refine AWp.tok 6 fun tk1 htk1 => ?_
 have ne_tk1_gT : tk1 ≠ gT := fun e_ => by subst e_; simp_all
 refine seqK fun K1 hK1 => ?_
 refine region ?_
 refine s0 (boxV rfl) rfl ?_
 refine s0 (boxV rfl) rfl ?_
 refine s0 (assignNil (k' := 6) rfl) rfl ?_
 refine s0 assignA rfl ?_
 refine nil ?_
 refine hK1 _ ?_
 clear hK1 K1
 refine seqJH (KeepsT.A (k := 1) (KeepsT.A (k := 2) (KeepsT.A (k := 4) (KeepsT.A (k := 7) KeepsT.nil)))) (fun (z : Unit) => []) (fun z => (H.set tk1 (some (.tok 6 0)))) (fun z => Z0_j2 a0 a1 a2 a3  = some r) ?_ ?_
 ·intro K2 hK2
  refine seqK fun K48 hK48 => ?_
  refine region ?_
  refine s0 moveA rfl ?_
  refine sLen (f := TArg.c) (s := a2) (TK rfl) rfl rfl rfl rfl fun hL49 => ?_
  refine s0 moveA rfl ?_
  refine nil ?_
  refine hK48 _ ?_
  clear hK48 K48
  refine block ?_
  refine loopH (KeepsT.A (k := 1) (KeepsT.A (k := 2) (KeepsT.A (k := 4) (KeepsT.A (k := 7) (KeepsT.A (k := 25) (KeepsT.A (k := 26) KeepsT.nil)))))) (fun (z : Nat × Nat) => [(27, .a (.d (.int .i64 ((z.2 : Nat) : Int))))]) (fun z => (H.set tk1 (some (.tok 6 0)))) (fun z => z.1) (fun z => Z0_l50 a0 a1 a2 a3 z.1 z.2 = some r) ((a2.l.length + 1), 0) hE Weak.toA ?_
  rintro ⟨n50, s27_51⟩ hE K50 hK50
  try dsimp only at hE
  cases n50 with
  | zero => cases hE
  | succ n50 =>
    rw [Z0_l50] at hE
    refine seqK fun K52 hK52 => ?_
    refine region ?_
    refine s0 (binI rfl rfl rfl) rfl ?_
    refine nil ?_
    refine hK52 _ ?_
    clear hK52 K52
    refine seqK fun K53 hK53 => ?_
    refine condE hE rfl (fun hc54 hE => ?_) (fun hc54 hE => ?_)
    ·try dsimp only at hc54
     have hf54 := of_decide_eq_true hc54
     refine AWp.skip ?_
     refine hK53 _ ?_
     clear hK53 K53
     refine seqK fun K55 hK55 => ?_
     refine block ?_
     refine seqK fun K56 hK56 => ?_
     refine region ?_
     refine s0 moveA rfl ?_
     obtain ⟨x57, gx57, hE⟩ := bindO_some hE
     refine s0 (idxMn (f := TArg.c) (n := s27_51) (TK rfl) rfl (TK rfl) rfl rfl rfl gx57) rfl ?_
     refine s0 (loadV (TK rfl) rfl rfl rfl) rfl ?_
     refine sL (allocLA (TK rfl) rfl) rfl ?_
     refine s0 assignA rfl ?_
     refine sLn (storeLFA (TK rfl) rfl rfl rfl rfl rfl) ?_
     refine nil ?_
     refine hK56 _ ?_
     clear hK56 K56
     refine freezeA 11 _ rfl (Keeps.c (k := 1) (by conv => lhs; whnf) (by rfl) (Keeps.c (k := 2) (by conv => lhs; whnf) (by rfl) (Keeps.c (k := 4) (by conv => lhs; whnf) (by rfl) (Keeps.c (k := 7) (by conv => lhs; whnf) (by rfl) (Keeps.c (k := 10) (by conv => lhs; whnf) (by rfl) (Keeps.c (k := 25) (by conv => lhs; whnf) (by rfl) (Keeps.c (k := 26) (by conv => lhs; whnf) (by rfl) (Keeps.c (k := 27) (by conv => lhs; whnf) (by rfl) Keeps.nil)))))))) ?_
     refine seqK fun K58 hK58 => ?_
     refine region ?_
     refine s0 moveA rfl ?_
     refine s0 (fieldVA (TK rfl) rfl rfl (TK rfl) rfl rfl) rfl ?_
     refine s0 (loadV (TK rfl) rfl rfl rfl) rfl ?_
     obtain ⟨x59, gx59, hE⟩ := bindO_some hE
     refine s0 (callP rfl rfl (fun H => Z38_walk gx59 H)) rfl ?_
     refine s0 moveA rfl ?_
     refine s0 (extract rfl rfl) rfl ?_
     refine s0 (extract rfl rfl) rfl ?_
     refine sL (allocLA (TK rfl) rfl) rfl ?_
     refine sLn (storeLFA (TK rfl) rfl rfl rfl rfl rfl) ?_
     refine s0 assignA rfl ?_
     refine nil ?_
     refine hK58 _ ?_
     clear hK58 K58
     refine freezeA 12 _ rfl (Keeps.c (k := 1) (by conv => lhs; whnf) (by rfl) (Keeps.c (k := 2) (by conv => lhs; whnf) (by rfl) (Keeps.c (k := 4) (by conv => lhs; whnf) (by rfl) (Keeps.c (k := 7) (by conv => lhs; whnf) (by rfl) (Keeps.c (k := 10) (by conv => lhs; whnf) (by rfl) (Keeps.c (k := 11) (by conv => lhs; whnf) (by rfl) (Keeps.c (k := 13) (by conv => lhs; whnf) (by rfl) (Keeps.c (k := 25) (by conv => lhs; whnf) (by rfl) (Keeps.c (k := 26) (by conv => lhs; whnf) (by rfl) (Keeps.c (k := 27) (by conv => lhs; whnf) (by rfl) Keeps.nil)))))))))) ?_
     refine seqK fun K60 hK60 => ?_
     refine AWp.draw rfl ?_
     refine DOps.s0 moveA rfl ?_
     refine DOps.s0 moveA rfl ?_
     obtain ⟨x61, gx61, hE⟩ := bindO_some hE
     refine DOps.s0 (partM (f := TArg.c) (l := none) (r := (some ((s27_51 : Nat) : Int))) (TK rfl) rfl (TK rfl) rfl rfl trivial rfl gx61) rfl ?_
     refine DOps.s0 (fieldVA (TK rfl) rfl rfl (TK rfl) rfl rfl) rfl ?_
     refine DOps.s0 (loadV (TK rfl) rfl rfl rfl) rfl ?_
     obtain ⟨x62, gx62, hE⟩ := bindO_some hE
     refine DOps.s0 (callP rfl rfl (fun H => Z6_walk gx62 H)) rfl ?_
     refine DOps.s0 moveA rfl ?_
     refine DOps.s0 (extract rfl rfl) rfl ?_
     refine DOps.s0 (extract rfl rfl) rfl ?_
     refine DOps.sB (TK rfl) rfl rfl ?_ (by repeat (first | exact Snoc.nil | apply Snoc.cons))
     refine DOps.sLn (storeLFA (TK rfl) rfl rfl rfl rfl rfl) ?_
     refine DOps.s0 assignA rfl ?_
     refine DOps.nil (by decide +kernel) ?_
     refine hK60 _ ?_
     clear hK60 K60
     refine freezeA 14 _ rfl (Keeps.c (k := 1) (by conv => lhs; whnf) (by rfl) (Keeps.c (k := 2) (by conv => lhs; whnf) (by rfl) (Keeps.c (k := 4) (by conv => lhs; whnf) (by rfl) (Keeps.c (k := 7) (by conv => lhs; whnf) (by rfl) (Keeps.c (k := 13) (by conv => lhs; whnf) (by rfl) (Keeps.c (k := 15) (by conv => lhs; whnf) (by rfl) (Keeps.c (k := 25) (by conv => lhs; whnf) (by rfl) (Keeps.c (k := 26) (by conv => lhs; whnf) (by rfl) (Keeps.c (k := 27) (by conv => lhs; whnf) (by rfl) Keeps.nil))))))))) ?_
     refine seqK fun K63 hK63 => ?_
     refine region ?_
     refine s0 moveA rfl ?_
     refine s0 (notB rfl) rfl ?_
     refine s0 moveA rfl ?_
     refine gC rfl rfl (fun hC => moveA) rfl ?_
     refine s0 (pickOrA rfl rfl rfl) rfl ?_
     refine nil ?_
     refine hK63 _ ?_
     clear hK63 K63
     refine condE hE rfl (fun hc64 hE => ?_) (fun hc64 hE => ?_)
     ·refine seqK fun K65 hK65 => ?_
      refine region ?_
      refine s0 (assignNil (k' := 6) rfl) rfl ?_
      refine s0 assignA rfl ?_
      refine nil ?_
      refine hK65 _ ?_
      clear hK65 K65
      refine AWp.ret ?_
      repeat (first | refine xBlock_ret ?_ | refine xThen_ret ?_)
      obtain rfl := Option.some.inj hE
      refine retQ.retF H rfl ⟨rfl, rfl⟩ ?_
      first | exact Heap.sub_set htk1 | (simp only [Heap.set_set]; exact Heap.sub_set htk1)
     refine AWp.skip ?_
     refine hK55 _ ?_
     clear hK55 K55
     refine region ?_
     refine s0 (addIA rfl rfl) rfl ?_
     refine s0 moveA rfl ?_
     refine nil ?_
     exact hK50 _ (n50, (s27_51 + 1)) Weak.toA hE (Nat.lt_succ_self _)
    refine AWp.exit ?_
    exact hK2 _ () Weak.toA hE
 rintro _ hE
 try dsimp only at hE
 unfold Z0_j2 at hE
 refine seqK fun K3 hK3 => ?_
 refine region ?_
 refine s0 (loadV (TK rfl) rfl rfl rfl) rfl ?_
 refine s0 (loadV (TK rfl) rfl rfl rfl) rfl ?_
 refine s0 (build Tryd.tab_ok rfl rfl rfl rfl rfl rfl) rfl ?_
 refine sE (StepE.boxO rfl) rfl (fun _ _ _ ⟨id57_4, hid57_4, e1, e2, e3⟩ => ?_); subst e1 e2 e3
 obtain ⟨ne_id57_4_tk1, hid57_4⟩ := Heap.set_fresh hid57_4
 have ne_id57_4_gT : id57_4 ≠ gT := fun e_ => by subst e_; simp_all
 refine AOps.heq (h' := ((H.set tk1 (some (.tok 6 0))).set id57_4 (some (.cells (Coerce_coercer.c (Coerce_coercer.mk a0 a3 true (0 : Int))))))) (by first | rfl | (rw [Heap.set_set]; rfl) | (funext n_; simp only [Heap.set]; (repeat' split) <;> first | rfl | (exfalso; simp_all; done) | (simp_all; done))) ?_
 refine s0 assignA rfl ?_
 refine nil ?_
 refine hK3 _ ?_
 clear hK3 K3
 refine seqK fun K5 hK5 => ?_
 refine region ?_
 refine s0 assignA rfl ?_
 refine nil ?_
 refine hK5 _ ?_
 clear hK5 K5
 refine AWp.nilTok 17 6 tk1 rfl hpG ?_
 refine seqJH KeepsT.nil (fun (z : (Sl TArg)) => [(17, .a (.d (Sl.d 6 TArg.c (some tk1) z)))]) (fun z => ((H.set tk1 (some (.tok 6 z.l.length))).set id57_4 (some (.cells (Coerce_coercer.c (Coerce_coercer.mk a0 a3 true (0 : Int))))))) (fun z => Z0_j6 z = some r) ?_ ?_
 ·intro K6 hK6
  refine seqK fun K9 hK9 => ?_
  refine region ?_
  refine s0 moveA rfl ?_
  refine sLen (f := TInput.c) (s := a1) (TK rfl) rfl rfl rfl rfl fun hL10 => ?_
  refine s0 moveA rfl ?_
  refine nil ?_
  refine hK9 _ ?_
  clear hK9 K9
  refine block ?_
  refine loopH (KeepsT.A (k := 1) (KeepsT.A (k := 2) (KeepsT.A (k := 4) (KeepsT.A (k := 7) (KeepsT.A (k := 16) (KeepsT.A (k := 58) (KeepsT.A (k := 59) KeepsT.nil))))))) (fun (z : Nat × (Sl TArg) × Nat) => [(17, .a (.d (Sl.d 6 TArg.c (some tk1) z.2.1))), (60, .a (.d (.int .i64 ((z.2.2 : Nat) : Int))))]) (fun z => ((H.set tk1 (some (.tok 6 z.2.1.l.length))).set id57_4 (some (.cells (Coerce_coercer.c (Coerce_coercer.mk a0 a3 true (0 : Int))))))) (fun z => z.1) (fun z => Z0_l11 a0 a1 a2 a3 z.1 z.2.1 z.2.2 = some r) ((a1.l.length + 1), (Sl.nil : Sl TArg), 0) hE Weak.toA ?_
  rintro ⟨n11, s17_12, s60_13⟩ hE K11 hK11
  try dsimp only at hE
  cases n11 with
  | zero => cases hE
  | succ n11 =>
    rw [Z0_l11] at hE
    refine seqK fun K14 hK14 => ?_
    refine region ?_
    refine s0 (binI rfl rfl rfl) rfl ?_
    refine nil ?_
    refine hK14 _ ?_
    clear hK14 K14
    refine seqK fun K15 hK15 => ?_
    refine condE hE rfl (fun hc16 hE => ?_) (fun hc16 hE => ?_)
    ·try dsimp only at hc16
     have hf16 := of_decide_eq_true hc16
     refine AWp.skip ?_
     refine hK15 _ ?_
     clear hK15 K15
     refine seqJH (KeepsT.A (k := 1) (KeepsT.A (k := 2) (KeepsT.A (k := 4) (KeepsT.A (k := 7) (KeepsT.A (k := 16) (KeepsT.A (k := 58) (KeepsT.A (k := 59) (KeepsT.A (k := 60) KeepsT.nil)))))))) (fun (z : (Sl TArg)) => [(17, .a (.d (Sl.d 6 TArg.c (some tk1) z)))]) (fun z => ((H.set tk1 (some (.tok 6 z.l.length))).set id57_4 (some (.cells (Coerce_coercer.c (Coerce_coercer.mk a0 a3 true (0 : Int))))))) (fun z => Z0_j17 s60_13 ((Z0_l11 a0 a1 a2 a3 n11)) z = some r) ?_ ?_
     ·intro K17 hK17
      refine block ?_
      refine seqK fun K19 hK19 => ?_
      refine region ?_
      refine s0 moveA rfl ?_
      obtain ⟨x20, gx20, hE⟩ := bindO_some hE
      refine s0 (idxMn (f := TInput.c) (n := s60_13) (TK rfl) rfl (TK rfl) rfl rfl rfl gx20) rfl ?_
      refine s0 (loadV (TK rfl) rfl rfl rfl) rfl ?_
      refine sL (allocLA (TK rfl) rfl) rfl ?_
      refine s0 assignA rfl ?_
      refine sLn (storeLFA (TK rfl) rfl rfl rfl rfl rfl) ?_
      refine nil ?_
      refine hK19 _ ?_
      clear hK19 K19
      refine freezeA 19 _ rfl (Keeps.c (k := 1) (by conv => lhs; whnf) (by rfl) (Keeps.c (k := 2) (by conv => lhs; whnf) (by rfl) (Keeps.c (k := 4) (by conv => lhs; whnf) (by rfl) (Keeps.c (k := 7) (by conv => lhs; whnf) (by rfl) (Keeps.c (k := 16) (by conv => lhs; whnf) (by rfl) (Keeps.c (k := 17) (by conv => lhs; whnf) (by rfl) (Keeps.c (k := 18) (by conv => lhs; whnf) (by rfl) (Keeps.c (k := 58) (by conv => lhs; whnf) (by rfl) (Keeps.c (k := 59) (by conv => lhs; whnf) (by rfl) (Keeps.c (k := 60) (by conv => lhs; whnf) (by rfl) Keeps.nil)))))))))) ?_
      refine seqK fun K21 hK21 => ?_
      refine seqK fun K22 hK22 => ?_
      refine AWp.draw rfl ?_
      refine DOps.s0 moveA rfl ?_
      refine DOps.s0 moveA rfl ?_
      obtain ⟨x23, gx23, hE⟩ := bindO_some hE
      refine DOps.s0 (partM (f := TInput.c) (l := none) (r := (some ((s60_13 : Nat) : Int))) (TK rfl) rfl (TK rfl) rfl rfl trivial rfl gx23) rfl ?_
      refine DOps.s0 (fieldVA (TK rfl) rfl rfl (TK rfl) rfl rfl) rfl ?_
      refine DOps.s0 (loadV (TK rfl) rfl rfl rfl) rfl ?_
      obtain ⟨x24, gx24, hE⟩ := bindO_some hE
      refine DOps.s0 (callP rfl rfl (fun H => Z38_walk gx24 H)) rfl ?_
      refine DOps.s0 moveA rfl ?_
      refine DOps.s0 (extract rfl rfl) rfl ?_
      refine DOps.s0 (extract rfl rfl) rfl ?_
      refine DOps.sB (TK rfl) rfl rfl ?_ (by repeat (first | exact Snoc.nil | apply Snoc.cons))
      refine DOps.sLn (storeLFA (TK rfl) rfl rfl rfl rfl rfl) ?_
      refine DOps.s0 assignA rfl ?_
      refine DOps.nil (by decide +kernel) ?_
      refine hK22 _ ?_
      clear hK22 K22
      refine freezeA 20 _ rfl (Keeps.c (k := 1) (by conv => lhs; whnf) (by rfl) (Keeps.c (k := 2) (by conv => lhs; whnf) (by rfl) (Keeps.c (k := 4) (by conv => lhs; whnf) (by rfl) (Keeps.c (k := 7) (by conv => lhs; whnf) (by rfl) (Keeps.c (k := 16) (by conv => lhs; whnf) (by rfl) (Keeps.c (k := 17) (by conv => lhs; whnf) (by rfl) (Keeps.c (k := 19) (by conv => lhs; whnf) (by rfl) (Keeps.c (k := 21) (by conv => lhs; whnf) (by rfl) (Keeps.c (k := 58) (by conv => lhs; whnf) (by rfl) (Keeps.c (k := 59) (by conv => lhs; whnf) (by rfl) (Keeps.c (k := 60) (by conv => lhs; whnf) (by rfl) Keeps.nil))))))))))) ?_
      refine seqK fun K25 hK25 => ?_
      refine region ?_
      refine s0 moveA rfl ?_
      refine nil ?_
      refine hK25 _ ?_
      clear hK25 K25
      refine condE hE rfl (fun hc26 hE => ?_) (fun hc26 hE => ?_)
      ·refine AWp.exit ?_
       exact hK17 _ s17_12 Weak.toA hE
      refine AWp.skip ?_
      refine hK21 _ ?_
      clear hK21 K21
      refine seqK fun K27 hK27 => ?_
      refine region ?_
      refine s0 moveA rfl ?_
      refine s0 (fieldVA (TK rfl) rfl rfl (TK rfl) rfl rfl) rfl ?_
      refine s0 (loadV (TK rfl) rfl rfl rfl) rfl ?_
      obtain ⟨x28, gx28, hE⟩ := bindO_some hE
      refine s0 (callP rfl rfl (fun H => Z6_walk gx28 H)) rfl ?_
      refine s0 moveA rfl ?_
      refine s0 (extract rfl rfl) rfl ?_
      refine s0 (extract rfl rfl) rfl ?_
      refine sL (allocLA (TK rfl) rfl) rfl ?_
      refine sLn (storeLFA (TK rfl) rfl rfl rfl rfl rfl) ?_
      refine s0 assignA rfl ?_
      refine nil ?_
      refine hK27 _ ?_
      clear hK27 K27
      refine seqK fun K29 hK29 => ?_
      refine region ?_
      refine s0 assignA rfl ?_
      refine nil ?_
      refine hK29 _ ?_
      clear hK29 K29
      refine seqJ (KeepsT.A (k := 1) (KeepsT.A (k := 2) (KeepsT.A (k := 4) (KeepsT.A (k := 7) (KeepsT.A (k := 16) (KeepsT.A (k := 17) (KeepsT.A (k := 19) (KeepsT.A (k := 22) (KeepsT.A (k := 58) (KeepsT.A (k := 59) (KeepsT.A (k := 60) KeepsT.nil))))))))))) (fun (z : Int × TValue) => [(24, .a (.d (.int .i64 z.1)))]) (fun z => [TValue.c z.2]) (fun z => ((H.set tk1 (some (.tok 6 s17_12.l.length))).set id57_4 (some (.cells (Coerce_coercer.c (Coerce_coercer.mk a0 a3 true (0 : Int))))))) (fun z => Z0_j30 s17_12 s60_13 x20 ((Z0_l11 a0 a1 a2 a3 n11)) z.1 z.2 = some r) ?_ ?_
      ·intro K30 hK30
       refine block ?_
       refine seqK fun K38 hK38 => ?_
       refine region ?_
       refine s0 moveA rfl ?_
       refine s0 moveA rfl ?_
       refine gC rfl rfl (fun hC => moveA) rfl ?_
       refine gC rfl rfl (fun hC => loadL (TK rfl) rfl rfl rfl rfl) rfl ?_
       obtain ⟨x39, gx39, hE⟩ := guardO_some hE
       refine gC rfl rfl (fun hC => ungdA (k := 85) rfl (ungdA (k := 86) rfl (callR rfl rfl (Z10_walk (gx39 hC) _ hpG)))) rfl ?_
       refine gC rfl rfl (fun hC => ungdA (k := 87) rfl (notB rfl)) rfl ?_
       refine s0 (pickAndA rfl rfl rfl) rfl ?_
       refine s0 assignA rfl ?_
       refine nil ?_
       refine hK38 _ ?_
       clear hK38 K38
       refine condE hE rfl (fun hc40 hE => ?_) (fun hc40 hE => ?_)
       ·refine region ?_
        refine s0 (loadV (TK rfl) rfl rfl rfl) rfl ?_
        refine s0 (fieldVA (TK rfl) rfl rfl (TK rfl) rfl rfl) rfl ?_
        refine s0 (loadV (TK rfl) rfl rfl rfl) rfl ?_
        refine s0 (loadL (TK rfl) rfl rfl rfl rfl) rfl ?_
        refine s0 (loadV (TK rfl) rfl rfl rfl) rfl ?_
        obtain ⟨x41, gx41, hE⟩ := bindO_some hE
        refine s0 (callR rfl rfl (Z2_walk (gT := gT) (oT := oT) gx41 _ hpG (by assumption))) rfl ?_
        refine s0 moveA rfl ?_
        refine s0 (extract rfl rfl) rfl ?_
        refine s0 (extract rfl rfl) rfl ?_
        refine sLn (storeLFA (TK rfl) rfl rfl rfl rfl rfl) ?_
        refine s0 assignA rfl ?_
        refine nil ?_
        exact hK30 _ (x41.2, x41.1) Weak.toA hE
       refine seqK fun K42 hK42 => ?_
       refine region ?_
       refine s0 (fieldVA (TK rfl) rfl rfl (TK rfl) rfl rfl) rfl ?_
       refine s0 (loadV (TK rfl) rfl rfl rfl) rfl ?_
       refine s0 assignA rfl ?_
       refine nil ?_
       refine hK42 _ ?_
       clear hK42 K42
       refine condE hE rfl (fun hc43 hE => ?_) (fun hc43 hE => ?_)
       ·refine region ?_
        refine s0 (loadV (TK rfl) rfl rfl rfl) rfl ?_
        refine s0 (fieldVA (TK rfl) rfl rfl (TK rfl) rfl rfl) rfl ?_
        refine s0 (loadV (TK rfl) rfl rfl rfl) rfl ?_
        refine s0 (fieldVA (TK rfl) rfl rfl (TK rfl) rfl rfl) rfl ?_
        refine s0 (loadV (TK rfl) rfl rfl rfl) rfl ?_
        refine s0 (build Tryd.tab_ok rfl rfl rfl rfl rfl rfl) rfl ?_
        obtain ⟨x44, gx44, hE⟩ := bindO_some hE
        refine s0 (callR rfl rfl (Z2_walk (gT := gT) (oT := oT) gx44 _ hpG (by assumption))) rfl ?_
        refine s0 moveA rfl ?_
        refine s0 (extract rfl rfl) rfl ?_
        refine s0 (extract rfl rfl) rfl ?_
        refine sLn (storeLFA (TK rfl) rfl rfl rfl rfl rfl) ?_
        refine s0 assignA rfl ?_
        refine nil ?_
        exact hK30 _ (x44.2, x44.1) Weak.toA hE
       refine seqK fun K45 hK45 => ?_
       refine region ?_
       refine s0 (fieldVA (TK rfl) rfl rfl (TK rfl) rfl rfl) rfl ?_
       refine s0 (loadV (TK rfl) rfl rfl rfl) rfl ?_
       obtain ⟨x46, gx46, hE⟩ := bindO_some hE
       refine s0 (callP rfl rfl (fun H => Z60_walk gx46 H)) rfl ?_
       refine s0 assignA rfl ?_
       refine nil ?_
       refine hK45 _ ?_
       clear hK45 K45
       refine condE hE rfl (fun hc47 hE => ?_) (fun hc47 hE => ?_)
       ·refine region ?_
        refine s0 assignA rfl ?_
        refine nil ?_
        exact hK30 _ ((22 : Int), x28.1) Weak.toA hE
       refine AWp.exit ?_
       exact hK17 _ s17_12 Weak.toA hE
      rintro ⟨s24_31, y32_l0⟩ hE
      try dsimp only at hE
      unfold Z0_j30 at hE
      refine seqK fun K33 hK33 => ?_
      refine seqK fun K34 hK34 => ?_
      refine region ?_
      refine s0 moveA rfl ?_
      refine s0 (binI rfl rfl rfl) rfl ?_
      refine nil ?_
      refine hK34 _ ?_
      clear hK34 K34
      refine condE hE rfl (fun hc35 hE => ?_) (fun hc35 hE => ?_)
      ·refine seqK fun K36 hK36 => ?_
       refine region ?_
       refine s0 moveA rfl ?_
       refine s0 (assignNil (k' := 6) rfl) rfl ?_
       refine s0 assignA rfl ?_
       refine nil ?_
       refine hK36 _ ?_
       clear hK36 K36
       refine AWp.ret ?_
       repeat (first | refine xBlock_ret ?_ | refine xThen_ret ?_)
       obtain rfl := Option.some.inj hE
       refine retQ.retF H rfl ⟨rfl, rfl⟩ ?_
       intro id_ o_ he_
       have e_tk1 : id_ ≠ tk1 := fun e_ => by subst e_; simp_all [Heap.set]
       have e_id57_4 : id_ ≠ id57_4 := fun e_ => by subst e_; simp_all [Heap.set]
       rw [← he_]
       simp only [Heap.set] at he_ ⊢
       (repeat' split) <;> simp_all
      refine AWp.skip ?_
      refine hK33 _ ?_
      clear hK33 K33
      refine region ?_
      refine s0 moveA rfl ?_
      refine s0 (fieldVA (TK rfl) rfl rfl (TK rfl) rfl rfl) rfl ?_
      refine s0 (loadV (TK rfl) rfl rfl rfl) rfl ?_
      refine s0 (loadL (TK rfl) rfl rfl rfl rfl) rfl ?_
      refine s0 (build Tryd.tab_ok rfl rfl rfl rfl rfl rfl) rfl ?_
      refine s0 (buildSlice (TK rfl) rfl (TK rfl) rfl rfl rfl rfl rfl rfl) rfl ?_
      obtain ⟨x37, gx37, hE⟩ := bindO_some hE
      refine sH (appM (f := TArg.c) (TK rfl) rfl (TK rfl) (TK rfl) ⟨_, rfl⟩ rfl rfl (by decide) rfl rfl rfl rfl hpG rfl gx37) rfl ?_
      refine AOps.heq (h' := ((H.set tk1 (some (.tok 6 x37.l.length))).set id57_4 (some (.cells (Coerce_coercer.c (Coerce_coercer.mk a0 a3 true (0 : Int))))))) (by first | rfl | (rw [Heap.set_set]; rfl) | (funext n_; simp only [Heap.set]; (repeat' split) <;> first | rfl | (exfalso; simp_all; done) | (simp_all; done))) ?_
      refine s0 assignA rfl ?_
      refine nil ?_
      exact hK17 _ x37 Weak.toA hE
     rintro s17_18 hE
     try dsimp only at hE
     unfold Z0_j17 at hE
     refine region ?_
     refine s0 (addIA rfl rfl) rfl ?_
     refine s0 moveA rfl ?_
     refine nil ?_
     exact hK11 _ (n11, s17_18, (s60_13 + 1)) Weak.toA hE (Nat.lt_succ_self _)
    refine AWp.exit ?_
    exact hK6 _ s17_12 Weak.toA hE
 rintro s17_7 hE
 try dsimp only at hE
 unfold Z0_j6 at hE
 refine seqK fun K8 hK8 => ?_
 refine region ?_
 refine s0 moveA rfl ?_
 refine s0 assignA rfl ?_
 refine s0 assignA rfl ?_
 refine nil ?_
 refine hK8 _ ?_
 clear hK8 K8
 refine AWp.dropTok 8 rfl ?_
 refine AWp.ret ?_
 repeat (first | refine xBlock_ret ?_ | refine xThen_ret ?_)
 obtain rfl := Option.some.inj hE
 refine retQ.retF H rfl ⟨rfl, rfl⟩ ?_
 intro id_ o_ he_
 have e_tk1 : id_ ≠ tk1 := fun e_ => by subst e_; simp_all [Heap.set]
 have e_id57_4 : id_ ≠ id57_4 := fun e_ => by subst e_; simp_all [Heap.set]
 rw [← he_]
 simp only [Heap.set] at he_ ⊢
 (repeat' split) <;> simp_all
def Z47_j2   : Option Int := some (-1 : Int)
def Z47_l6 (a0 : (Sl TVar)) (a1 : (TVar → Option Bool))  : Nat → Nat → Option Int
 | 0, _ => none
 | n6 + 1, s8_7 => bif (decide (((s8_7 : Nat) : Int) < ((a0.l.length : Nat) : Int))) then ((a0.l[s8_7]?).bind fun x14 => (a1 x14).bind fun x15 => bif x15 then (some ((s8_7 : Nat) : Int)) else ((Z47_l6 a0 a1 n6) (s8_7 + 1))) else (Z47_j2   )
def Z47 (a0 : (Sl TVar)) (a1 : (TVar → Option Bool)) : Option Int := Z47_l6 a0 a1 (a0.l.length + 1) 0
theorem Z47_walk {a0 : (Sl TVar)} {a1 : (TVar → Option Bool)} {w0 : Option Nat} {cl1 : List D} {k1 : Nat} {r : Int} (hE : Z47 a0 a1 = some r) (H : Heap) (hf1 : ∀ x0 r, a1 x0 = some r → ∀ H, ACalls Tryd.prog k1 ([.agg (TVar.c x0)] ++ cl1.map A.d) H fun v h' => v = .a (.d (.bool r)) ∧ h' = H) : ACalls Tryd.prog 65 [.d (Sl.d 9 TVar.c w0 a0), .d (.func k1 cl1)] H fun v h' => v = .a (.d (.int .i64 r)) ∧ h' = H := by
 unfold Z47 at hE
 refine ACalls.of_wp (fn := Tryd.f65) (c := _) Tryd.tab_ok (fun _ _ => Tryd.call65 _ _) Tryd.func65 rfl (n := 19) rfl (rs := [.tmp 4]) rfl rfl ?_
 refine seqK fun K1 hK1 => ?_
 refine region ?_
 refine s0 assignA rfl ?_
 refine nil ?_
 refine hK1 _ ?_
 clear hK1 K1
 refine seqJH KeepsT.nil (fun (z : Unit) => []) (fun z => H) (fun z => Z47_j2  = some r) ?_ ?_
 ·intro K2 hK2
  refine seqK fun K4 hK4 => ?_
  refine region ?_
  refine s0 moveA rfl ?_
  refine sLen (f := TVar.c) (s := a0) (TK rfl) rfl rfl rfl rfl fun hL5 => ?_
  refine s0 moveA rfl ?_
  refine nil ?_
  refine hK4 _ ?_
  clear hK4 K4
  refine block ?_
  refine loopH (KeepsT.A (k := 0) (KeepsT.A (k := 1) (KeepsT.A (k := 7) KeepsT.nil))) (fun (z : Nat × Nat) => [(8, .a (.d (.int .i64 ((z.2 : Nat) : Int))))]) (fun z => H) (fun z => z.1) (fun z => Z47_l6 a0 a1 z.1 z.2 = some r) ((a0.l.length + 1), 0) hE Weak.toA ?_
  rintro ⟨n6, s8_7⟩ hE K6 hK6
  try dsimp only at hE
  cases n6 with
  | zero => cases hE
  | succ n6 =>
    rw [Z47_l6] at hE
    refine seqK fun K8 hK8 => ?_
    refine region ?_
    refine s0 (binI rfl rfl rfl) rfl ?_
    refine nil ?_
    refine hK8 _ ?_
    clear hK8 K8
    refine seqK fun K9 hK9 => ?_
    refine condE hE rfl (fun hc10 hE => ?_) (fun hc10 hE => ?_)
    ·try dsimp only at hc10
     have hf10 := of_decide_eq_true hc10
     refine AWp.skip ?_
     refine hK9 _ ?_
     clear hK9 K9
     refine seqK fun K11 hK11 => ?_
     refine block ?_
     refine seqK fun K12 hK12 => ?_
     refine region ?_
     refine s0 moveA rfl ?_
     refine s0 assignA rfl ?_
     refine nil ?_
     refine hK12 _ ?_
     clear hK12 K12
     refine seqK fun K13 hK13 => ?_
     refine region ?_
     refine s0 moveA rfl ?_
     refine s0 moveA rfl ?_
     refine s0 moveA rfl ?_
     obtain ⟨x14, gx14, hE⟩ := bindO_some hE
     refine s0 (idxMn (f := TVar.c) (n := s8_7) (TK rfl) rfl (TK rfl) rfl rfl rfl gx14) rfl ?_
     refine s0 (loadV (TK rfl) rfl rfl rfl) rfl ?_
     obtain ⟨x15, gx15, hE⟩ := bindO_some hE
     refine s0 (callP rfl rfl (hf1 _ _ gx15)) rfl ?_
     refine nil ?_
     refine hK13 _ ?_
     clear hK13 K13
     refine condE hE rfl (fun hc16 hE => ?_) (fun hc16 hE => ?_)
     ·refine seqK fun K17 hK17 => ?_
      refine region ?_
      refine s0 moveA rfl ?_
      refine s0 assignA rfl ?_
      refine nil ?_
      refine hK17 _ ?_
      clear hK17 K17
      refine AWp.ret ?_
      repeat (first | refine xBlock_ret ?_ | refine xThen_ret ?_)
      obtain rfl := Option.some.inj hE
      refine retQ.retF H rfl ⟨rfl, rfl⟩ ?_
      exact (fun _ _ h => h)
     refine AWp.skip ?_
     refine hK11 _ ?_
     clear hK11 K11
     refine region ?_
     refine s0 (addIA rfl rfl) rfl ?_
     refine s0 moveA rfl ?_
     refine nil ?_
     exact hK6 _ (n6, (s8_7 + 1)) Weak.toA hE (Nat.lt_succ_self _)
    refine AWp.exit ?_
    exact hK2 _ () Weak.toA hE
 rintro _ hE
 try dsimp only at hE
 unfold Z47_j2 at hE
 refine seqK fun K3 hK3 => ?_
 refine region ?_
 refine s0 assignA rfl ?_
 refine nil ?_
 refine hK3 _ ?_
 clear hK3 K3
 refine AWp.ret ?_
 repeat (first | refine xBlock_ret ?_ | refine xThen_ret ?_)
 obtain rfl := Option.some.inj hE
 refine retQ.retF H rfl ⟨rfl, rfl⟩ ?_
 exact (fun _ _ h => h)
def Z45 (a0 : (Sl TVar)) (a1 : (TVar → Option Bool)) : Option Bool := (Z47 a0 a1).bind fun x3 => some (decide ((0 : Int) ≤ x3))
theorem Z45_walk {a0 : (Sl TVar)} {a1 : (TVar → Option Bool)} {w0 : Option Nat} {cl1 : List D} {k1 : Nat} {r : Bool} (hE : Z45 a0 a1 = some r) (H : Heap) (hf1 : ∀ x0 r, a1 x0 = some r → ∀ H, ACalls Tryd.prog k1 ([.agg (TVar.c x0)] ++ cl1.map A.d) H fun v h' => v = .a (.d (.bool r)) ∧ h' = H) : ACalls Tryd.prog 36 [.d (Sl.d 9 TVar.c w0 a0), .d (.func k1 cl1)] H fun v h' => v = .a (.d (.bool r)) ∧ h' = H := by
 unfold Z45 at hE
 refine ACalls.of_wp (fn := Tryd.f36) (c := _) Tryd.tab_ok (fun _ _ => Tryd.call36 _ _) Tryd.func36 rfl (n := 9) rfl (rs := [.tmp 4]) rfl rfl ?_
 refine seqK fun K1 hK1 => ?_
 refine region ?_
 refine s0 assignA rfl ?_
 refine nil ?_
 refine hK1 _ ?_
 clear hK1 K1
 refine seqK fun K2 hK2 => ?_
 refine region ?_
 refine s0 moveA rfl ?_
 refine s0 moveA rfl ?_
 obtain ⟨x3, gx3, hE⟩ := bindO_some hE
 refine s0 (callP rfl rfl (fun H => Z47_walk gx3 H hf1)) rfl ?_
 refine s0 (binI rfl rfl rfl) rfl ?_
 refine s0 assignA rfl ?_
 refine nil ?_
 refine hK2 _ ?_
 clear hK2 K2
 refine AWp.ret ?_
 repeat (first | refine xBlock_ret ?_ | refine xThen_ret ?_)
 obtain rfl := Option.some.inj hE
 refine retQ.retF H rfl ⟨rfl, rfl⟩ ?_
 exact (fun _ _ h => h)
def Z5 (a0 : TVar) (a1 : TVar) : Option Bool := some ((a0.FName == a1.FName))
theorem Z5_walk {a0 : TVar} {a1 : TVar}   {r : Bool} (hE : Z5 a0 a1 = some r) (H : Heap)  : ACalls Tryd.prog 37 [.agg (TVar.c a0), .d (.view (TVar.c a1))] H fun v h' => v = .a (.d (.bool r)) ∧ h' = H := by
 unfold Z5 at hE
 refine ACalls.of_wp (fn := Tryd.f37) (c := _) Tryd.tab_ok (fun _ _ => Tryd.call37 _ _) Tryd.func37 rfl (n := 9) rfl (rs := [.tmp 3]) rfl rfl ?_
 refine seqK fun K1 hK1 => ?_
 refine region ?_
 refine s0 (boxV rfl) rfl ?_
 refine s0 assignA rfl ?_
 refine nil ?_
 refine hK1 _ ?_
 clear hK1 K1
 refine seqK fun K2 hK2 => ?_
 refine region ?_
 refine s0 (fieldVA (TK rfl) rfl rfl (TK rfl) rfl rfl) rfl ?_
 refine s0 (loadV (TK rfl) rfl rfl rfl) rfl ?_
 refine s0 (fieldVA (TK rfl) rfl rfl (TK rfl) rfl rfl) rfl ?_
 refine s0 (loadV (TK rfl) rfl rfl rfl) rfl ?_
 refine s0 (binS rfl rfl rfl) rfl ?_
 refine s0 assignA rfl ?_
 refine nil ?_
 refine hK2 _ ?_
 clear hK2 K2
 refine AWp.ret ?_
 repeat (first | refine xBlock_ret ?_ | refine xThen_ret ?_)
 obtain rfl := Option.some.inj hE
 refine retQ.retF H rfl ⟨rfl, rfl⟩ ?_
 exact (fun _ _ h => h)
end Go.Proofs

namespace Go.Proofs
open Go Go.Ab
open AOps Cert AWp
variable {lou : Lou}
def Z4_j9  (y10_l0 : TValue) (y11_l1 : TValue) : Option (TValue × Bs × Int) := some (y11_l1, ([] : Bs), (0 : Int))
def Z4_j22 (s27_16 : Nat) (k_next_15 : Nat → TValue → TValue → Option (TValue × Bs × Int)) (y23_l0 : TValue) (y24_l1 : TValue) : Option (TValue × Bs × Int) := k_next_15 (s27_16 + 1) y23_l0 y24_l1
def Z4_j35 (s27_16 : Nat) (y17_l0 : TValue) (y18_l1 : TValue) (x26 : TVar) (k_next_15 : Nat → TValue → TValue → Option (TValue × Bs × Int)) (s14_36 : Int) (y37_l2 : TValue) : Option (TValue × Bs × Int) := bif (!decide (s14_36 = (0 : Int))) then (some ((TValue.mk (0 : Int) (0 : Int) ([] : Bs) true ([]) (Sl.nil : Sl Bs)), x26.FName, s14_36)) else ((appC 16 y18_l1.FKeys (⟨false, [x26.FName]⟩ : Sl Bs)).bind fun x42 => (appC 80 y18_l1.FItems (⟨false, [y37_l2]⟩ : Sl TValue)).bind fun x43 => Z4_j22 s27_16 k_next_15 y17_l0 (TValue.mk y18_l1.FKind y18_l1.FInt y18_l1.FText x43.nl x43.l x42))
def Z4_l15 (a0 : TDoc) (a1 : (Sl TVar)) (a2 : TValue)  : Nat → Nat → TValue → TValue → Option (TValue × Bs × Int)
 | 0, _, _, _ => none
 | n15 + 1, s27_16, y17_l0, y18_l1 => bif (decide (((s27_16 : Nat) : Int) < ((a1.l.length : Nat) : Int))) then ((a1.l[s27_16]?).bind fun x26 => (partC a1 none (some ((s27_16 : Nat) : Int))).bind fun x29 => (Z45 x29 (fun y0 => Z5 y0 x26)).bind fun x30 => bif x30 then (Z4_j22 s27_16 ((Z4_l15 a0 a1 a2 n15)) y17_l0 y18_l1) else ((Z62 a2 x26.FName).bind fun x33 => bif x33.2 then ((Z1 a0 x26.FType x33.1).bind fun x46 => Z4_j35 s27_16 y17_l0 y18_l1 x26 ((Z4_l15 a0 a1 a2 n15)) x46.2 x46.1) else (bif x26.FHas then ((Z2 a0 x26.FType x26.FDefault (TValue.mk (0 : Int) (0 : Int) ([] : Bs) true ([]) (Sl.nil : Sl Bs))).bind fun x49 => Z4_j35 s27_16 y17_l0 y18_l1 x26 ((Z4_l15 a0 a1 a2 n15)) x49.2 x49.1) else ((Z60 x26.FType).bind fun x51 => bif x51 then (Z4_j35 s27_16 y17_l0 y18_l1 x26 ((Z4_l15 a0 a1 a2 n15)) (27 : Int) x33.1) else (Z4_j22 s27_16 ((Z4_l15 a0 a1 a2 n15)) y17_l0 y18_l1))))) else (Z4_j9   y17_l0 y18_l1)
def Z4 (a0 : TDoc) (a1 : (Sl TVar)) (a2 : TValue) : Option (TValue × Bs × Int) := bif ((!decide (a2.FKind = (6 : Int))) && (!decide (a2.FKind = (0 : Int)))) then (some ((TValue.mk (0 : Int) (0 : Int) ([] : Bs) true ([]) (Sl.nil : Sl Bs)), ([] : Bs), (9 : Int))) else (Z4_l15 a0 a1 a2 (a1.l.length + 1) 0 TValue.zero (TValue.mk (6 : Int) (0 : Int) ([] : Bs) true ([]) (Sl.nil : Sl Bs)))
theorem Z4_walk {a0 : TDoc} {a1 : (Sl TVar)} {a2 : TValue} {w1 : Option Nat} {oT : Ab.Obj} {gT : Nat} {r : (TValue × Bs × Int)} (hE : Z4 a0 a1 a2 = some r) (H : Heap) (hgT : H gT = some oT) (hoT : IsTab Tryd.prog oT) : ACalls Tryd.prog 17 [.agg (TDoc.c a0), .d (Sl.d 9 TVar.c w1 a1), .agg (TValue.c a2)] H fun v h' => v = .tup [.agg (TValue.c r.1), .d (.str r.2.1), .d (.int .i64 r.2.2)] ∧ h' = H := by
 unfold Z4 at hE
 refine ACalls.of_wp (fn := Tryd.f17) (c := _) Tryd.tab_ok (fun _ _ => Tryd.call17 _ _) Tryd.func17 rfl (n := 92) rfl (rs := [.cell 6 27, .tmp 7, .tmp 8]) rfl rfl ?_
 refine seqK fun K1 hK1 => ?_
 refine region ?_
 refine s0 (boxV rfl) rfl ?_
 refine s0 (boxV rfl) rfl ?_
 refine sL (allocLA (TK rfl) rfl) rfl ?_
 refine s0 assignA rfl ?_
 refine s0 assignA rfl ?_
 refine nil ?_
 refine hK1 _ ?_
 clear hK1 K1
 refine seqK fun K2 hK2 => ?_
 refine seqK fun K3 hK3 => ?_
 refine region ?_
 refine s0 (fieldVA (TK rfl) rfl rfl (TK rfl) rfl rfl) rfl ?_
 refine s0 (loadV (TK rfl) rfl rfl rfl) rfl ?_
 refine s0 (binI rfl rfl rfl) rfl ?_
 refine s0 moveA rfl ?_
 refine gC rfl rfl (fun hC => fieldVA (TK rfl) rfl rfl (TK rfl) rfl rfl) rfl ?_
 refine gC rfl rfl (fun hC => ungdA (k := 19) rfl (loadV (TK rfl) rfl rfl rfl)) rfl ?_
 refine gC rfl rfl (fun hC => ungdA (k := 20) rfl (binI rfl rfl rfl)) rfl ?_
 refine s0 (pickAndA rfl rfl rfl) rfl ?_
 refine nil ?_
 refine hK3 _ ?_
 clear hK3 K3
 refine condE hE rfl (fun hc4 hE => ?_) (fun hc4 hE => ?_)
 ·refine seqK fun K5 hK5 => ?_
  refine region ?_
  refine s0 (build Tryd.tab_ok rfl rfl rfl rfl rfl rfl) rfl ?_
  refine sLn (storeLFA (TK rfl) rfl rfl rfl rfl rfl) ?_
  refine s0 assignA rfl ?_
  refine s0 assignA rfl ?_
  refine nil ?_
  refine hK5 _ ?_
  clear hK5 K5
  refine AWp.ret ?_
  repeat (first | refine xBlock_ret ?_ | refine xThen_ret ?_)
  obtain rfl := Option.some.inj hE
  refine retQ.retF H rfl ⟨rfl, rfl⟩ ?_
  exact (fun _ _ h => h)
 refine AWp.skip ?_
 refine hK2 _ ?_
 clear hK2 K2
 refine seqK fun K6 hK6 => ?_
 refine region ?_
 refine s0 (build Tryd.tab_ok rfl rfl rfl rfl rfl rfl) rfl ?_
 refine sL (allocLA (TK rfl) rfl) rfl ?_
 refine AOps.tok 5 fun tk9_7 htk9_7 => ?_
 have ne_tk9_7_gT : tk9_7 ≠ gT := fun e_ => by subst e_; simp_all
 refine AOps.relocal 1 _ rfl (fun j w cs hh hx => tok_cell 3 5 5 hh (t := tk9_7) hpG hx rfl) ?_
 refine AOps.tok 1 fun tk9_8 htk9_8 => ?_
 obtain ⟨ne_tk9_8_tk9_7, htk9_8⟩ := Heap.set_fresh htk9_8
 have ne_tk9_8_gT : tk9_8 ≠ gT := fun e_ => by subst e_; simp_all
 refine AOps.relocal 1 _ rfl (fun j w cs hh hx => tok_cell 4 1 1 hh (t := tk9_8) hpG hx rfl) ?_
 refine sLn (storeLFA (TK rfl) rfl rfl rfl rfl rfl) ?_
 refine AOps.relocal 1 _ rfl (fun j w cs hh hx => tok_cell 3 5 5 hh (t := tk9_7) hpG hx rfl) ?_
 refine AOps.relocal 1 _ rfl (fun j w cs hh hx => tok_cell 4 1 1 hh (t := tk9_8) hpG hx rfl) ?_
 refine nil ?_
 refine hK6 _ ?_
 clear hK6 K6
 refine seqJ (KeepsT.A (k := 6) (KeepsT.A (k := 9) KeepsT.nil)) (fun (z : TValue × TValue) => []) (fun z => [TValue.c z.1, ((intE .i64) z.2.FKind ++ (intE .i64) z.2.FInt ++ strE z.2.FText ++ [Sl.d 5 TValue.c (some tk9_7) z.2.FItems] ++ [Sl.d 1 strE (some tk9_8) z.2.FKeys])]) (fun z => ((H.set tk9_7 (some (.tok 5 z.2.FItems.l.length))).set tk9_8 (some (.tok 1 z.2.FKeys.l.length)))) (fun z => Z4_j9 z.1 z.2 = some r) ?_ ?_
 ·intro K9 hK9
  refine seqK fun K13 hK13 => ?_
  refine region ?_
  refine s0 moveA rfl ?_
  refine sLen (f := TVar.c) (s := a1) (TK rfl) rfl rfl rfl rfl fun hL14 => ?_
  refine s0 moveA rfl ?_
  refine nil ?_
  refine hK13 _ ?_
  clear hK13 K13
  refine block ?_
  refine loopO (KeepsT.A (k := 1) (KeepsT.A (k := 3) (KeepsT.A (k := 5) (KeepsT.A (k := 6) (KeepsT.A (k := 9) (KeepsT.A (k := 25) (KeepsT.A (k := 26) KeepsT.nil))))))) (fun (z : Nat × Nat × TValue × TValue) => [(27, .a (.d (.int .i64 ((z.2.1 : Nat) : Int))))]) (fun z => [TValue.c z.2.2.1, ((intE .i64) z.2.2.2.FKind ++ (intE .i64) z.2.2.2.FInt ++ strE z.2.2.2.FText ++ [Sl.d 5 TValue.c (some tk9_7) z.2.2.2.FItems] ++ [Sl.d 1 strE (some tk9_8) z.2.2.2.FKeys])]) (fun z => ((H.set tk9_7 (some (.tok 5 z.2.2.2.FItems.l.length))).set tk9_8 (some (.tok 1 z.2.2.2.FKeys.l.length)))) (fun z => z.1) (fun z => Z4_l15 a0 a1 a2 z.1 z.2.1 z.2.2.1 z.2.2.2 = some r) ((a1.l.length + 1), 0, TValue.zero, (TValue.mk (6 : Int) (0 : Int) ([] : Bs) true ([]) (Sl.nil : Sl Bs))) hE Weak.toA ?_
  rintro ⟨n15, s27_16, y17_l0, y18_l1⟩ hE K15 hK15
  try dsimp only at hE
  cases n15 with
  | zero => cases hE
  | succ n15 =>
    rw [Z4_l15] at hE
    refine seqK fun K19 hK19 => ?_
    refine region ?_
    refine s0 (binI rfl rfl rfl) rfl ?_
    refine nil ?_
    refine hK19 _ ?_
    clear hK19 K19
    refine seqK fun K20 hK20 => ?_
    refine condE hE rfl (fun hc21 hE => ?_) (fun hc21 hE => ?_)
    ·try dsimp only at hc21
     have hf21 := of_decide_eq_true hc21
     refine AWp.skip ?_
     refine hK20 _ ?_
     clear hK20 K20
     refine seqJ (KeepsT.A (k := 1) (KeepsT.A (k := 3) (KeepsT.A (k := 5) (KeepsT.A (k := 6) (KeepsT.A (k := 9) (KeepsT.A (k := 25) (KeepsT.A (k := 26) (KeepsT.A (k := 27) KeepsT.nil)))))))) (fun (z : TValue × TValue) => []) (fun z => [TValue.c z.1, ((intE .i64) z.2.FKind ++ (intE .i64) z.2.FInt ++ strE z.2.FText ++ [Sl.d 5 TValue.c (some tk9_7) z.2.FItems] ++ [Sl.d 1 strE (some tk9_8) z.2.FKeys])]) (fun z => ((H.set tk9_7 (some (.tok 5 z.2.FItems.l.length))).set tk9_8 (some (.tok 1 z.2.FKeys.l.length)))) (fun z => Z4_j22 s27_16 ((Z4_l15 a0 a1 a2 n15)) z.1 z.2 = some r) ?_ ?_
     ·intro K22 hK22
      refine block ?_
      refine seqK fun K25 hK25 => ?_
      refine region ?_
      refine s0 moveA rfl ?_
      obtain ⟨x26, gx26, hE⟩ := bindO_some hE
      refine s0 (idxMn (f := TVar.c) (n := s27_16) (TK rfl) rfl (TK rfl) rfl rfl rfl gx26) rfl ?_
      refine s0 (loadV (TK rfl) rfl rfl rfl) rfl ?_
      refine sL (allocLA (TK rfl) rfl) rfl ?_
      refine s0 assignA rfl ?_
      refine sLn (storeLFA (TK rfl) rfl rfl rfl rfl rfl) ?_
      refine nil ?_
      refine hK25 _ ?_
      clear hK25 K25
      refine freezeA 11 _ rfl (Keeps.c (k := 1) (by conv => lhs; whnf) (by rfl) (Keeps.c (k := 3) (by conv => lhs; whnf) (by rfl) (Keeps.c (k := 5) (by conv => lhs; whnf) (by rfl) (Keeps.c (k := 6) (by conv => lhs; whnf) (by rfl) (Keeps.c (k := 9) (by conv => lhs; whnf) (by rfl) (Keeps.c (k := 10) (by conv => lhs; whnf) (by rfl) (Keeps.c (k := 25) (by conv => lhs; whnf) (by rfl) (Keeps.c (k := 26) (by conv => lhs; whnf) (by rfl) (Keeps.c (k := 27) (by conv => lhs; whnf) (by rfl) Keeps.nil))))))))) ?_
      refine seqK fun K27 hK27 => ?_
      refine seqK fun K28 hK28 => ?_
      refine region ?_
      refine s0 moveA rfl ?_
      refine s0 moveA rfl ?_
      obtain ⟨x29, gx29, hE⟩ := bindO_some hE
      refine s0 (partM (f := TVar.c) (l := none) (r := (some ((s27_16 : Nat) : Int))) (TK rfl) rfl (TK rfl) rfl rfl trivial rfl gx29) rfl ?_
      refine s0 (makeFunc rfl) rfl ?_
      obtain ⟨x30, gx30, hE⟩ := bindO_some hE
      refine s0 (callP rfl rfl (fun H => Z45_walk gx30 H (fun _ _ hx => Z5_walk hx))) rfl ?_
      refine nil ?_
      refine hK28 _ ?_
      clear hK28 K28
      refine condE hE rfl (fun hc31 hE => ?_) (fun hc31 hE => ?_)
      ·refine AWp.exit ?_
       exact hK22 _ (y17_l0, y18_l1) Weak.toA hE
      refine AWp.skip ?_
      refine hK27 _ ?_
      clear hK27 K27
      refine seqK fun K32 hK32 => ?_
      refine region ?_
      refine s0 (loadV (TK rfl) rfl rfl rfl) rfl ?_
      refine s0 (fieldVA (TK rfl) rfl rfl (TK rfl) rfl rfl) rfl ?_
      refine s0 (loadV (TK rfl) rfl rfl rfl) rfl ?_
      obtain ⟨x33, gx33, hE⟩ := bindO_some hE
      refine s0 (callP rfl rfl (fun H => Z62_walk gx33 H)) rfl ?_
      refine s0 moveA rfl ?_
      refine s0 (extract rfl rfl) rfl ?_
      refine s0 (extract rfl rfl) rfl ?_
      refine sL (allocLA (TK rfl) rfl) rfl ?_
      refine sLn (storeLFA (TK rfl) rfl rfl rfl rfl rfl) ?_
      refine s0 assignA rfl ?_
      refine nil ?_
      refine hK32 _ ?_
      clear hK32 K32
      refine seqK fun K34 hK34 => ?_
      refine region ?_
      refine s0 assignA rfl ?_
      refine nil ?_
      refine hK34 _ ?_
      clear hK34 K34
      refine seqJ (KeepsT.A (k := 1) (KeepsT.A (k := 3) (KeepsT.A (k := 5) (KeepsT.A (k := 6) (KeepsT.A (k := 9) (KeepsT.A (k := 11) (KeepsT.A (k := 12) (KeepsT.A (k := 25) (KeepsT.A (k := 26) (KeepsT.A (k := 27) KeepsT.nil)))))))))) (fun (z : Int × TValue) => [(14, .a (.d (.int .i64 z.1)))]) (fun z => [TValue.c y17_l0, ((intE .i64) y18_l1.FKind ++ (intE .i64) y18_l1.FInt ++ strE y18_l1.FText ++ [Sl.d 5 TValue.c (some tk9_7) y18_l1.FItems] ++ [Sl.d 1 strE (some tk9_8) y18_l1.FKeys]), TValue.c z.2]) (fun z => ((H.set tk9_7 (some (.tok 5 y18_l1.FItems.l.length))).set tk9_8 (some (.tok 1 y18_l1.FKeys.l.length)))) (fun z => Z4_j35 s27_16 y17_l0 y18_l1 x26 ((Z4_l15 a0 a1 a2 n15)) z.1 z.2 = some r) ?_ ?_
      ·intro K35 hK35
       refine block ?_
       refine seqK fun K44 hK44 => ?_
       refine region ?_
       refine s0 moveA rfl ?_
       refine s0 assignA rfl ?_
       refine nil ?_
       refine hK44 _ ?_
       clear hK44 K44
       refine condE hE rfl (fun hc45 hE => ?_) (fun hc45 hE => ?_)
       ·refine region ?_
        refine s0 (loadV (TK rfl) rfl rfl rfl) rfl ?_
        refine s0 (fieldVA (TK rfl) rfl rfl (TK rfl) rfl rfl) rfl ?_
        refine s0 (loadV (TK rfl) rfl rfl rfl) rfl ?_
        refine s0 (loadL (TK rfl) rfl rfl rfl rfl) rfl ?_
        obtain ⟨x46, gx46, hE⟩ := bindO_some hE
        refine s0 (callR rfl rfl (Z1_walk (gT := gT) (oT := oT) gx46 _ hpG (by assumption))) rfl ?_
        refine s0 moveA rfl ?_
        refine s0 (extract rfl rfl) rfl ?_
        refine s0 (extract rfl rfl) rfl ?_
        refine sLn (storeLFA (TK rfl) rfl rfl rfl rfl rfl) ?_
        refine s0 assignA rfl ?_
        refine nil ?_
        exact hK35 _ (x46.2, x46.1) Weak.toA hE
       refine seqK fun K47 hK47 => ?_
       refine region ?_
       refine s0 (fieldVA (TK rfl) rfl rfl (TK rfl) rfl rfl) rfl ?_
       refine s0 (loadV (TK rfl) rfl rfl rfl) rfl ?_
       refine s0 assignA rfl ?_
       refine nil ?_
       refine hK47 _ ?_
       clear hK47 K47
       refine condE hE rfl (fun hc48 hE => ?_) (fun hc48 hE => ?_)
       ·refine region ?_
        refine s0 (loadV (TK rfl) rfl rfl rfl) rfl ?_
        refine s0 (fieldVA (TK rfl) rfl rfl (TK rfl) rfl rfl) rfl ?_
        refine s0 (loadV (TK rfl) rfl rfl rfl) rfl ?_
        refine s0 (fieldVA (TK rfl) rfl rfl (TK rfl) rfl rfl) rfl ?_
        refine s0 (loadV (TK rfl) rfl rfl rfl) rfl ?_
        refine s0 (build Tryd.tab_ok rfl rfl rfl rfl rfl rfl) rfl ?_
        obtain ⟨x49, gx49, hE⟩ := bindO_some hE
        refine s0 (callR rfl rfl (Z2_walk (gT := gT) (oT := oT) gx49 _ hpG (by assumption))) rfl ?_
        refine s0 moveA rfl ?_
        refine s0 (extract rfl rfl) rfl ?_
        refine s0 (extract rfl rfl) rfl ?_
        refine sLn (storeLFA (TK rfl) rfl rfl rfl rfl rfl) ?_
        refine s0 assignA rfl ?_
        refine nil ?_
        exact hK35 _ (x49.2, x49.1) Weak.toA hE
       refine seqK fun K50 hK50 => ?_
       refine region ?_
       refine s0 (fieldVA (TK rfl) rfl rfl (TK rfl) rfl rfl) rfl ?_
       refine s0 (loadV (TK rfl) rfl rfl rfl) rfl ?_
       obtain ⟨x51, gx51, hE⟩ := bindO_some hE
       refine s0 (callP rfl rfl (fun H => Z60_walk gx51 H)) rfl ?_
       refine s0 assignA rfl ?_
       refine nil ?_
       refine hK50 _ ?_
       clear hK50 K50
       refine condE hE rfl (fun hc52 hE => ?_) (fun hc52 hE => ?_)
       ·refine region ?_
        refine s0 assignA rfl ?_
        refine nil ?_
        exact hK35 _ ((27 : Int), x33.1) Weak.toA hE
       refine AWp.exit ?_
       exact hK22 _ (y17_l0, y18_l1) Weak.toA hE
      rintro ⟨s14_36, y37_l2⟩ hE
      try dsimp only at hE
      unfold Z4_j35 at hE
      refine seqK fun K38 hK38 => ?_
      refine seqK fun K39 hK39 => ?_
      refine region ?_
      refine s0 moveA rfl ?_
      refine s0 (binI rfl rfl rfl) rfl ?_
      refine nil ?_
      refine hK39 _ ?_
      clear hK39 K39
      refine condE hE rfl (fun hc40 hE => ?_) (fun hc40 hE => ?_)
      ·refine seqK fun K41 hK41 => ?_
       refine AWp.draw rfl ?_
       refine DOps.s0 (build Tryd.tab_ok rfl rfl rfl rfl rfl rfl) rfl ?_
       refine DOps.s0 (fieldVA (TK rfl) rfl rfl (TK rfl) rfl rfl) rfl ?_
       refine DOps.s0 (loadV (TK rfl) rfl rfl rfl) rfl ?_
       refine DOps.s0 moveA rfl ?_
       refine DOps.sLn (storeLFA (TK rfl) rfl rfl rfl rfl rfl) ?_
       refine DOps.s0 assignA rfl ?_
       refine DOps.s0 assignA rfl ?_
       refine DOps.nil (by decide +kernel) ?_
       refine hK41 _ ?_
       clear hK41 K41
       refine AWp.ret ?_
       repeat (first | refine xBlock_ret ?_ | refine xThen_ret ?_)
       obtain rfl := Option.some.inj hE
       refine retQ.retF H rfl ⟨rfl, rfl⟩ ?_
       intro id_ o_ he_
       have e_tk9_7 : id_ ≠ tk9_7 := fun e_ => by subst e_; simp_all [Heap.set]
       have e_tk9_8 : id_ ≠ tk9_8 := fun e_ => by subst e_; simp_all [Heap.set]
       rw [← he_]
       simp only [Heap.set] at he_ ⊢
       (repeat' split) <;> simp_all
      refine AWp.skip ?_
      refine hK38 _ ?_
      clear hK38 K38
      refine AWp.draw rfl ?_
      refine DOps.s0 (fieldL (TK rfl) rfl rfl (TK rfl) rfl rfl) rfl ?_
      refine DOps.s0 (loadL (TK rfl) rfl rfl rfl rfl) rfl ?_
      refine DOps.s0 (fieldVA (TK rfl) rfl rfl (TK rfl) rfl rfl) rfl ?_
      refine DOps.s0 (loadV (TK rfl) rfl rfl rfl) rfl ?_
      refine DOps.s0 (buildSlice (TK rfl) rfl (TK rfl) rfl rfl rfl rfl rfl rfl) rfl ?_
      obtain ⟨x42, gx42, hE⟩ := bindO_some hE
      refine DOps.sH (appM (f := strE) (TK rfl) rfl (TK rfl) (TK rfl) ⟨_, rfl⟩ rfl rfl (by decide) rfl rfl rfl rfl hpG rfl gx42) rfl ?_
      refine DOps.heq (h' := ((H.set tk9_7 (some (.tok 5 y18_l1.FItems.l.length))).set tk9_8 (some (.tok 1 x42.l.length)))) (by first | rfl | (rw [Heap.set_set]; rfl) | (funext n_; simp only [Heap.set]; (repeat' split) <;> first | rfl | (exfalso; simp_all; done) | (simp_all; done))) ?_
      refine DOps.s0 (fieldL (TK rfl) rfl rfl (TK rfl) rfl rfl) rfl ?_
      refine DOps.s0 (loadL (TK rfl) rfl rfl rfl rfl) rfl ?_
      refine DOps.s0 (loadL (TK rfl) rfl rfl rfl rfl) rfl ?_
      refine DOps.s0 (buildSlice (TK rfl) rfl (TK rfl) rfl rfl rfl rfl rfl rfl) rfl ?_
      obtain ⟨x43, gx43, hE⟩ := bindO_some hE
      refine DOps.sH (appM (f := TValue.c) (TK rfl) rfl (TK rfl) (TK rfl) ⟨_, rfl⟩ rfl rfl (by decide) rfl rfl rfl rfl hpG rfl gx43) rfl ?_
      refine DOps.heq (h' := ((H.set tk9_7 (some (.tok 5 x43.l.length))).set tk9_8 (some (.tok 1 x42.l.length)))) (by first | rfl | (rw [Heap.set_set]; rfl) | (funext n_; simp only [Heap.set]; (repeat' split) <;> first | rfl | (exfalso; simp_all; done) | (simp_all; done))) ?_
      refine DOps.s0 (fieldL (TK rfl) rfl rfl (TK rfl) rfl rfl) rfl ?_
      refine DOps.sLn (storeL1 (TK rfl) rfl rfl rfl rfl (by repeat (first | exact SetAt.zero | apply SetAt.succ)) (by repeat (first | exact SetAt.zero | apply SetAt.succ))) ?_
      refine DOps.s0 (fieldL (TK rfl) rfl rfl (TK rfl) rfl rfl) rfl ?_
      refine DOps.sLn (storeL1 (TK rfl) rfl rfl rfl rfl (by repeat (first | exact SetAt.zero | apply SetAt.succ)) (by repeat (first | exact SetAt.zero | apply SetAt.succ))) ?_
      refine DOps.nil (by decide +kernel) ?_
      exact hK22 _ (y17_l0, (TValue.mk y18_l1.FKind y18_l1.FInt y18_l1.FText x43.nl x43.l x42)) Weak.toA hE
     rintro ⟨y23_l0, y24_l1⟩ hE
     try dsimp only at hE
     unfold Z4_j22 at hE
     refine region ?_
     refine s0 (addIA rfl rfl) rfl ?_
     refine s0 moveA rfl ?_
     refine nil ?_
     exact hK15 _ (n15, (s27_16 + 1), y23_l0, y24_l1) Weak.toA hE (Nat.lt_succ_self _)
    refine AWp.exit ?_
    exact hK9 _ (y17_l0, y18_l1) Weak.toA hE
 rintro ⟨y10_l0, y11_l1⟩ hE
 try dsimp only at hE
 unfold Z4_j9 at hE
 refine seqK fun K12 hK12 => ?_
 refine AWp.relocal 1 _ rfl (fun j w cs hh hx => untok_cell 3 hx rfl) ?_
 refine AWp.relocal 1 _ rfl (fun j w cs hh hx => untok_cell 4 hx rfl) ?_
 refine AWp.relocal 1 (TValue.c y11_l1) rfl (fun j w cs hh hx => by rw [TValue.cu_eq]; exact hx) ?_
 refine region ?_
 refine s0 (loadL (TK rfl) rfl rfl rfl rfl) rfl ?_
 refine sLn (storeLFA (TK rfl) rfl rfl rfl rfl rfl) ?_
 refine s0 assignA rfl ?_
 refine s0 assignA rfl ?_
 refine nil ?_
 refine hK12 _ ?_
 clear hK12 K12
 refine AWp.ret ?_
 repeat (first | refine xBlock_ret ?_ | refine xThen_ret ?_)
 obtain rfl := Option.some.inj hE
 refine retQ.retF H rfl ⟨rfl, rfl⟩ ?_
 intro id_ o_ he_
 have e_tk9_7 : id_ ≠ tk9_7 := fun e_ => by subst e_; simp_all [Heap.set]
 have e_tk9_8 : id_ ≠ tk9_8 := fun e_ => by subst e_; simp_all [Heap.set]
 rw [← he_]
 simp only [Heap.set] at he_ ⊢
 (repeat' split) <;> simp_all
section
variable [IsLoud lou]
def Z17  : Option Bool := (Z2 (TDoc.mk (⟨false, [(TDef.mk (1 : Int) ([81, 117, 101, 114, 121] : Bs) (Sl.nil : Sl Bs) (Sl.nil : Sl TDir) (⟨false, [(TField.mk ([97] : Bs) (Sl.nil : Sl TInput) (TRef.mk ([73, 110, 116] : Bs) (Sl.nil : Sl Int)) (Sl.nil : Sl TDir))]⟩ : Sl TField) (Sl.nil : Sl TMember) (Sl.nil : Sl TInput))]⟩ : Sl TDef)) (TRef.mk ([73, 68] : Bs) (⟨false, [(2 : Int), (1 : Int)]⟩ : Sl Int)) (TValue.mk (2 : Int) (5 : Int) ([] : Bs) true ([]) (Sl.nil : Sl Bs)) (TValue.mk (0 : Int) (0 : Int) ([] : Bs) true ([]) (Sl.nil : Sl Bs))).bind fun x5 => (Z1 (TDoc.mk (⟨false, [(TDef.mk (1 : Int) ([81, 117, 101, 114, 121] : Bs) (Sl.nil : Sl Bs) (Sl.nil : Sl TDir) (⟨false, [(TField.mk ([97] : Bs) (Sl.nil : Sl TInput) (TRef.mk ([73, 110, 116] : Bs) (Sl.nil : Sl Int)) (Sl.nil : Sl TDir))]⟩ : Sl TField) (Sl.nil : Sl TMember) (Sl.nil : Sl TInput))]⟩ : Sl TDef)) (TRef.mk ([73, 110, 116] : Bs) (⟨false, [(1 : Int)]⟩ : Sl Int)) (TValue.mk (0 : Int) (0 : Int) ([] : Bs) true ([]) (Sl.nil : Sl Bs))).bind fun x7 => (Z0 (TDoc.mk (⟨false, [(TDef.mk (1 : Int) ([81, 117, 101, 114, 121] : Bs) (Sl.nil : Sl Bs) (Sl.nil : Sl TDir) (⟨false, [(TField.mk ([97] : Bs) (Sl.nil : Sl TInput) (TRef.mk ([73, 110, 116] : Bs) (Sl.nil : Sl Int)) (Sl.nil : Sl TDir))]⟩ : Sl TField) (Sl.nil : Sl TMember) (Sl.nil : Sl TInput))]⟩ : Sl TDef)) (⟨false, [(TInput.mk ([102, 105, 114, 115, 116] : Bs) (TRef.mk ([73, 110, 116] : Bs) (Sl.nil : Sl Int)) true (TValue.mk (2 : Int) (5 : Int) ([] : Bs) true ([]) (Sl.nil : Sl Bs)) (Sl.nil : Sl TDir))]⟩ : Sl TInput) (Sl.nil : Sl TArg) (TValue.mk (0 : Int) (0 : Int) ([] : Bs) true ([]) (Sl.nil : Sl Bs))).bind fun x9 => (Z4 (TDoc.mk (⟨false, [(TDef.mk (1 : Int) ([81, 117, 101, 114, 121] : Bs) (Sl.nil : Sl Bs) (Sl.nil : Sl TDir) (⟨false, [(TField.mk ([97] : Bs) (Sl.nil : Sl TInput) (TRef.mk ([73, 110, 116] : Bs) (Sl.nil : Sl Int)) (Sl.nil : Sl TDir))]⟩ : Sl TField) (Sl.nil : Sl TMember) (Sl.nil : Sl TInput))]⟩ : Sl TDef)) (⟨false, [(TVar.mk ([98] : Bs) (TRef.mk ([66, 111, 111, 108, 101, 97, 110] : Bs) (⟨false, [(1 : Int)]⟩ : Sl Int)) false TValue.zero)]⟩ : Sl TVar) (TValue.mk (0 : Int) (0 : Int) ([] : Bs) true ([]) (Sl.nil : Sl Bs))).bind fun x11 => bif ((!decide (((x5.1.FItems.l.length : Nat) : Int) = (1 : Int))) || (!decide (((x9.1.l.length : Nat) : Int) = (1 : Int)))) then (some false) else (guardO ((decide (x5.2 = (0 : Int)))) (x5.1.FItems.l[0]?) TValue.zero fun x18 => guardO (((((decide (x5.2 = (0 : Int))) && ((x18.FText == ([53] : Bs)))) && (decide (x7.2 = (23 : Int)))) && (decide (x9.2 = (0 : Int))))) (x9.1.l[0]?) TArg.zero fun x19 => guardO ((((((decide (x5.2 = (0 : Int))) && ((x18.FText == ([53] : Bs)))) && (decide (x7.2 = (23 : Int)))) && (decide (x9.2 = (0 : Int)))) && ((x19.FName == ([102, 105, 114, 115, 116] : Bs))))) (x9.1.l[0]?) TArg.zero fun x20 => guardO (((((((((decide (x5.2 = (0 : Int))) && ((x18.FText == ([53] : Bs)))) && (decide (x7.2 = (23 : Int)))) && (decide (x9.2 = (0 : Int)))) && ((x19.FName == ([102, 105, 114, 115, 116] : Bs)))) && (decide (x20.FValue.FInt = (5 : Int)))) && ((x11.2.1 == ([98] : Bs)))) && (decide (x11.2.2 = (27 : Int))))) (Z3 x9.1) ([] : Bs) fun x21 => some (((((((((decide (x5.2 = (0 : Int))) && ((x18.FText == ([53] : Bs)))) && (decide (x7.2 = (23 : Int)))) && (decide (x9.2 = (0 : Int)))) && ((x19.FName == ([102, 105, 114, 115, 116] : Bs)))) && (decide (x20.FValue.FInt = (5 : Int)))) && ((x11.2.1 == ([98] : Bs)))) && (decide (x11.2.2 = (27 : Int)))) && ((x21 == ([102, 105, 114, 115, 116, 58, 32, 53] : Bs)))))
theorem Z17_walk  {oT : Ab.Obj} {gT : Nat} {r : Bool} (hE : Z17  = some r) (H : Heap) (hgT : H gT = some oT) (hoT : IsTab Tryd.prog oT) : ACalls Tryd.prog 5 [] H fun v h' => v = .a (.d (.bool r)) ∧ h' = H := by
 unfold Z17 at hE
 refine ACalls.of_wp (fn := Tryd.f5) (c := _) Tryd.tab_ok (fun _ _ => Tryd.call5 _ _) Tryd.func5 rfl (n := 112) rfl (rs := [.tmp 0]) rfl rfl ?_
 refine seqK fun K1 hK1 => ?_
 refine region ?_
 refine s0 assignA rfl ?_
 refine nil ?_
 refine hK1 _ ?_
 clear hK1 K1
 refine seqK fun K2 hK2 => ?_
 refine region ?_
 refine s0 (build Tryd.tab_ok rfl rfl rfl rfl rfl rfl) rfl ?_
 refine sL (allocLA (TK rfl) rfl) rfl ?_
 refine sLn (storeLFA (TK rfl) rfl rfl rfl rfl rfl) ?_
 refine nil ?_
 refine hK2 _ ?_
 clear hK2 K2
 refine freezeA 1 _ rfl Keeps.nil ?_
 refine seqK fun K3 hK3 => ?_
 refine region ?_
 refine s0 (build Tryd.tab_ok rfl rfl rfl rfl rfl rfl) rfl ?_
 refine s0 (build Tryd.tab_ok rfl rfl rfl rfl rfl rfl) rfl ?_
 refine s0 (buildSlice (TK rfl) rfl (TK rfl) rfl rfl rfl rfl rfl rfl) rfl ?_
 refine s0 (build Tryd.tab_ok rfl rfl rfl rfl rfl rfl) rfl ?_
 refine s0 (buildSlice (TK rfl) rfl (TK rfl) rfl rfl rfl rfl rfl rfl) rfl ?_
 refine s0 (build Tryd.tab_ok rfl rfl rfl rfl rfl rfl) rfl ?_
 refine sL (allocLA (TK rfl) rfl) rfl ?_
 refine sLn (storeLFA (TK rfl) rfl rfl rfl rfl rfl) ?_
 refine nil ?_
 refine hK3 _ ?_
 clear hK3 K3
 refine freezeA 2 _ rfl (Keeps.c (k := 1) (by conv => lhs; whnf) (by rfl) Keeps.nil) ?_
 refine seqK fun K4 hK4 => ?_
 refine region ?_
 refine s0 (loadV (TK rfl) rfl rfl rfl) rfl ?_
 refine s0 (buildSlice (TK rfl) rfl (TK rfl) rfl rfl rfl rfl rfl rfl) rfl ?_
 refine s0 (build Tryd.tab_ok rfl rfl rfl rfl rfl rfl) rfl ?_
 refine s0 (loadV (TK rfl) rfl rfl rfl) rfl ?_
 refine s0 (build Tryd.tab_ok rfl rfl rfl rfl rfl rfl) rfl ?_
 obtain ⟨x5, gx5, hE⟩ := bindO_some hE
 refine s0 (callR rfl rfl (Z2_walk (gT := gT) (oT := oT) gx5 _ hpG (by assumption))) rfl ?_
 refine s0 moveA rfl ?_
 refine s0 (extract rfl rfl) rfl ?_
 refine s0 (extract rfl rfl) rfl ?_
 refine sL (allocLA (TK rfl) rfl) rfl ?_
 refine sLn (storeLFA (TK rfl) rfl rfl rfl rfl rfl) ?_
 refine s0 assignA rfl ?_
 refine nil ?_
 refine hK4 _ ?_
 clear hK4 K4
 refine freezeA 3 _ rfl (Keeps.c (k := 1) (by conv => lhs; whnf) (by rfl) (Keeps.c (k := 2) (by conv => lhs; whnf) (by rfl) (Keeps.c (k := 4) (by conv => lhs; whnf) (by rfl) Keeps.nil))) ?_
 refine seqK fun K6 hK6 => ?_
 refine region ?_
 refine s0 (loadV (TK rfl) rfl rfl rfl) rfl ?_
 refine s0 (buildSlice (TK rfl) rfl (TK rfl) rfl rfl rfl rfl rfl rfl) rfl ?_
 refine s0 (build Tryd.tab_ok rfl rfl rfl rfl rfl rfl) rfl ?_
 refine s0 (build Tryd.tab_ok rfl rfl rfl rfl rfl rfl) rfl ?_
 obtain ⟨x7, gx7, hE⟩ := bindO_some hE
 refine s0 (callR rfl rfl (Z1_walk (gT := gT) (oT := oT) gx7 _ hpG (by assumption))) rfl ?_
 refine s0 moveA rfl ?_
 refine s0 (extract rfl rfl) rfl ?_
 refine s0 (extract rfl rfl) rfl ?_
 refine sL (allocLA (TK rfl) rfl) rfl ?_
 refine sLn (storeLFA (TK rfl) rfl rfl rfl rfl rfl) ?_
 refine s0 assignA rfl ?_
 refine nil ?_
 refine hK6 _ ?_
 clear hK6 K6
 refine freezeA 5 _ rfl (Keeps.c (k := 1) (by conv => lhs; whnf) (by rfl) (Keeps.c (k := 2) (by conv => lhs; whnf) (by rfl) (Keeps.c (k := 3) (by conv => lhs; whnf) (by rfl) (Keeps.c (k := 4) (by conv => lhs; whnf) (by rfl) (Keeps.c (k := 6) (by conv => lhs; whnf) (by rfl) Keeps.nil))))) ?_
 refine seqK fun K8 hK8 => ?_
 refine region ?_
 refine s0 (loadV (TK rfl) rfl rfl rfl) rfl ?_
 refine s0 (build Tryd.tab_ok rfl rfl rfl rfl rfl rfl) rfl ?_
 refine s0 (loadV (TK rfl) rfl rfl rfl) rfl ?_
 refine s0 (build Tryd.tab_ok rfl rfl rfl rfl rfl rfl) rfl ?_
 refine s0 (buildSlice (TK rfl) rfl (TK rfl) rfl rfl rfl rfl rfl rfl) rfl ?_
 refine s0 (build Tryd.tab_ok rfl rfl rfl rfl rfl rfl) rfl ?_
 obtain ⟨x9, gx9, hE⟩ := bindO_some hE
 refine s0 (callR rfl rfl (ACalls.asArgs (.cons (.refl _) (.cons (.refl _) (.cons (AsArg.nil0 (k' := 6)) (.cons (.refl _) .nil)))) (Z0_walk (gT := gT) (oT := oT) gx9 _ hpG (by assumption)))) rfl ?_
 refine s0 moveA rfl ?_
 refine s0 (extract rfl rfl) rfl ?_
 refine s0 (extract rfl rfl) rfl ?_
 refine s0 assignA rfl ?_
 refine s0 assignA rfl ?_
 refine nil ?_
 refine hK8 _ ?_
 clear hK8 K8
 refine seqK fun K10 hK10 => ?_
 refine region ?_
 refine s0 (loadV (TK rfl) rfl rfl rfl) rfl ?_
 refine s0 (buildSlice (TK rfl) rfl (TK rfl) rfl rfl rfl rfl rfl rfl) rfl ?_
 refine s0 (build Tryd.tab_ok rfl rfl rfl rfl rfl rfl) rfl ?_
 refine s0 (build Tryd.tab_ok rfl rfl rfl rfl rfl rfl) rfl ?_
 refine s0 (buildSlice (TK rfl) rfl (TK rfl) rfl rfl rfl rfl rfl rfl) rfl ?_
 refine s0 (build Tryd.tab_ok rfl rfl rfl rfl rfl rfl) rfl ?_
 obtain ⟨x11, gx11, hE⟩ := bindO_some hE
 refine s0 (callR rfl rfl (Z4_walk (gT := gT) (oT := oT) gx11 _ hpG (by assumption))) rfl ?_
 refine s0 moveA rfl ?_
 refine s0 (extract rfl rfl) rfl ?_
 refine s0 (extract rfl rfl) rfl ?_
 refine s0 (extract rfl rfl) rfl ?_
 refine sL (allocLA (TK rfl) rfl) rfl ?_
 refine sLn (storeLFA (TK rfl) rfl rfl rfl rfl rfl) ?_
 refine s0 assignA rfl ?_
 refine s0 assignA rfl ?_
 refine nil ?_
 refine hK10 _ ?_
 clear hK10 K10
 refine freezeA 9 _ rfl (Keeps.c (k := 3) (by conv => lhs; whnf) (by rfl) (Keeps.c (k := 4) (by conv => lhs; whnf) (by rfl) (Keeps.c (k := 6) (by conv => lhs; whnf) (by rfl) (Keeps.c (k := 7) (by conv => lhs; whnf) (by rfl) (Keeps.c (k := 8) (by conv => lhs; whnf) (by rfl) (Keeps.c (k := 10) (by conv => lhs; whnf) (by rfl) (Keeps.c (k := 11) (by conv => lhs; whnf) (by rfl) Keeps.nil))))))) ?_
 refine seqK fun K12 hK12 => ?_
 refine seqK fun K13 hK13 => ?_
 refine region ?_
 refine s0 (fieldVA (TK rfl) rfl rfl (TK rfl) rfl rfl) rfl ?_
 refine s0 (loadV (TK rfl) rfl rfl (congrArg (fun x => some (A.d x)) (TValue.FItemsD_eq _))) rfl ?_
 refine sLen (f := TValue.c) (s := x5.1.FItems) (TK rfl) rfl rfl rfl rfl fun hL14 => ?_
 refine s0 (binI rfl rfl rfl) rfl ?_
 refine s0 moveA rfl ?_
 refine gC rfl rfl (fun hC => moveA) rfl ?_
 refine gC rfl rfl (fun hC => ungdA (k := 62) rfl (lenM' (f := TArg.c) (s := x9.1) (TK rfl) rfl rfl rfl)) rfl ?_
 refine gC rfl rfl (fun hC => ungdA (k := 63) rfl (binI rfl rfl rfl)) rfl ?_
 refine s0 (pickOrA rfl rfl rfl) rfl ?_
 refine nil ?_
 refine hK13 _ ?_
 clear hK13 K13
 refine condE hE rfl (fun hc15 hE => ?_) (fun hc15 hE => ?_)
 ·refine seqK fun K16 hK16 => ?_
  refine region ?_
  refine s0 assignA rfl ?_
  refine nil ?_
  refine hK16 _ ?_
  clear hK16 K16
  refine AWp.ret ?_
  repeat (first | refine xBlock_ret ?_ | refine xThen_ret ?_)
  obtain rfl := Option.some.inj hE
  refine retQ.retF H rfl ⟨rfl, rfl⟩ ?_
  exact (fun _ _ h => h)
 refine AWp.skip ?_
 refine hK12 _ ?_
 clear hK12 K12
 refine seqK fun K17 hK17 => ?_
 refine region ?_
 refine s0 moveA rfl ?_
 refine s0 (binI rfl rfl rfl) rfl ?_
 refine s0 moveA rfl ?_
 refine gC rfl rfl (fun hC => fieldVA (TK rfl) rfl rfl (TK rfl) rfl rfl) rfl ?_
 refine gC rfl rfl (fun hC => ungdA (k := 69) rfl (loadV (TK rfl) rfl rfl (congrArg (fun x => some (A.d x)) (TValue.FItemsD_eq _)))) rfl ?_
 obtain ⟨x18, gx18, hE⟩ := guardO_some hE
 refine gC rfl rfl (fun hC => ungdA (k := 70) rfl (idxMn (f := TValue.c) (n := 0) (TK rfl) rfl (TK rfl) rfl rfl rfl (gx18 hC))) rfl ?_
 refine gC rfl rfl (fun hC => ungdA (k := 71) rfl (fieldVA (TK rfl) rfl rfl (TK rfl) rfl rfl)) rfl ?_
 refine gC rfl rfl (fun hC => ungdA (k := 72) rfl (loadV (TK rfl) rfl rfl rfl)) rfl ?_
 refine gC rfl rfl (fun hC => ungdA (k := 73) rfl (binS rfl rfl rfl)) rfl ?_
 refine s0 (pickAndA rfl rfl rfl) rfl ?_
 refine s0 moveA rfl ?_
 refine gC rfl rfl (fun hC => moveA) rfl ?_
 refine gC rfl rfl (fun hC => ungdA (k := 77) rfl (binI rfl rfl rfl)) rfl ?_
 refine s0 (pickAndA rfl rfl rfl) rfl ?_
 refine s0 moveA rfl ?_
 refine gC rfl rfl (fun hC => moveA) rfl ?_
 refine gC rfl rfl (fun hC => ungdA (k := 81) rfl (binI rfl rfl rfl)) rfl ?_
 refine s0 (pickAndA rfl rfl rfl) rfl ?_
 refine s0 moveA rfl ?_
 refine gC rfl rfl (fun hC => moveA) rfl ?_
 obtain ⟨x19, gx19, hE⟩ := guardO_some hE
 refine gC rfl rfl (fun hC => ungdA (k := 85) rfl (idxMn (f := TArg.c) (n := 0) (TK rfl) rfl (TK rfl) rfl rfl rfl (gx19 hC))) rfl ?_
 refine gC rfl rfl (fun hC => ungdA (k := 86) rfl (fieldVA (TK rfl) rfl rfl (TK rfl) rfl rfl)) rfl ?_
 refine gC rfl rfl (fun hC => ungdA (k := 87) rfl (loadV (TK rfl) rfl rfl rfl)) rfl ?_
 refine gC rfl rfl (fun hC => ungdA (k := 88) rfl (binS rfl rfl rfl)) rfl ?_
 refine s0 (pickAndA rfl rfl rfl) rfl ?_
 refine s0 moveA rfl ?_
 refine gC rfl rfl (fun hC => moveA) rfl ?_
 obtain ⟨x20, gx20, hE⟩ := guardO_some hE
 refine gC rfl rfl (fun hC => ungdA (k := 92) rfl (idxMn (f := TArg.c) (n := 0) (TK rfl) rfl (TK rfl) rfl rfl rfl (gx20 hC))) rfl ?_
 refine gC rfl rfl (fun hC => ungdA (k := 93) rfl (fieldVA (TK rfl) rfl rfl (TK rfl) rfl rfl)) rfl ?_
 refine gC rfl rfl (fun hC => ungdA (k := 94) rfl (fieldVA (TK rfl) rfl rfl (TK rfl) rfl rfl)) rfl ?_
 refine gC rfl rfl (fun hC => ungdA (k := 95) rfl (loadV (TK rfl) rfl rfl rfl)) rfl ?_
 refine gC rfl rfl (fun hC => ungdA (k := 96) rfl (binI rfl rfl rfl)) rfl ?_
 refine s0 (pickAndA rfl rfl rfl) rfl ?_
 refine s0 moveA rfl ?_
 refine gC rfl rfl (fun hC => moveA) rfl ?_
 refine gC rfl rfl (fun hC => ungdA (k := 100) rfl (binS rfl rfl rfl)) rfl ?_
 refine s0 (pickAndA rfl rfl rfl) rfl ?_
 refine s0 moveA rfl ?_
 refine gC rfl rfl (fun hC => moveA) rfl ?_
 refine gC rfl rfl (fun hC => ungdA (k := 104) rfl (binI rfl rfl rfl)) rfl ?_
 refine s0 (pickAndA rfl rfl rfl) rfl ?_
 refine s0 moveA rfl ?_
 refine gC rfl rfl (fun hC => moveA) rfl ?_
 obtain ⟨x21, gx21, hE⟩ := guardO_some hE
 refine gC rfl rfl (fun hC => ungdA (k := 108) rfl (callR rfl rfl (Z3_walk (gT := gT) (oT := oT) (gx21 hC) _ hpG (by assumption)))) rfl ?_
 refine gC rfl rfl (fun hC => ungdA (k := 109) rfl (binS rfl rfl rfl)) rfl ?_
 refine s0 (pickAndA rfl rfl rfl) rfl ?_
 refine s0 assignA rfl ?_
 refine nil ?_
 refine hK17 _ ?_
 clear hK17 K17
 refine AWp.ret ?_
 repeat (first | refine xBlock_ret ?_ | refine xThen_ret ?_)
 obtain rfl := Option.some.inj hE
 refine retQ.retF H rfl ⟨rfl, rfl⟩ ?_
 exact (fun _ _ h => h)
end
def Z34_j7  (s5_8 : Int) : Option Int := some s5_8
def Z34_l11 (a0 : TValue) (a1 : Int) (k_rec_6 : TValue → Int → Option Int) : Nat → Int → Nat → Option Int
 | 0, _, _ => none
 | n11 + 1, s5_12, s7_13 => bif ((decide (((s7_13 : Nat) : Int) < ((a0.FItems.l.length : Nat) : Int))) && (decide (s5_12 ≤ a1))) then ((a0.FItems.l[s7_13]?).bind fun x19 => (k_rec_6 x19 a1).bind fun x20 => (addC s5_12 x20).bind fun x21 => (Z34_l11 a0 a1 k_rec_6 n11) x21 (s7_13 + 1)) else (Z34_j7   s5_12)
def Z34_j5 (a0 : TValue) (a1 : Int) (k_rec_6 : TValue → Int → Option Int) (s5_6 : Int) : Option Int := Z34_l11 a0 a1 k_rec_6 (a0.FItems.l.length + 1) s5_6 0
def Z34_l23 (a0 : TValue) (a1 : Int) (k_rec_6 : TValue → Int → Option Int) : Nat → Int → Nat → Option Int
 | 0, _, _ => none
 | n23 + 1, s5_24, s6_25 => bif ((decide (((s6_25 : Nat) : Int) < ((a0.FKeys.l.length : Nat) : Int))) && (decide (s5_24 ≤ a1))) then ((addC s5_24 (1 : Int)).bind fun x31 => (a0.FKeys.l[s6_25]?).bind fun x32 => (addC x31 ((x32.length : Nat) : Int)).bind fun x34 => (Z34_l23 a0 a1 k_rec_6 n23) x34 (s6_25 + 1)) else (Z34_j5 a0 a1 k_rec_6 s5_24)
def Z34_n : Nat → TValue → Int → Option Int
 | 0, _, _ => none
 | n + 1, a0, a1 => (addC (1 : Int) ((a0.FText.length : Nat) : Int)).bind fun x4 => Z34_l23 a0 a1 (Z34_n n) (a0.FKeys.l.length + 1) x4 0
theorem Z34_step (n : Nat) (ih_6 : ∀ {a0 : TValue} {a1 : Int}   {r : Int}, Z34_n n a0 a1 = some r → ∀ (H : Heap), ACalls Tryd.prog 6 [.agg (TValue.c a0), .d (.int .i64 a1)] H fun v h' => v = .a (.d (.int .i64 r)) ∧ h' = H) : ∀ {a0 : TValue} {a1 : Int}   {r : Int}, Z34_n (n + 1) a0 a1 = some r → ∀ (H : Heap), ACalls Tryd.prog 6 [.agg (TValue.c a0), .d (.int .i64 a1)] H fun v h' => v = .a (.d (.int .i64 r)) ∧ h' = H := by
 intro a0 a1   r hE H 
 rw [Z34_n] at hE
 refine ACalls.of_wp (fn := Tryd.f6) (c := _) Tryd.tab_ok (fun _ _ => Tryd.call6 _ _) Tryd.func6 rfl (n := 55) rfl (rs := [.tmp 4]) rfl rfl ?_
 refine seqK fun K1 hK1 => ?_
 refine region ?_
 refine s0 (boxV rfl) rfl ?_
 refine s0 assignA rfl ?_
 refine nil ?_
 refine hK1 _ ?_
 clear hK1 K1
 refine seqK fun K2 hK2 => ?_
 refine region ?_
 refine s0 (fieldVA (TK rfl) rfl rfl (TK rfl) rfl rfl) rfl ?_
 refine s0 (loadV (TK rfl) rfl rfl rfl) rfl ?_
 refine sLenS (TK rfl) rfl rfl rfl rfl fun hL3 => ?_
 obtain ⟨x4, gx4, hE⟩ := bindO_some hE
 refine s0 (addM rfl rfl gx4) rfl ?_
 refine s0 assignA rfl ?_
 refine nil ?_
 refine hK2 _ ?_
 clear hK2 K2
 refine seqJH (KeepsT.A (k := 1) (KeepsT.A (k := 2) KeepsT.nil)) (fun (z : Int) => [(5, .a (.d (.int .i64 z)))]) (fun z => H) (fun z => Z34_j5 a0 a1 (Z34_n n) z = some r) ?_ ?_
 ·intro K5 hK5
  refine seqK fun K22 hK22 => ?_
  refine region ?_
  refine s0 assignA rfl ?_
  refine nil ?_
  refine hK22 _ ?_
  clear hK22 K22
  refine block ?_
  refine loopH (KeepsT.A (k := 1) (KeepsT.A (k := 2) KeepsT.nil)) (fun (z : Nat × Int × Nat) => [(5, .a (.d (.int .i64 z.2.1))), (6, .a (.d (.int .i64 ((z.2.2 : Nat) : Int))))]) (fun z => H) (fun z => z.1) (fun z => Z34_l23 a0 a1 (Z34_n n) z.1 z.2.1 z.2.2 = some r) ((a0.FKeys.l.length + 1), x4, 0) hE Weak.toA ?_
  rintro ⟨n23, s5_24, s6_25⟩ hE K23 hK23
  try dsimp only at hE
  cases n23 with
  | zero => cases hE
  | succ n23 =>
    rw [Z34_l23] at hE
    refine seqK fun K26 hK26 => ?_
    refine seqK fun K27 hK27 => ?_
    refine region ?_
    refine s0 moveA rfl ?_
    refine s0 (fieldVA (TK rfl) rfl rfl (TK rfl) rfl rfl) rfl ?_
    refine s0 (loadV (TK rfl) rfl rfl rfl) rfl ?_
    refine sLen (f := strE) (s := a0.FKeys) (TK rfl) rfl rfl rfl rfl fun hL28 => ?_
    refine s0 (binI rfl rfl rfl) rfl ?_
    refine s0 moveA rfl ?_
    refine gC rfl rfl (fun hC => moveA) rfl ?_
    refine gC rfl rfl (fun hC => moveA) rfl ?_
    refine gC rfl rfl (fun hC => ungdA (k := 18) rfl (ungdA (k := 19) rfl (binI rfl rfl rfl))) rfl ?_
    refine s0 (pickAndA rfl rfl rfl) rfl ?_
    refine nil ?_
    refine hK27 _ ?_
    clear hK27 K27
    refine condE hE rfl (fun hc29 hE => ?_) (fun hc29 hE => ?_)
    ·try dsimp only at hc29
     have hf29 := of_decide_eq_true (and_left hc29)
     refine AWp.skip ?_
     refine hK26 _ ?_
     clear hK26 K26
     refine seqK fun K30 hK30 => ?_
     refine block ?_
     refine region ?_
     refine s0 moveA rfl ?_
     obtain ⟨x31, gx31, hE⟩ := bindO_some hE
     refine s0 (addM rfl rfl gx31) rfl ?_
     refine s0 (fieldVA (TK rfl) rfl rfl (TK rfl) rfl rfl) rfl ?_
     refine s0 (loadV (TK rfl) rfl rfl rfl) rfl ?_
     refine s0 moveA rfl ?_
     obtain ⟨x32, gx32, hE⟩ := bindO_some hE
     refine s0 (idxMn (f := strE) (n := s6_25) (TK rfl) rfl (TK rfl) rfl rfl rfl gx32) rfl ?_
     refine s0 (loadV (TK rfl) rfl rfl rfl) rfl ?_
     refine sLenS (TK rfl) rfl rfl rfl rfl fun hL33 => ?_
     obtain ⟨x34, gx34, hE⟩ := bindO_some hE
     refine s0 (addM rfl rfl gx34) rfl ?_
     refine s0 assignA rfl ?_
     refine nil ?_
     refine hK30 _ ?_
     clear hK30 K30
     refine region ?_
     refine s0 moveA rfl ?_
     refine s0 (addIA rfl rfl) rfl ?_
     refine s0 assignA rfl ?_
     refine nil ?_
     exact hK23 _ (n23, x34, (s6_25 + 1)) Weak.toA hE (Nat.lt_succ_self _)
    refine AWp.exit ?_
    exact hK5 _ s5_24 Weak.toA hE
 rintro s5_6 hE
 try dsimp only at hE
 unfold Z34_j5 at hE
 refine seqJH KeepsT.nil (fun (z : Int) => [(5, .a (.d (.int .i64 z)))]) (fun z => H) (fun z => Z34_j7 z = some r) ?_ ?_
 ·intro K7 hK7
  refine seqK fun K10 hK10 => ?_
  refine region ?_
  refine s0 assignA rfl ?_
  refine nil ?_
  refine hK10 _ ?_
  clear hK10 K10
  refine block ?_
  refine loopH (KeepsT.A (k := 1) (KeepsT.A (k := 2) KeepsT.nil)) (fun (z : Nat × Int × Nat) => [(5, .a (.d (.int .i64 z.2.1))), (7, .a (.d (.int .i64 ((z.2.2 : Nat) : Int))))]) (fun z => H) (fun z => z.1) (fun z => Z34_l11 a0 a1 (Z34_n n) z.1 z.2.1 z.2.2 = some r) ((a0.FItems.l.length + 1), s5_6, 0) hE Weak.toA ?_
  rintro ⟨n11, s5_12, s7_13⟩ hE K11 hK11
  try dsimp only at hE
  cases n11 with
  | zero => cases hE
  | succ n11 =>
    rw [Z34_l11] at hE
    refine seqK fun K14 hK14 => ?_
    refine seqK fun K15 hK15 => ?_
    refine region ?_
    refine s0 moveA rfl ?_
    refine s0 (fieldVA (TK rfl) rfl rfl (TK rfl) rfl rfl) rfl ?_
    refine s0 (loadV (TK rfl) rfl rfl (congrArg (fun x => some (A.d x)) (TValue.FItemsD_eq _))) rfl ?_
    refine sLen (f := TValue.c) (s := a0.FItems) (TK rfl) rfl rfl rfl rfl fun hL16 => ?_
    refine s0 (binI rfl rfl rfl) rfl ?_
    refine s0 moveA rfl ?_
    refine gC rfl rfl (fun hC => moveA) rfl ?_
    refine gC rfl rfl (fun hC => moveA) rfl ?_
    refine gC rfl rfl (fun hC => ungdA (k := 39) rfl (ungdA (k := 40) rfl (binI rfl rfl rfl))) rfl ?_
    refine s0 (pickAndA rfl rfl rfl) rfl ?_
    refine nil ?_
    refine hK15 _ ?_
    clear hK15 K15
    refine condE hE rfl (fun hc17 hE => ?_) (fun hc17 hE => ?_)
    ·try dsimp only at hc17
     have hf17 := of_decide_eq_true (and_left hc17)
     refine AWp.skip ?_
     refine hK14 _ ?_
     clear hK14 K14
     refine seqK fun K18 hK18 => ?_
     refine block ?_
     refine region ?_
     refine s0 moveA rfl ?_
     refine s0 (fieldVA (TK rfl) rfl rfl (TK rfl) rfl rfl) rfl ?_
     refine s0 (loadV (TK rfl) rfl rfl (congrArg (fun x => some (A.d x)) (TValue.FItemsD_eq _))) rfl ?_
     refine s0 moveA rfl ?_
     obtain ⟨x19, gx19, hE⟩ := bindO_some hE
     refine s0 (idxMn (f := TValue.c) (n := s7_13) (TK rfl) rfl (TK rfl) rfl rfl rfl gx19) rfl ?_
     refine s0 (loadV (TK rfl) rfl rfl rfl) rfl ?_
     refine s0 moveA rfl ?_
     obtain ⟨x20, gx20, hE⟩ := bindO_some hE
     refine s0 (callP rfl rfl (fun H => ih_6 gx20 H)) rfl ?_
     obtain ⟨x21, gx21, hE⟩ := bindO_some hE
     refine s0 (addM rfl rfl gx21) rfl ?_
     refine s0 assignA rfl ?_
     refine nil ?_
     refine hK18 _ ?_
     clear hK18 K18
     refine region ?_
     refine s0 moveA rfl ?_
     refine s0 (addIA rfl rfl) rfl ?_
     refine s0 assignA rfl ?_
     refine nil ?_
     exact hK11 _ (n11, x21, (s7_13 + 1)) Weak.toA hE (Nat.lt_succ_self _)
    refine AWp.exit ?_
    exact hK7 _ s5_12 Weak.toA hE
 rintro s5_8 hE
 try dsimp only at hE
 unfold Z34_j7 at hE
 refine seqK fun K9 hK9 => ?_
 refine region ?_
 refine s0 moveA rfl ?_
 refine s0 assignA rfl ?_
 refine nil ?_
 refine hK9 _ ?_
 clear hK9 K9
 refine AWp.ret ?_
 repeat (first | refine xBlock_ret ?_ | refine xThen_ret ?_)
 obtain rfl := Option.some.inj hE
 refine retQ.retF H rfl ⟨rfl, rfl⟩ ?_
 exact (fun _ _ h => h)
theorem Z34_all : ∀ (n : Nat), (∀ {a0 : TValue} {a1 : Int}   {r : Int}, Z34_n n a0 a1 = some r → ∀ (H : Heap), ACalls Tryd.prog 6 [.agg (TValue.c a0), .d (.int .i64 a1)] H fun v h' => v = .a (.d (.int .i64 r)) ∧ h' = H)
 | 0 => fun hE => by first | cases hE | (rw [Z34_n] at hE; cases hE)
 | n + 1 => Z34_step n (Z34_all n)
def Z34 (a0 : TValue) (a1 : Int) : Option Int := Z34_n F0 a0 a1
theorem Z34_walk {a0 : TValue} {a1 : Int}   {r : Int} (hE : Z34 a0 a1 = some r) (H : Heap)  : ACalls Tryd.prog 6 [.agg (TValue.c a0), .d (.int .i64 a1)] H fun v h' => v = .a (.d (.int .i64 r)) ∧ h' = H := (Z34_all F0) hE H 
def Z29_j3  (s3_4 : Int) : Option Int := some s3_4
def Z29_l7 (a0 : TValue) (k_rec_18 : TValue → Option Int) : Nat → Int → Nat → Option Int
 | 0, _, _ => none
 | n7 + 1, s3_8, s4_9 => bif (decide (((s4_9 : Nat) : Int) < ((a0.FItems.l.length : Nat) : Int))) then ((a0.FItems.l[s4_9]?).bind fun x15 => (k_rec_18 x15).bind fun x16 => (addC s3_8 x16).bind fun x17 => (Z29_l7 a0 k_rec_18 n7) x17 (s4_9 + 1)) else (Z29_j3   s3_8)
def Z29_n : Nat → TValue → Option Int
 | 0, _ => none
 | n + 1, a0 => Z29_l7 a0 (Z29_n n) (a0.FItems.l.length + 1) (1 : Int) 0
theorem Z29_step (n : Nat) (ih_18 : ∀ {a0 : TValue}   {r : Int}, Z29_n n a0 = some r → ∀ (H : Heap), ACalls Tryd.prog 18 [.agg (TValue.c a0)] H fun v h' => v = .a (.d (.int .i64 r)) ∧ h' = H) : ∀ {a0 : TValue}   {r : Int}, Z29_n (n + 1) a0 = some r → ∀ (H : Heap), ACalls Tryd.prog 18 [.agg (TValue.c a0)] H fun v h' => v = .a (.d (.int .i64 r)) ∧ h' = H := by
 intro a0   r hE H 
 rw [Z29_n] at hE
 refine ACalls.of_wp (fn := Tryd.f18) (c := _) Tryd.tab_ok (fun _ _ => Tryd.call18 _ _) Tryd.func18 rfl (n := 21) rfl (rs := [.tmp 2]) rfl rfl ?_
 refine seqK fun K1 hK1 => ?_
 refine region ?_
 refine s0 (boxV rfl) rfl ?_
 refine s0 assignA rfl ?_
 refine nil ?_
 refine hK1 _ ?_
 clear hK1 K1
 refine seqK fun K2 hK2 => ?_
 refine region ?_
 refine s0 assignA rfl ?_
 refine nil ?_
 refine hK2 _ ?_
 clear hK2 K2
 refine seqJH KeepsT.nil (fun (z : Int) => [(3, .a (.d (.int .i64 z)))]) (fun z => H) (fun z => Z29_j3 z = some r) ?_ ?_
 ·intro K3 hK3
  refine seqK fun K6 hK6 => ?_
  refine region ?_
  refine s0 assignA rfl ?_
  refine nil ?_
  refine hK6 _ ?_
  clear hK6 K6
  refine block ?_
  refine loopH (KeepsT.A (k := 1) KeepsT.nil) (fun (z : Nat × Int × Nat) => [(3, .a (.d (.int .i64 z.2.1))), (4, .a (.d (.int .i64 ((z.2.2 : Nat) : Int))))]) (fun z => H) (fun z => z.1) (fun z => Z29_l7 a0 (Z29_n n) z.1 z.2.1 z.2.2 = some r) ((a0.FItems.l.length + 1), (1 : Int), 0) hE Weak.toA ?_
  rintro ⟨n7, s3_8, s4_9⟩ hE K7 hK7
  try dsimp only at hE
  cases n7 with
  | zero => cases hE
  | succ n7 =>
    rw [Z29_l7] at hE
    refine seqK fun K10 hK10 => ?_
    refine seqK fun K11 hK11 => ?_
    refine region ?_
    refine s0 moveA rfl ?_
    refine s0 (fieldVA (TK rfl) rfl rfl (TK rfl) rfl rfl) rfl ?_
    refine s0 (loadV (TK rfl) rfl rfl (congrArg (fun x => some (A.d x)) (TValue.FItemsD_eq _))) rfl ?_
    refine sLen (f := TValue.c) (s := a0.FItems) (TK rfl) rfl rfl rfl rfl fun hL12 => ?_
    refine s0 (binI rfl rfl rfl) rfl ?_
    refine nil ?_
    refine hK11 _ ?_
    clear hK11 K11
    refine condE hE rfl (fun hc13 hE => ?_) (fun hc13 hE => ?_)
    ·try dsimp only at hc13
     have hf13 := of_decide_eq_true hc13
     refine AWp.skip ?_
     refine hK10 _ ?_
     clear hK10 K10
     refine seqK fun K14 hK14 => ?_
     refine block ?_
     refine region ?_
     refine s0 moveA rfl ?_
     refine s0 (fieldVA (TK rfl) rfl rfl (TK rfl) rfl rfl) rfl ?_
     refine s0 (loadV (TK rfl) rfl rfl (congrArg (fun x => some (A.d x)) (TValue.FItemsD_eq _))) rfl ?_
     refine s0 moveA rfl ?_
     obtain ⟨x15, gx15, hE⟩ := bindO_some hE
     refine s0 (idxMn (f := TValue.c) (n := s4_9) (TK rfl) rfl (TK rfl) rfl rfl rfl gx15) rfl ?_
     refine s0 (loadV (TK rfl) rfl rfl rfl) rfl ?_
     obtain ⟨x16, gx16, hE⟩ := bindO_some hE
     refine s0 (callP rfl rfl (fun H => ih_18 gx16 H)) rfl ?_
     obtain ⟨x17, gx17, hE⟩ := bindO_some hE
     refine s0 (addM rfl rfl gx17) rfl ?_
     refine s0 assignA rfl ?_
     refine nil ?_
     refine hK14 _ ?_
     clear hK14 K14
     refine region ?_
     refine s0 moveA rfl ?_
     refine s0 (addIA rfl rfl) rfl ?_
     refine s0 assignA rfl ?_
     refine nil ?_
     exact hK7 _ (n7, x17, (s4_9 + 1)) Weak.toA hE (Nat.lt_succ_self _)
    refine AWp.exit ?_
    exact hK3 _ s3_8 Weak.toA hE
 rintro s3_4 hE
 try dsimp only at hE
 unfold Z29_j3 at hE
 refine seqK fun K5 hK5 => ?_
 refine region ?_
 refine s0 moveA rfl ?_
 refine s0 assignA rfl ?_
 refine nil ?_
 refine hK5 _ ?_
 clear hK5 K5
 refine AWp.ret ?_
 repeat (first | refine xBlock_ret ?_ | refine xThen_ret ?_)
 obtain rfl := Option.some.inj hE
 refine retQ.retF H rfl ⟨rfl, rfl⟩ ?_
 exact (fun _ _ h => h)
theorem Z29_all : ∀ (n : Nat), (∀ {a0 : TValue}   {r : Int}, Z29_n n a0 = some r → ∀ (H : Heap), ACalls Tryd.prog 18 [.agg (TValue.c a0)] H fun v h' => v = .a (.d (.int .i64 r)) ∧ h' = H)
 | 0 => fun hE => by first | cases hE | (rw [Z29_n] at hE; cases hE)
 | n + 1 => Z29_step n (Z29_all n)
def Z29 (a0 : TValue) : Option Int := Z29_n F0 a0
theorem Z29_walk {a0 : TValue}   {r : Int} (hE : Z29 a0 = some r) (H : Heap)  : ACalls Tryd.prog 18 [.agg (TValue.c a0)] H fun v h' => v = .a (.d (.int .i64 r)) ∧ h' = H := (Z29_all F0) hE H 
def Z26_j3  (s3_4 : Int) : Option Int := (addC s3_4 (1 : Int)).bind fun x6 => some x6
def Z26_l8 (a0 : TValue) (k_rec_19 : TValue → Option Int) : Nat → Int → Nat → Option Int
 | 0, _, _ => none
 | n8 + 1, s3_9, s4_10 => bif (decide (((s4_10 : Nat) : Int) < ((a0.FItems.l.length : Nat) : Int))) then ((a0.FItems.l[s4_10]?).bind fun x16 => (k_rec_19 x16).bind fun x17 => (Z26_l8 a0 k_rec_19 n8) (if x17 > s3_9 then x17 else s3_9) (s4_10 + 1)) else (Z26_j3   s3_9)
def Z26_n : Nat → TValue → Option Int
 | 0, _ => none
 | n + 1, a0 => Z26_l8 a0 (Z26_n n) (a0.FItems.l.length + 1) (0 : Int) 0
theorem Z26_step (n : Nat) (ih_19 : ∀ {a0 : TValue}   {r : Int}, Z26_n n a0 = some r → ∀ (H : Heap), ACalls Tryd.prog 19 [.agg (TValue.c a0)] H fun v h' => v = .a (.d (.int .i64 r)) ∧ h' = H) : ∀ {a0 : TValue}   {r : Int}, Z26_n (n + 1) a0 = some r → ∀ (H : Heap), ACalls Tryd.prog 19 [.agg (TValue.c a0)] H fun v h' => v = .a (.d (.int .i64 r)) ∧ h' = H := by
 intro a0   r hE H 
 rw [Z26_n] at hE
 refine ACalls.of_wp (fn := Tryd.f19) (c := _) Tryd.tab_ok (fun _ _ => Tryd.call19 _ _) Tryd.func19 rfl (n := 22) rfl (rs := [.tmp 2]) rfl rfl ?_
 refine seqK fun K1 hK1 => ?_
 refine region ?_
 refine s0 (boxV rfl) rfl ?_
 refine s0 assignA rfl ?_
 refine nil ?_
 refine hK1 _ ?_
 clear hK1 K1
 refine seqK fun K2 hK2 => ?_
 refine region ?_
 refine s0 assignA rfl ?_
 refine nil ?_
 refine hK2 _ ?_
 clear hK2 K2
 refine seqJH KeepsT.nil (fun (z : Int) => [(3, .a (.d (.int .i64 z)))]) (fun z => H) (fun z => Z26_j3 z = some r) ?_ ?_
 ·intro K3 hK3
  refine seqK fun K7 hK7 => ?_
  refine region ?_
  refine s0 assignA rfl ?_
  refine nil ?_
  refine hK7 _ ?_
  clear hK7 K7
  refine block ?_
  refine loopH (KeepsT.A (k := 1) KeepsT.nil) (fun (z : Nat × Int × Nat) => [(3, .a (.d (.int .i64 z.2.1))), (4, .a (.d (.int .i64 ((z.2.2 : Nat) : Int))))]) (fun z => H) (fun z => z.1) (fun z => Z26_l8 a0 (Z26_n n) z.1 z.2.1 z.2.2 = some r) ((a0.FItems.l.length + 1), (0 : Int), 0) hE Weak.toA ?_
  rintro ⟨n8, s3_9, s4_10⟩ hE K8 hK8
  try dsimp only at hE
  cases n8 with
  | zero => cases hE
  | succ n8 =>
    rw [Z26_l8] at hE
    refine seqK fun K11 hK11 => ?_
    refine seqK fun K12 hK12 => ?_
    refine region ?_
    refine s0 moveA rfl ?_
    refine s0 (fieldVA (TK rfl) rfl rfl (TK rfl) rfl rfl) rfl ?_
    refine s0 (loadV (TK rfl) rfl rfl (congrArg (fun x => some (A.d x)) (TValue.FItemsD_eq _))) rfl ?_
    refine sLen (f := TValue.c) (s := a0.FItems) (TK rfl) rfl rfl rfl rfl fun hL13 => ?_
    refine s0 (binI rfl rfl rfl) rfl ?_
    refine nil ?_
    refine hK12 _ ?_
    clear hK12 K12
    refine condE hE rfl (fun hc14 hE => ?_) (fun hc14 hE => ?_)
    ·try dsimp only at hc14
     have hf14 := of_decide_eq_true hc14
     refine AWp.skip ?_
     refine hK11 _ ?_
     clear hK11 K11
     refine seqK fun K15 hK15 => ?_
     refine block ?_
     refine region ?_
     refine s0 moveA rfl ?_
     refine s0 (fieldVA (TK rfl) rfl rfl (TK rfl) rfl rfl) rfl ?_
     refine s0 (loadV (TK rfl) rfl rfl (congrArg (fun x => some (A.d x)) (TValue.FItemsD_eq _))) rfl ?_
     refine s0 moveA rfl ?_
     obtain ⟨x16, gx16, hE⟩ := bindO_some hE
     refine s0 (idxMn (f := TValue.c) (n := s4_10) (TK rfl) rfl (TK rfl) rfl rfl rfl gx16) rfl ?_
     refine s0 (loadV (TK rfl) rfl rfl rfl) rfl ?_
     obtain ⟨x17, gx17, hE⟩ := bindO_some hE
     refine s0 (callP rfl rfl (fun H => ih_19 gx17 H)) rfl ?_
     refine s0 (maxM rfl rfl) rfl ?_
     refine s0 assignA rfl ?_
     refine nil ?_
     refine hK15 _ ?_
     clear hK15 K15
     refine region ?_
     refine s0 moveA rfl ?_
     refine s0 (addIA rfl rfl) rfl ?_
     refine s0 assignA rfl ?_
     refine nil ?_
     exact hK8 _ (n8, (if x17 > s3_9 then x17 else s3_9), (s4_10 + 1)) Weak.toA hE (Nat.lt_succ_self _)
    refine AWp.exit ?_
    exact hK3 _ s3_9 Weak.toA hE
 rintro s3_4 hE
 try dsimp only at hE
 unfold Z26_j3 at hE
 refine seqK fun K5 hK5 => ?_
 refine region ?_
 refine s0 moveA rfl ?_
 obtain ⟨x6, gx6, hE⟩ := bindO_some hE
 refine s0 (addM rfl rfl gx6) rfl ?_
 refine s0 assignA rfl ?_
 refine nil ?_
 refine hK5 _ ?_
 clear hK5 K5
 refine AWp.ret ?_
 repeat (first | refine xBlock_ret ?_ | refine xThen_ret ?_)
 obtain rfl := Option.some.inj hE
 refine retQ.retF H rfl ⟨rfl, rfl⟩ ?_
 exact (fun _ _ h => h)
theorem Z26_all : ∀ (n : Nat), (∀ {a0 : TValue}   {r : Int}, Z26_n n a0 = some r → ∀ (H : Heap), ACalls Tryd.prog 19 [.agg (TValue.c a0)] H fun v h' => v = .a (.d (.int .i64 r)) ∧ h' = H)
 | 0 => fun hE => by first | cases hE | (rw [Z26_n] at hE; cases hE)
 | n + 1 => Z26_step n (Z26_all n)
def Z26 (a0 : TValue) : Option Int := Z26_n F0 a0
theorem Z26_walk {a0 : TValue}   {r : Int} (hE : Z26 a0 = some r) (H : Heap)  : ACalls Tryd.prog 19 [.agg (TValue.c a0)] H fun v h' => v = .a (.d (.int .i64 r)) ∧ h' = H := (Z26_all F0) hE H 
end Go.Proofs
