import Derived.Test.YtjlggcgmmpopmaaGreatDoorV7
set_option maxRecDepth 100000
set_option maxHeartbeats 2000000
set_option linter.unusedVariables false
set_option linter.unusedSimpArgs false
namespace Go.Proofs
open Go Go.Ab
open AOps Cert AWp
variable {lou : Lou}
def r12_work_coerce_j22  (y23_c0 : R12_work) : Option (TValue × R12_work) := some ((TValue.mk (0 : Int) (0 : Int) ([] : Bs) true ([]) (Sl.nil : Sl Bs)), y23_c0)
def r12_work_coerce_j9 (a1 : TRef) (a3 : Int) (k_rec_100 : R12_work → TRef → TValue → Int → Option (TValue × R12_work)) (k_rec_103 : R12_work → TDef → TValue → Int → Option (TValue × R12_work)) (y10_c0 : R12_work) (y11_l0 : TValue) (y12_l1 : TValue) : Option (TValue × R12_work) := (Z63 y10_c0 a3).bind fun x14 => bif (!decide (x14.Ferr = (0 : Int))) then (some ((TValue.mk (0 : Int) (0 : Int) ([] : Bs) true ([]) (Sl.nil : Sl Bs)), x14)) else (bif (decide (y11_l0.FKind = (0 : Int))) then ((Z36 a1).bind fun x26 => bif x26 then ((Z61 x14 (23 : Int)).bind fun x28 => r12_work_coerce_j22   x28) else (r12_work_coerce_j22   x14)) else ((Z34 a1).bind fun x31 => bif x31.2 then ((k_rec_100 x14 x31.1 y11_l0 a3).bind fun x35 => some (x35.1, x35.2)) else ((Z55 a1.FName).bind fun x38 => bif x38 then ((Z66 x14 a1.FName y11_l0).bind fun x41 => some (x41.1, x41.2)) else ((Z51 x14.Fd a1.FName).bind fun x43 => bif (decide (x43.1.FKind = (4 : Int))) then ((Z60 x14 x43.1 y11_l0).bind fun x48 => some (x48.1, x48.2)) else ((k_rec_103 x14 x43.1 y11_l0 a3).bind fun x50 => some (x50.1, x50.2))))))
def r12_work_list_j7  (y8_c0 : R12_work) (y9_l1 : TValue) : Option (TValue × R12_work) := some (y9_l1, y8_c0)
def r12_work_list_l12 (a1 : TRef) (a3 : Int) (s9_4 : (Sl TValue)) (k_rec_71 : R12_work → TRef → TValue → Int → Option (TValue × R12_work)) : Nat → Nat → R12_work → TValue → Option (TValue × R12_work)
 | 0, _, _, _ => none
 | n12 + 1, s11_13, y14_c0, y15_l1 => bif ((decide (((s11_13 : Nat) : Int) < ((s9_4.l.length : Nat) : Int))) && (decide (y14_c0.Ferr = (0 : Int)))) then ((s9_4.l[s11_13]?).bind fun x22 => (addC a3 (1 : Int)).bind fun x23 => (k_rec_71 y14_c0 a1 x22 x23).bind fun x24 => (appC 80 y15_l1.FItems (⟨false, [x24.1]⟩ : Sl TValue)).bind fun x25 => (r12_work_list_l12 a1 a3 s9_4 k_rec_71 n12) (s11_13 + 1) x24.2 (TValue.mk y15_l1.FKind y15_l1.FInt y15_l1.FText x25.nl x25.l y15_l1.FKeys)) else (r12_work_list_j7   y14_c0 y15_l1)
def r12_work_list_j3 (a0 : R12_work) (a1 : TRef) (a3 : Int) (k_rec_71 : R12_work → TRef → TValue → Int → Option (TValue × R12_work)) (s9_4 : (Sl TValue)) : Option (TValue × R12_work) := r12_work_list_l12 a1 a3 s9_4 k_rec_71 (s9_4.l.length + 1) 0 a0 (TValue.mk (5 : Int) (0 : Int) ([] : Bs) true ([]) (Sl.nil : Sl Bs))
def r12_work_object_j13  (y14_c0 : R12_work) (y15_l1 : TValue) : Option (TValue × R12_work) := some (y15_l1, y14_c0)
def r12_work_object_j26 (s13_19 : Nat) (k_next_18 : Nat → R12_work → TValue → Option (TValue × R12_work)) (y27_c0 : R12_work) (y28_l1 : TValue) : Option (TValue × R12_work) := k_next_18 (s13_19 + 1) y27_c0 y28_l1
def r12_work_object_j38 (s13_19 : Nat) (y21_l1 : TValue) (x30 : TInput) (k_next_18 : Nat → R12_work → TValue → Option (TValue × R12_work)) (y39_c0 : R12_work) (y40_l2 : TValue) : Option (TValue × R12_work) := (appC 16 y21_l1.FKeys (⟨false, [x30.FName]⟩ : Sl Bs)).bind fun x42 => (appC 80 y21_l1.FItems (⟨false, [y40_l2]⟩ : Sl TValue)).bind fun x43 => r12_work_object_j26 s13_19 k_next_18 y39_c0 (TValue.mk y21_l1.FKind y21_l1.FInt y21_l1.FText x43.nl x43.l x42)
def r12_work_object_l18 (a1 : TDef) (a2 : TValue) (a3 : Int) (k_rec_119 : R12_work → TRef → TValue → Int → Option (TValue × R12_work)) (k_rec_71 : R12_work → TRef → TValue → Int → Option (TValue × R12_work)) : Nat → Nat → R12_work → TValue → Option (TValue × R12_work)
 | 0, _, _, _ => none
 | n18 + 1, s13_19, y20_c0, y21_l1 => bif ((decide (((s13_19 : Nat) : Int) < ((a1.FInputs.l.length : Nat) : Int))) && (decide (y20_c0.Ferr = (0 : Int)))) then ((a1.FInputs.l[s13_19]?).bind fun x30 => (Z59 a1.FInputs ((s13_19 : Nat) : Int)).bind fun x33 => bif x33 then (r12_work_object_j26 s13_19 ((r12_work_object_l18 a1 a2 a3 k_rec_119 k_rec_71 n18)) y20_c0 y21_l1) else ((Z26 a2 x30.FName).bind fun x36 => guardO (x36.2) (Z62 y20_c0 x36.1) false fun x45 => bif (x36.2 && (!x45)) then ((addC a3 (1 : Int)).bind fun x47 => (k_rec_71 y20_c0 x30.FType x36.1 x47).bind fun x48 => r12_work_object_j38 s13_19 y21_l1 x30 ((r12_work_object_l18 a1 a2 a3 k_rec_119 k_rec_71 n18)) x48.2 x48.1) else (bif x30.FHas then ((addC a3 (1 : Int)).bind fun x51 => (k_rec_119 y20_c0 x30.FType x30.FDefault x51).bind fun x52 => r12_work_object_j38 s13_19 y21_l1 x30 ((r12_work_object_l18 a1 a2 a3 k_rec_119 k_rec_71 n18)) x52.2 x52.1) else ((Z36 x30.FType).bind fun x54 => bif x54 then ((Z61 y20_c0 (22 : Int)).bind fun x56 => r12_work_object_j38 s13_19 y21_l1 x30 ((r12_work_object_l18 a1 a2 a3 k_rec_119 k_rec_71 n18)) x56 TValue.zero) else (r12_work_object_j26 s13_19 ((r12_work_object_l18 a1 a2 a3 k_rec_119 k_rec_71 n18)) y20_c0 y21_l1))))) else (r12_work_object_j13   y20_c0 y21_l1)
def r12_work_object_j8 (a1 : TDef) (a2 : TValue) (a3 : Int) (k_rec_119 : R12_work → TRef → TValue → Int → Option (TValue × R12_work)) (k_rec_71 : R12_work → TRef → TValue → Int → Option (TValue × R12_work)) (y9_c0 : R12_work) : Option (TValue × R12_work) := r12_work_object_l18 a1 a2 a3 k_rec_119 k_rec_71 (a1.FInputs.l.length + 1) 0 y9_c0 (TValue.mk (6 : Int) (0 : Int) ([] : Bs) true ([]) (Sl.nil : Sl Bs))
def r12_work_object_j65 (s9_59 : Nat) (k_next_58 : Nat → R12_work → Option (TValue × R12_work)) (y66_c0 : R12_work) : Option (TValue × R12_work) := k_next_58 (s9_59 + 1) y66_c0
def r12_work_object_l58 (a1 : TDef) (a2 : TValue) (a3 : Int) (k_rec_119 : R12_work → TRef → TValue → Int → Option (TValue × R12_work)) (k_rec_71 : R12_work → TRef → TValue → Int → Option (TValue × R12_work)) : Nat → Nat → R12_work → Option (TValue × R12_work)
 | 0, _, _ => none
 | n58 + 1, s9_59, y60_c0 => bif (decide (((s9_59 : Nat) : Int) < ((a2.FKeys.l.length : Nat) : Int))) then ((a2.FKeys.l[s9_59]?).bind fun x68 => (Z52 a1.FInputs x68).bind fun x69 => bif (!x69.2) then ((Z61 y60_c0 (22 : Int)).bind fun x72 => r12_work_object_j65 s9_59 ((r12_work_object_l58 a1 a2 a3 k_rec_119 k_rec_71 n58)) x72) else (r12_work_object_j65 s9_59 ((r12_work_object_l58 a1 a2 a3 k_rec_119 k_rec_71 n58)) y60_c0)) else (r12_work_object_j8 a1 a2 a3 k_rec_119 k_rec_71 y60_c0)
mutual
def r12_work_coerce_n : Nat → R12_work → TRef → TValue → Int → Option (TValue × R12_work)
 | 0, _, _, _, _ => none
 | n + 1, a0, a1, a2, a3 => (Z53 a0.Fd a1.FName).bind fun x4 => bif (!x4) then ((Z61 a0 (10 : Int)).bind fun x7 => some ((TValue.mk (0 : Int) (0 : Int) ([] : Bs) true ([]) (Sl.nil : Sl Bs)), x7)) else (bif (a0.Flit && (decide (a2.FKind = (7 : Int)))) then ((Z26 a0.Fvars a2.FText).bind fun x54 => bif (!decide (x54.1.FKind = (0 : Int))) then ((Z67 a0 x54.1 a3).bind fun x59 => some (x59.1, x59.2)) else (r12_work_coerce_j9 a1 a3 (r12_work_list_n n) (r12_work_object_n n) a0 (TValue.mk (0 : Int) (0 : Int) ([] : Bs) true ([]) (Sl.nil : Sl Bs)) TValue.zero)) else (r12_work_coerce_j9 a1 a3 (r12_work_list_n n) (r12_work_object_n n) a0 a2 TValue.zero))
def r12_work_list_n : Nat → R12_work → TRef → TValue → Int → Option (TValue × R12_work)
 | 0, _, _, _, _ => none
 | n + 1, a0, a1, a2, a3 => bif (decide (a2.FKind = (5 : Int))) then (r12_work_list_j3 a0 a1 a3 (r12_work_coerce_n n) a2.FItems) else (r12_work_list_j3 a0 a1 a3 (r12_work_coerce_n n) (⟨false, [a2]⟩ : Sl TValue))
def r12_work_object_n : Nat → R12_work → TDef → TValue → Int → Option (TValue × R12_work)
 | 0, _, _, _, _ => none
 | n + 1, a0, a1, a2, a3 => bif (!decide (a2.FKind = (6 : Int))) then ((Z61 a0 (23 : Int)).bind fun x6 => some ((TValue.mk (0 : Int) (0 : Int) ([] : Bs) true ([]) (Sl.nil : Sl Bs)), x6)) else (r12_work_object_l58 a1 a2 a3 (Z64_n n) (r12_work_coerce_n n) (a2.FKeys.l.length + 1) 0 a0)
def Z64_n : Nat → R12_work → TRef → TValue → Int → Option (TValue × R12_work)
 | 0, _, _, _, _ => none
 | n + 1, a0, a1, a2, a3 => ((r12_work_coerce_n n) (R12_work.mk a0.Fd (TValue.mk (0 : Int) (0 : Int) ([] : Bs) true ([]) (Sl.nil : Sl Bs)) true a0.Fcount a0.Ferr) a1 a2 a3).bind fun x5 => some (x5.1, (R12_work.mk x5.2.Fd a0.Fvars a0.Flit x5.2.Fcount x5.2.Ferr))
end
theorem r12_work_coerce_step (n : Nat) (ih_71 : ∀ {a0 : R12_work} {a1 : TRef} {a2 : TValue} {a3 : Int}  {c0 : Nat} {r : (TValue × R12_work)}, r12_work_coerce_n n a0 a1 a2 a3 = some r → ∀ (H : Heap) (hc0 : H c0 = some (.cells (R12_work.c a0))), ACalls Tryz.prog 71 [.d (.ptr c0 0), .agg (TRef.c a1), .agg (TValue.c a2), .d (.int .i64 a3)] H fun v h' => v = .a (.agg (TValue.c r.1)) ∧ h' = (H.set c0 (some (.cells (R12_work.c r.2))))) (ih_100 : ∀ {a0 : R12_work} {a1 : TRef} {a2 : TValue} {a3 : Int}  {c0 : Nat} {r : (TValue × R12_work)}, r12_work_list_n n a0 a1 a2 a3 = some r → ∀ (H : Heap) (hc0 : H c0 = some (.cells (R12_work.c a0))), ACalls Tryz.prog 100 [.d (.ptr c0 0), .agg (TRef.c a1), .agg (TValue.c a2), .d (.int .i64 a3)] H fun v h' => v = .a (.agg (TValue.c r.1)) ∧ h' = (H.set c0 (some (.cells (R12_work.c r.2))))) (ih_103 : ∀ {a0 : R12_work} {a1 : TDef} {a2 : TValue} {a3 : Int}  {c0 : Nat} {r : (TValue × R12_work)}, r12_work_object_n n a0 a1 a2 a3 = some r → ∀ (H : Heap) (hc0 : H c0 = some (.cells (R12_work.c a0))), ACalls Tryz.prog 103 [.d (.ptr c0 0), .agg (TDef.c a1), .agg (TValue.c a2), .d (.int .i64 a3)] H fun v h' => v = .a (.agg (TValue.c r.1)) ∧ h' = (H.set c0 (some (.cells (R12_work.c r.2))))) (ih_119 : ∀ {a0 : R12_work} {a1 : TRef} {a2 : TValue} {a3 : Int}  {c0 : Nat} {r : (TValue × R12_work)}, Z64_n n a0 a1 a2 a3 = some r → ∀ (H : Heap) (hc0 : H c0 = some (.cells (R12_work.c a0))), ACalls Tryz.prog 119 [.d (.ptr c0 0), .agg (TRef.c a1), .agg (TValue.c a2), .d (.int .i64 a3)] H fun v h' => v = .a (.agg (TValue.c r.1)) ∧ h' = (H.set c0 (some (.cells (R12_work.c r.2))))) : ∀ {a0 : R12_work} {a1 : TRef} {a2 : TValue} {a3 : Int}  {c0 : Nat} {r : (TValue × R12_work)}, r12_work_coerce_n (n + 1) a0 a1 a2 a3 = some r → ∀ (H : Heap) (hc0 : H c0 = some (.cells (R12_work.c a0))), ACalls Tryz.prog 71 [.d (.ptr c0 0), .agg (TRef.c a1), .agg (TValue.c a2), .d (.int .i64 a3)] H fun v h' => v = .a (.agg (TValue.c r.1)) ∧ h' = (H.set c0 (some (.cells (R12_work.c r.2)))) := by
 intro a0 a1 a2 a3  c0 r hE H hc0
 rw [r12_work_coerce_n] at hE
 refine ACalls.of_wp (fn := Tryz.f71) (c := _) Tryz.tab_ok (fun _ _ => Tryz.call71 _ _) Tryz.func71 rfl (n := 111) rfl (rs := [.cell 8 31]) rfl rfl ?_
 refine AWp.heqA (h' := (H.set c0 (some (.cells (R12_work.c a0))))) (by funext n_; simp only [Heap.set]; (repeat' split) <;> simp_all) ?_
 refine seqK fun K1 hK1 => ?_
 refine region ?_
 refine s0 (boxV rfl) rfl ?_
 refine sL (boxL rfl (by repeat (first | exact Snoc.nil | apply Snoc.cons))) rfl ?_
 refine sL (allocLA (TK rfl) rfl) rfl ?_
 refine nil ?_
 refine hK1 _ ?_
 clear hK1 K1
 refine seqK fun K2 hK2 => ?_
 refine seqK fun K3 hK3 => ?_
 refine AWp.draw rfl ?_
 refine DOps.s0 moveA rfl ?_
 refine DOps.s0 (nilP rfl) rfl ?_
 refine DOps.s0 (fieldP (TK rfl) rfl rfl (TK rfl) rfl rfl) rfl ?_
 refine DOps.s0 (loadP (TK rfl) rfl rfl hpG rfl) rfl ?_
 refine DOps.s0 (fieldVA (TK rfl) rfl rfl (TK rfl) rfl rfl) rfl ?_
 refine DOps.s0 (loadV (TK rfl) rfl rfl rfl) rfl ?_
 obtain ⟨x4, gx4, hE⟩ := bindO_some hE
 refine DOps.s0 (callP rfl rfl (fun H => Z53_walk gx4 H)) rfl ?_
 refine DOps.s0 (notB rfl) rfl ?_
 refine DOps.nil (by decide +kernel) ?_
 refine hK3 _ ?_
 clear hK3 K3
 refine condE hE rfl (fun hc5 hE => ?_) (fun hc5 hE => ?_)
 ·refine seqK fun K6 hK6 => ?_
  refine region ?_
  refine s0 moveA rfl ?_
  obtain ⟨x7, gx7, hE⟩ := bindO_some hE
  refine sH (callH rfl rfl (Z61_walk gx7 _ hpG)) rfl ?_
  refine AOps.heq (h' := (H.set c0 (some (.cells (R12_work.c x7))))) (by first | rfl | (rw [Heap.set_set]; rfl) | (funext n_; simp only [Heap.set]; (repeat' split) <;> first | rfl | (exfalso; simp_all; done) | (simp_all; done))) ?_
  refine nil ?_
  refine hK6 _ ?_
  clear hK6 K6
  refine seqK fun K8 hK8 => ?_
  refine region ?_
  refine s0 (build Tryz.tab_ok rfl rfl rfl rfl rfl rfl) rfl ?_
  refine sLn (storeLFA (TK rfl) rfl rfl rfl rfl rfl) ?_
  refine nil ?_
  refine hK8 _ ?_
  clear hK8 K8
  refine AWp.ret ?_
  repeat (first | refine xBlock_ret ?_ | refine xThen_ret ?_)
  obtain rfl := Option.some.inj hE
  refine retQ.retF (H.set c0 (some (.cells (R12_work.c x7)))) rfl ⟨rfl, rfl⟩ ?_
  exact (fun _ _ h => h)
 refine AWp.skip ?_
 refine hK2 _ ?_
 clear hK2 K2
 refine seqJ (KeepsT.A (k := 0) (KeepsT.A (k := 3) (KeepsT.A (k := 5) (KeepsT.A (k := 6) (KeepsT.A (k := 8) KeepsT.nil))))) (fun (z : R12_work × TValue × TValue) => []) (fun z => [TValue.c z.2.1, TValue.c z.2.2]) (fun z => (H.set c0 (some (.cells (R12_work.c z.1))))) (fun z => r12_work_coerce_j9 a1 a3 (r12_work_list_n n) (r12_work_object_n n) z.1 z.2.1 z.2.2 = some r) ?_ ?_
 ·intro K9 hK9
  refine seqK fun K51 hK51 => ?_
  refine region ?_
  refine s0 moveA rfl ?_
  refine s0 (nilP rfl) rfl ?_
  refine s0 (fieldP (TK rfl) rfl rfl (TK rfl) rfl rfl) rfl ?_
  refine s0 (loadP (TK rfl) rfl rfl hpG rfl) rfl ?_
  refine s0 moveA rfl ?_
  refine gC rfl rfl (fun hC => fieldL (TK rfl) rfl rfl (TK rfl) rfl rfl) rfl ?_
  refine gC rfl rfl (fun hC => ungdLA (k := 31) rfl (loadL (TK rfl) rfl rfl rfl rfl)) rfl ?_
  refine gC rfl rfl (fun hC => ungdA (k := 32) rfl (binI rfl rfl rfl)) rfl ?_
  refine s0 (pickAndA rfl rfl rfl) rfl ?_
  refine nil ?_
  refine hK51 _ ?_
  clear hK51 K51
  refine condE hE rfl (fun hc52 hE => ?_) (fun hc52 hE => ?_)
  ·refine seqK fun K53 hK53 => ?_
   refine AWp.draw rfl ?_
   refine DOps.s0 moveA rfl ?_
   refine DOps.s0 (nilP rfl) rfl ?_
   refine DOps.s0 (fieldP (TK rfl) rfl rfl (TK rfl) rfl rfl) rfl ?_
   refine DOps.s0 (loadP (TK rfl) rfl rfl hpG rfl) rfl ?_
   refine DOps.s0 (fieldL (TK rfl) rfl rfl (TK rfl) rfl rfl) rfl ?_
   refine DOps.s0 (loadL (TK rfl) rfl rfl rfl rfl) rfl ?_
   obtain ⟨x54, gx54, hE⟩ := bindO_some hE
   refine DOps.s0 (callP rfl rfl (fun H => Z26_walk gx54 H)) rfl ?_
   refine DOps.s0 moveA rfl ?_
   refine DOps.s0 (extract rfl rfl) rfl ?_
   refine DOps.s0 (extract rfl rfl) rfl ?_
   refine DOps.sB (TK rfl) rfl rfl ?_ (by repeat (first | exact Snoc.nil | apply Snoc.cons))
   refine DOps.sLn (storeLFA (TK rfl) rfl rfl rfl rfl rfl) ?_
   refine DOps.s0 assignA rfl ?_
   refine DOps.nil (by decide +kernel) ?_
   refine hK53 _ ?_
   clear hK53 K53
   refine freezeA 9 _ rfl (Keeps.c (k := 0) (by conv => lhs; whnf) (by rfl) (Keeps.c (k := 3) (by conv => lhs; whnf) (by rfl) (Keeps.c (k := 5) (by conv => lhs; whnf) (by rfl) (Keeps.c (k := 6) (by conv => lhs; whnf) (by rfl) (Keeps.c (k := 8) (by conv => lhs; whnf) (by rfl) Keeps.nil))))) ?_
   refine seqK fun K55 hK55 => ?_
   refine seqK fun K56 hK56 => ?_
   refine region ?_
   refine s0 (fieldVA (TK rfl) rfl rfl (TK rfl) rfl rfl) rfl ?_
   refine s0 (loadV (TK rfl) rfl rfl rfl) rfl ?_
   refine s0 (binI rfl rfl rfl) rfl ?_
   refine nil ?_
   refine hK56 _ ?_
   clear hK56 K56
   refine condE hE rfl (fun hc57 hE => ?_) (fun hc57 hE => ?_)
   ·refine seqK fun K58 hK58 => ?_
    refine region ?_
    refine s0 moveA rfl ?_
    refine s0 (loadV (TK rfl) rfl rfl rfl) rfl ?_
    refine s0 moveA rfl ?_
    obtain ⟨x59, gx59, hE⟩ := bindO_some hE
    refine sH (callH rfl rfl (Z67_walk gx59 _ hpG)) rfl ?_
    refine AOps.heq (h' := (H.set c0 (some (.cells (R12_work.c x59.2))))) (by first | rfl | (rw [Heap.set_set]; rfl) | (funext n_; simp only [Heap.set]; (repeat' split) <;> first | rfl | (exfalso; simp_all; done) | (simp_all; done))) ?_
    refine sLn (storeLFA (TK rfl) rfl rfl rfl rfl rfl) ?_
    refine nil ?_
    refine hK58 _ ?_
    clear hK58 K58
    refine AWp.ret ?_
    repeat (first | refine xBlock_ret ?_ | refine xThen_ret ?_)
    obtain rfl := Option.some.inj hE
    refine retQ.retF (H.set c0 (some (.cells (R12_work.c x59.2)))) rfl ⟨rfl, rfl⟩ ?_
    exact (fun _ _ h => h)
   refine AWp.skip ?_
   refine hK55 _ ?_
   clear hK55 K55
   refine region ?_
   refine s0 (build Tryz.tab_ok rfl rfl rfl rfl rfl rfl) rfl ?_
   refine sLn (storeLFA (TK rfl) rfl rfl rfl rfl rfl) ?_
   refine nil ?_
   exact hK9 _ (a0, (TValue.mk (0 : Int) (0 : Int) ([] : Bs) true ([]) (Sl.nil : Sl Bs)), TValue.zero) Weak.toA hE
  refine AWp.skip ?_
  exact hK9 _ (a0, a2, TValue.zero) Weak.toA hE
 rintro ⟨y10_c0, y11_l0, y12_l1⟩ hE
 try dsimp only at hE
 unfold r12_work_coerce_j9 at hE
 refine seqK fun K13 hK13 => ?_
 refine region ?_
 refine s0 moveA rfl ?_
 refine s0 moveA rfl ?_
 obtain ⟨x14, gx14, hE⟩ := bindO_some hE
 refine sH (callH rfl rfl (Z63_walk gx14 _ hpG)) rfl ?_
 refine AOps.heq (h' := (H.set c0 (some (.cells (R12_work.c x14))))) (by first | rfl | (rw [Heap.set_set]; rfl) | (funext n_; simp only [Heap.set]; (repeat' split) <;> first | rfl | (exfalso; simp_all; done) | (simp_all; done))) ?_
 refine nil ?_
 refine hK13 _ ?_
 clear hK13 K13
 refine seqK fun K15 hK15 => ?_
 refine seqK fun K16 hK16 => ?_
 refine region ?_
 refine s0 moveA rfl ?_
 refine s0 (nilP rfl) rfl ?_
 refine s0 (fieldP (TK rfl) rfl rfl (TK rfl) rfl rfl) rfl ?_
 refine s0 (loadP (TK rfl) rfl rfl hpG rfl) rfl ?_
 refine s0 (binI rfl rfl rfl) rfl ?_
 refine nil ?_
 refine hK16 _ ?_
 clear hK16 K16
 refine condE hE rfl (fun hc17 hE => ?_) (fun hc17 hE => ?_)
 ·refine seqK fun K18 hK18 => ?_
  refine region ?_
  refine s0 (build Tryz.tab_ok rfl rfl rfl rfl rfl rfl) rfl ?_
  refine sLn (storeLFA (TK rfl) rfl rfl rfl rfl rfl) ?_
  refine nil ?_
  refine hK18 _ ?_
  clear hK18 K18
  refine AWp.ret ?_
  repeat (first | refine xBlock_ret ?_ | refine xThen_ret ?_)
  obtain rfl := Option.some.inj hE
  refine retQ.retF (H.set c0 (some (.cells (R12_work.c x14)))) rfl ⟨rfl, rfl⟩ ?_
  exact (fun _ _ h => h)
 refine AWp.skip ?_
 refine hK15 _ ?_
 clear hK15 K15
 refine seqK fun K19 hK19 => ?_
 refine seqK fun K20 hK20 => ?_
 refine region ?_
 refine s0 (fieldL (TK rfl) rfl rfl (TK rfl) rfl rfl) rfl ?_
 refine s0 (loadL (TK rfl) rfl rfl rfl rfl) rfl ?_
 refine s0 (binI rfl rfl rfl) rfl ?_
 refine nil ?_
 refine hK20 _ ?_
 clear hK20 K20
 refine condE hE rfl (fun hc21 hE => ?_) (fun hc21 hE => ?_)
 ·refine seqJH (KeepsT.A (k := 8) KeepsT.nil) (fun (z : R12_work) => []) (fun z => (H.set c0 (some (.cells (R12_work.c z))))) (fun z => r12_work_coerce_j22 z = some r) ?_ ?_
  ·intro K22 hK22
   refine seqK fun K25 hK25 => ?_
   refine region ?_
   refine s0 (loadV (TK rfl) rfl rfl rfl) rfl ?_
   obtain ⟨x26, gx26, hE⟩ := bindO_some hE
   refine s0 (callP rfl rfl (fun H => Z36_walk gx26 H)) rfl ?_
   refine nil ?_
   refine hK25 _ ?_
   clear hK25 K25
   refine condE hE rfl (fun hc27 hE => ?_) (fun hc27 hE => ?_)
   ·refine region ?_
    refine s0 moveA rfl ?_
    obtain ⟨x28, gx28, hE⟩ := bindO_some hE
    refine sH (callH rfl rfl (Z61_walk gx28 _ hpG)) rfl ?_
    refine AOps.heq (h' := (H.set c0 (some (.cells (R12_work.c x28))))) (by first | rfl | (rw [Heap.set_set]; rfl) | (funext n_; simp only [Heap.set]; (repeat' split) <;> first | rfl | (exfalso; simp_all; done) | (simp_all; done))) ?_
    refine nil ?_
    exact hK22 _ x28 Weak.toA hE
   refine AWp.skip ?_
   exact hK22 _ x14 Weak.toA hE
  rintro y23_c0 hE
  try dsimp only at hE
  unfold r12_work_coerce_j22 at hE
  refine seqK fun K24 hK24 => ?_
  refine region ?_
  refine s0 (build Tryz.tab_ok rfl rfl rfl rfl rfl rfl) rfl ?_
  refine sLn (storeLFA (TK rfl) rfl rfl rfl rfl rfl) ?_
  refine nil ?_
  refine hK24 _ ?_
  clear hK24 K24
  refine AWp.ret ?_
  repeat (first | refine xBlock_ret ?_ | refine xThen_ret ?_)
  obtain rfl := Option.some.inj hE
  refine retQ.retF (H.set c0 (some (.cells (R12_work.c y23_c0)))) rfl ⟨rfl, rfl⟩ ?_
  exact (fun _ _ h => h)
 refine AWp.skip ?_
 refine hK19 _ ?_
 clear hK19 K19
 refine seqK fun K29 hK29 => ?_
 refine seqK fun K30 hK30 => ?_
 refine region ?_
 refine s0 (loadV (TK rfl) rfl rfl rfl) rfl ?_
 obtain ⟨x31, gx31, hE⟩ := bindO_some hE
 refine s0 (callP rfl rfl (fun H => Z34_walk gx31 H)) rfl ?_
 refine s0 moveA rfl ?_
 refine s0 (extract rfl rfl) rfl ?_
 refine s0 (extract rfl rfl) rfl ?_
 refine sL (allocLA (TK rfl) rfl) rfl ?_
 refine sLn (storeLFA (TK rfl) rfl rfl rfl rfl rfl) ?_
 refine s0 assignA rfl ?_
 refine nil ?_
 refine hK30 _ ?_
 clear hK30 K30
 refine freezeA 11 _ rfl (Keeps.c (k := 0) (by conv => lhs; whnf) (by rfl) (Keeps.c (k := 3) (by conv => lhs; whnf) (by rfl) (Keeps.c (k := 5) (by conv => lhs; whnf) (by rfl) (Keeps.c (k := 6) (by conv => lhs; whnf) (by rfl) (Keeps.c (k := 8) (by conv => lhs; whnf) (by rfl) (Keeps.c (k := 12) (by conv => lhs; whnf) (by rfl) Keeps.nil)))))) ?_
 refine seqK fun K32 hK32 => ?_
 refine region ?_
 refine s0 moveA rfl ?_
 refine nil ?_
 refine hK32 _ ?_
 clear hK32 K32
 refine condE hE rfl (fun hc33 hE => ?_) (fun hc33 hE => ?_)
 ·refine seqK fun K34 hK34 => ?_
  refine region ?_
  refine s0 moveA rfl ?_
  refine s0 (loadV (TK rfl) rfl rfl rfl) rfl ?_
  refine s0 (loadL (TK rfl) rfl rfl rfl rfl) rfl ?_
  refine s0 moveA rfl ?_
  obtain ⟨x35, gx35, hE⟩ := bindO_some hE
  refine sH (callH rfl rfl (ih_100 gx35 _ hpG)) rfl ?_
  refine AOps.heq (h' := (H.set c0 (some (.cells (R12_work.c x35.2))))) (by first | rfl | (rw [Heap.set_set]; rfl) | (funext n_; simp only [Heap.set]; (repeat' split) <;> first | rfl | (exfalso; simp_all; done) | (simp_all; done))) ?_
  refine sLn (storeLFA (TK rfl) rfl rfl rfl rfl rfl) ?_
  refine nil ?_
  refine hK34 _ ?_
  clear hK34 K34
  refine AWp.ret ?_
  repeat (first | refine xBlock_ret ?_ | refine xThen_ret ?_)
  obtain rfl := Option.some.inj hE
  refine retQ.retF (H.set c0 (some (.cells (R12_work.c x35.2)))) rfl ⟨rfl, rfl⟩ ?_
  exact (fun _ _ h => h)
 refine AWp.skip ?_
 refine hK29 _ ?_
 clear hK29 K29
 refine seqK fun K36 hK36 => ?_
 refine seqK fun K37 hK37 => ?_
 refine region ?_
 refine s0 (fieldVA (TK rfl) rfl rfl (TK rfl) rfl rfl) rfl ?_
 refine s0 (loadV (TK rfl) rfl rfl rfl) rfl ?_
 obtain ⟨x38, gx38, hE⟩ := bindO_some hE
 refine s0 (callP rfl rfl (fun H => Z55_walk gx38 H)) rfl ?_
 refine nil ?_
 refine hK37 _ ?_
 clear hK37 K37
 refine condE hE rfl (fun hc39 hE => ?_) (fun hc39 hE => ?_)
 ·refine seqK fun K40 hK40 => ?_
  refine region ?_
  refine s0 moveA rfl ?_
  refine s0 (fieldVA (TK rfl) rfl rfl (TK rfl) rfl rfl) rfl ?_
  refine s0 (loadV (TK rfl) rfl rfl rfl) rfl ?_
  refine s0 (loadL (TK rfl) rfl rfl rfl rfl) rfl ?_
  obtain ⟨x41, gx41, hE⟩ := bindO_some hE
  refine sH (callH rfl rfl (Z66_walk gx41 _ hpG)) rfl ?_
  refine AOps.heq (h' := (H.set c0 (some (.cells (R12_work.c x41.2))))) (by first | rfl | (rw [Heap.set_set]; rfl) | (funext n_; simp only [Heap.set]; (repeat' split) <;> first | rfl | (exfalso; simp_all; done) | (simp_all; done))) ?_
  refine sLn (storeLFA (TK rfl) rfl rfl rfl rfl rfl) ?_
  refine nil ?_
  refine hK40 _ ?_
  clear hK40 K40
  refine AWp.ret ?_
  repeat (first | refine xBlock_ret ?_ | refine xThen_ret ?_)
  obtain rfl := Option.some.inj hE
  refine retQ.retF (H.set c0 (some (.cells (R12_work.c x41.2)))) rfl ⟨rfl, rfl⟩ ?_
  exact (fun _ _ h => h)
 refine AWp.skip ?_
 refine hK36 _ ?_
 clear hK36 K36
 refine seqK fun K42 hK42 => ?_
 refine AWp.draw rfl ?_
 refine DOps.s0 moveA rfl ?_
 refine DOps.s0 (nilP rfl) rfl ?_
 refine DOps.s0 (fieldP (TK rfl) rfl rfl (TK rfl) rfl rfl) rfl ?_
 refine DOps.s0 (loadP (TK rfl) rfl rfl hpG rfl) rfl ?_
 refine DOps.s0 (fieldVA (TK rfl) rfl rfl (TK rfl) rfl rfl) rfl ?_
 refine DOps.s0 (loadV (TK rfl) rfl rfl rfl) rfl ?_
 obtain ⟨x43, gx43, hE⟩ := bindO_some hE
 refine DOps.s0 (callP rfl rfl (fun H => Z51_walk gx43 H)) rfl ?_
 refine DOps.s0 moveA rfl ?_
 refine DOps.s0 (extract rfl rfl) rfl ?_
 refine DOps.s0 (extract rfl rfl) rfl ?_
 refine DOps.sB (TK rfl) rfl rfl ?_ (by repeat (first | exact Snoc.nil | apply Snoc.cons))
 refine DOps.sLn (storeLFA (TK rfl) rfl rfl rfl rfl rfl) ?_
 refine DOps.s0 assignA rfl ?_
 refine DOps.nil (by decide +kernel) ?_
 refine hK42 _ ?_
 clear hK42 K42
 refine freezeA 13 _ rfl (Keeps.c (k := 0) (by conv => lhs; whnf) (by rfl) (Keeps.c (k := 3) (by conv => lhs; whnf) (by rfl) (Keeps.c (k := 6) (by conv => lhs; whnf) (by rfl) (Keeps.c (k := 8) (by conv => lhs; whnf) (by rfl) Keeps.nil)))) ?_
 refine seqK fun K44 hK44 => ?_
 refine seqK fun K45 hK45 => ?_
 refine region ?_
 refine s0 (fieldVA (TK rfl) rfl rfl (TK rfl) rfl rfl) rfl ?_
 refine s0 (loadV (TK rfl) rfl rfl rfl) rfl ?_
 refine s0 (binI rfl rfl rfl) rfl ?_
 refine nil ?_
 refine hK45 _ ?_
 clear hK45 K45
 refine condE hE rfl (fun hc46 hE => ?_) (fun hc46 hE => ?_)
 ·refine seqK fun K47 hK47 => ?_
  refine region ?_
  refine s0 moveA rfl ?_
  refine s0 (loadV (TK rfl) rfl rfl rfl) rfl ?_
  refine s0 (loadL (TK rfl) rfl rfl rfl rfl) rfl ?_
  obtain ⟨x48, gx48, hE⟩ := bindO_some hE
  refine sH (callH rfl rfl (Z60_walk gx48 _ hpG)) rfl ?_
  refine AOps.heq (h' := (H.set c0 (some (.cells (R12_work.c x48.2))))) (by first | rfl | (rw [Heap.set_set]; rfl) | (funext n_; simp only [Heap.set]; (repeat' split) <;> first | rfl | (exfalso; simp_all; done) | (simp_all; done))) ?_
  refine sLn (storeLFA (TK rfl) rfl rfl rfl rfl rfl) ?_
  refine nil ?_
  refine hK47 _ ?_
  clear hK47 K47
  refine AWp.ret ?_
  repeat (first | refine xBlock_ret ?_ | refine xThen_ret ?_)
  obtain rfl := Option.some.inj hE
  refine retQ.retF (H.set c0 (some (.cells (R12_work.c x48.2)))) rfl ⟨rfl, rfl⟩ ?_
  exact (fun _ _ h => h)
 refine AWp.skip ?_
 refine hK44 _ ?_
 clear hK44 K44
 refine seqK fun K49 hK49 => ?_
 refine region ?_
 refine s0 moveA rfl ?_
 refine s0 (loadV (TK rfl) rfl rfl rfl) rfl ?_
 refine s0 (loadL (TK rfl) rfl rfl rfl rfl) rfl ?_
 refine s0 moveA rfl ?_
 obtain ⟨x50, gx50, hE⟩ := bindO_some hE
 refine sH (callH rfl rfl (ih_103 gx50 _ hpG)) rfl ?_
 refine AOps.heq (h' := (H.set c0 (some (.cells (R12_work.c x50.2))))) (by first | rfl | (rw [Heap.set_set]; rfl) | (funext n_; simp only [Heap.set]; (repeat' split) <;> first | rfl | (exfalso; simp_all; done) | (simp_all; done))) ?_
 refine sLn (storeLFA (TK rfl) rfl rfl rfl rfl rfl) ?_
 refine nil ?_
 refine hK49 _ ?_
 clear hK49 K49
 refine AWp.ret ?_
 repeat (first | refine xBlock_ret ?_ | refine xThen_ret ?_)
 obtain rfl := Option.some.inj hE
 refine retQ.retF (H.set c0 (some (.cells (R12_work.c x50.2)))) rfl ⟨rfl, rfl⟩ ?_
 exact (fun _ _ h => h)
theorem r12_work_list_step (n : Nat) (ih_71 : ∀ {a0 : R12_work} {a1 : TRef} {a2 : TValue} {a3 : Int}  {c0 : Nat} {r : (TValue × R12_work)}, r12_work_coerce_n n a0 a1 a2 a3 = some r → ∀ (H : Heap) (hc0 : H c0 = some (.cells (R12_work.c a0))), ACalls Tryz.prog 71 [.d (.ptr c0 0), .agg (TRef.c a1), .agg (TValue.c a2), .d (.int .i64 a3)] H fun v h' => v = .a (.agg (TValue.c r.1)) ∧ h' = (H.set c0 (some (.cells (R12_work.c r.2))))) (ih_100 : ∀ {a0 : R12_work} {a1 : TRef} {a2 : TValue} {a3 : Int}  {c0 : Nat} {r : (TValue × R12_work)}, r12_work_list_n n a0 a1 a2 a3 = some r → ∀ (H : Heap) (hc0 : H c0 = some (.cells (R12_work.c a0))), ACalls Tryz.prog 100 [.d (.ptr c0 0), .agg (TRef.c a1), .agg (TValue.c a2), .d (.int .i64 a3)] H fun v h' => v = .a (.agg (TValue.c r.1)) ∧ h' = (H.set c0 (some (.cells (R12_work.c r.2))))) (ih_103 : ∀ {a0 : R12_work} {a1 : TDef} {a2 : TValue} {a3 : Int}  {c0 : Nat} {r : (TValue × R12_work)}, r12_work_object_n n a0 a1 a2 a3 = some r → ∀ (H : Heap) (hc0 : H c0 = some (.cells (R12_work.c a0))), ACalls Tryz.prog 103 [.d (.ptr c0 0), .agg (TDef.c a1), .agg (TValue.c a2), .d (.int .i64 a3)] H fun v h' => v = .a (.agg (TValue.c r.1)) ∧ h' = (H.set c0 (some (.cells (R12_work.c r.2))))) (ih_119 : ∀ {a0 : R12_work} {a1 : TRef} {a2 : TValue} {a3 : Int}  {c0 : Nat} {r : (TValue × R12_work)}, Z64_n n a0 a1 a2 a3 = some r → ∀ (H : Heap) (hc0 : H c0 = some (.cells (R12_work.c a0))), ACalls Tryz.prog 119 [.d (.ptr c0 0), .agg (TRef.c a1), .agg (TValue.c a2), .d (.int .i64 a3)] H fun v h' => v = .a (.agg (TValue.c r.1)) ∧ h' = (H.set c0 (some (.cells (R12_work.c r.2))))) : ∀ {a0 : R12_work} {a1 : TRef} {a2 : TValue} {a3 : Int}  {c0 : Nat} {r : (TValue × R12_work)}, r12_work_list_n (n + 1) a0 a1 a2 a3 = some r → ∀ (H : Heap) (hc0 : H c0 = some (.cells (R12_work.c a0))), ACalls Tryz.prog 100 [.d (.ptr c0 0), .agg (TRef.c a1), .agg (TValue.c a2), .d (.int .i64 a3)] H fun v h' => v = .a (.agg (TValue.c r.1)) ∧ h' = (H.set c0 (some (.cells (R12_work.c r.2)))) := by
 intro a0 a1 a2 a3  c0 r hE H hc0
 rw [r12_work_list_n] at hE
 refine ACalls.of_wp (fn := Tryz.f100) (c := _) Tryz.tab_ok (fun _ _ => Tryz.call100 _ _) Tryz.func100 rfl (n := 50) rfl (rs := [.cell 8 31]) rfl rfl ?_
 refine AWp.heqA (h' := (H.set c0 (some (.cells (R12_work.c a0))))) (by funext n_; simp only [Heap.set]; (repeat' split) <;> simp_all) ?_
 refine seqK fun K1 hK1 => ?_
 refine region ?_
 refine s0 (boxV rfl) rfl ?_
 refine s0 (boxV rfl) rfl ?_
 refine sL (allocLA (TK rfl) rfl) rfl ?_
 refine nil ?_
 refine hK1 _ ?_
 clear hK1 K1
 refine seqK fun K2 hK2 => ?_
 refine region ?_
 refine s0 (loadV (TK rfl) rfl rfl rfl) rfl ?_
 refine s0 (buildSlice (TK rfl) rfl (TK rfl) rfl rfl rfl rfl rfl rfl) rfl ?_
 refine s0 assignA rfl ?_
 refine nil ?_
 refine hK2 _ ?_
 clear hK2 K2
 refine seqJH (KeepsT.A (k := 0) (KeepsT.A (k := 3) (KeepsT.A (k := 5) (KeepsT.A (k := 8) KeepsT.nil)))) (fun (z : (Sl TValue)) => [(9, .a (.d (Sl.d 5 TValue.c none z)))]) (fun z => (H.set c0 (some (.cells (R12_work.c a0))))) (fun z => r12_work_list_j3 a0 a1 a3 (r12_work_coerce_n n) z = some r) ?_ ?_
 ·intro K3 hK3
  refine seqK fun K26 hK26 => ?_
  refine region ?_
  refine s0 (fieldVA (TK rfl) rfl rfl (TK rfl) rfl rfl) rfl ?_
  refine s0 (loadV (TK rfl) rfl rfl rfl) rfl ?_
  refine s0 (binI rfl rfl rfl) rfl ?_
  refine nil ?_
  refine hK26 _ ?_
  clear hK26 K26
  refine condE hE rfl (fun hc27 hE => ?_) (fun hc27 hE => ?_)
  ·refine region ?_
   refine s0 (fieldVA (TK rfl) rfl rfl (TK rfl) rfl rfl) rfl ?_
   refine s0 (loadV (TK rfl) rfl rfl (congrArg (fun x => some (A.d x)) (TValue.FItemsD_eq _))) rfl ?_
   refine s0 assignA rfl ?_
   refine nil ?_
   exact hK3 _ a2.FItems Weak.toA hE
  refine AWp.skip ?_
  exact hK3 _ (⟨false, [a2]⟩ : Sl TValue) Weak.toA hE
 rintro s9_4 hE
 try dsimp only at hE
 unfold r12_work_list_j3 at hE
 refine seqK fun K5 hK5 => ?_
 refine region ?_
 refine s0 (build Tryz.tab_ok rfl rfl rfl rfl rfl rfl) rfl ?_
 refine sL (allocLA (TK rfl) rfl) rfl ?_
 refine AOps.tok 5 fun tk10_6 htk10_6 => ?_
 obtain ⟨ne_tk10_6_c0, htk10_6⟩ := Heap.set_fresh htk10_6
 refine AOps.relocal 1 _ rfl (fun j w cs hh hx => tok_cell 3 5 5 hh (t := tk10_6) hpG hx rfl) ?_
 refine sLn (storeLFA (TK rfl) rfl rfl rfl rfl rfl) ?_
 refine AOps.relocal 1 _ rfl (fun j w cs hh hx => tok_cell 3 5 5 hh (t := tk10_6) hpG hx rfl) ?_
 refine nil ?_
 refine hK5 _ ?_
 clear hK5 K5
 refine seqJ (KeepsT.A (k := 8) (KeepsT.A (k := 10) KeepsT.nil)) (fun (z : R12_work × TValue) => []) (fun z => [TValue.c TValue.zero, ((intE .i64) z.2.FKind ++ (intE .i64) z.2.FInt ++ strE z.2.FText ++ [Sl.d 5 TValue.c (some tk10_6) z.2.FItems] ++ (fun s => [Sl.d 1 strE none s]) z.2.FKeys)]) (fun z => ((H.set c0 (some (.cells (R12_work.c z.1)))).set tk10_6 (some (.tok 5 z.2.FItems.l.length)))) (fun z => r12_work_list_j7 z.1 z.2 = some r) ?_ ?_
 ·intro K7 hK7
  refine seqK fun K11 hK11 => ?_
  refine region ?_
  refine s0 assignA rfl ?_
  refine nil ?_
  refine hK11 _ ?_
  clear hK11 K11
  refine block ?_
  refine loopO (KeepsT.A (k := 0) (KeepsT.A (k := 3) (KeepsT.A (k := 5) (KeepsT.A (k := 8) (KeepsT.A (k := 9) (KeepsT.A (k := 10) KeepsT.nil)))))) (fun (z : Nat × Nat × R12_work × TValue) => [(11, .a (.d (.int .i64 ((z.2.1 : Nat) : Int))))]) (fun z => [TValue.c TValue.zero, ((intE .i64) z.2.2.2.FKind ++ (intE .i64) z.2.2.2.FInt ++ strE z.2.2.2.FText ++ [Sl.d 5 TValue.c (some tk10_6) z.2.2.2.FItems] ++ (fun s => [Sl.d 1 strE none s]) z.2.2.2.FKeys)]) (fun z => ((H.set c0 (some (.cells (R12_work.c z.2.2.1)))).set tk10_6 (some (.tok 5 z.2.2.2.FItems.l.length)))) (fun z => z.1) (fun z => r12_work_list_l12 a1 a3 s9_4 (r12_work_coerce_n n) z.1 z.2.1 z.2.2.1 z.2.2.2 = some r) ((s9_4.l.length + 1), 0, a0, (TValue.mk (5 : Int) (0 : Int) ([] : Bs) true ([]) (Sl.nil : Sl Bs))) hE Weak.toA ?_
  rintro ⟨n12, s11_13, y14_c0, y15_l1⟩ hE K12 hK12
  try dsimp only at hE
  cases n12 with
  | zero => cases hE
  | succ n12 =>
    rw [r12_work_list_l12] at hE
    refine seqK fun K16 hK16 => ?_
    refine seqK fun K17 hK17 => ?_
    refine region ?_
    refine s0 moveA rfl ?_
    refine s0 moveA rfl ?_
    refine sLen (f := TValue.c) (s := s9_4) (TK rfl) rfl rfl rfl rfl fun hL18 => ?_
    refine s0 (binI rfl rfl rfl) rfl ?_
    refine s0 moveA rfl ?_
    refine gC rfl rfl (fun hC => moveA) rfl ?_
    refine gC rfl rfl (fun hC => ungdA (k := 26) rfl (nilP rfl)) rfl ?_
    refine gC rfl rfl (fun hC => ungdA (k := 27) rfl (fieldP (TK rfl) rfl rfl (TK rfl) rfl rfl)) rfl ?_
    refine gC rfl rfl (fun hC => ungdA (k := 28) rfl (loadP (TK rfl) rfl rfl hpG rfl)) rfl ?_
    refine gC rfl rfl (fun hC => ungdA (k := 29) rfl (binI rfl rfl rfl)) rfl ?_
    refine s0 (pickAndA rfl rfl rfl) rfl ?_
    refine nil ?_
    refine hK17 _ ?_
    clear hK17 K17
    refine condE hE rfl (fun hc19 hE => ?_) (fun hc19 hE => ?_)
    ·try dsimp only at hc19
     have hf19 := of_decide_eq_true (and_left hc19)
     refine AWp.skip ?_
     refine hK16 _ ?_
     clear hK16 K16
     refine seqK fun K20 hK20 => ?_
     refine block ?_
     refine seqK fun K21 hK21 => ?_
     refine AWp.draw rfl ?_
     refine DOps.s0 moveA rfl ?_
     refine DOps.s0 (loadV (TK rfl) rfl rfl rfl) rfl ?_
     refine DOps.s0 moveA rfl ?_
     refine DOps.s0 moveA rfl ?_
     obtain ⟨x22, gx22, hE⟩ := bindO_some hE
     refine DOps.s0 (idxMn (f := TValue.c) (n := s11_13) (TK rfl) rfl (TK rfl) rfl rfl rfl gx22) rfl ?_
     refine DOps.s0 (loadV (TK rfl) rfl rfl rfl) rfl ?_
     refine DOps.s0 moveA rfl ?_
     obtain ⟨x23, gx23, hE⟩ := bindO_some hE
     refine DOps.s0 (addM rfl rfl gx23) rfl ?_
     obtain ⟨x24, gx24, hE⟩ := bindO_some hE
     refine DOps.sH (callH rfl rfl (ih_71 gx24 _ hpG)) rfl ?_
     refine DOps.heq (h' := ((H.set c0 (some (.cells (R12_work.c x24.2)))).set tk10_6 (some (.tok 5 y15_l1.FItems.l.length)))) (by first | rfl | (rw [Heap.set_set]; rfl) | (funext n_; simp only [Heap.set]; (repeat' split) <;> first | rfl | (exfalso; simp_all; done) | (simp_all; done))) ?_
     refine DOps.sB (TK rfl) rfl rfl ?_ (by repeat (first | exact Snoc.nil | apply Snoc.cons))
     refine DOps.sLn (storeLFA (TK rfl) rfl rfl rfl rfl rfl) ?_
     refine DOps.nil (by decide +kernel) ?_
     refine hK21 _ ?_
     clear hK21 K21
     refine freezeA 12 _ rfl (Keeps.c (k := 0) (by conv => lhs; whnf) (by rfl) (Keeps.c (k := 3) (by conv => lhs; whnf) (by rfl) (Keeps.c (k := 5) (by conv => lhs; whnf) (by rfl) (Keeps.c (k := 8) (by conv => lhs; whnf) (by rfl) (Keeps.c (k := 9) (by conv => lhs; whnf) (by rfl) (Keeps.c (k := 10) (by conv => lhs; whnf) (by rfl) (Keeps.c (k := 11) (by conv => lhs; whnf) (by rfl) Keeps.nil))))))) ?_
     refine region ?_
     refine s0 (fieldL (TK rfl) rfl rfl (TK rfl) rfl rfl) rfl ?_
     refine s0 (loadL (TK rfl) rfl rfl rfl rfl) rfl ?_
     refine s0 (loadV (TK rfl) rfl rfl rfl) rfl ?_
     refine s0 (buildSlice (TK rfl) rfl (TK rfl) rfl rfl rfl rfl rfl rfl) rfl ?_
     obtain ⟨x25, gx25, hE⟩ := bindO_some hE
     refine sH (appM (f := TValue.c) (TK rfl) rfl (TK rfl) (TK rfl) ⟨_, rfl⟩ rfl rfl (by decide) rfl rfl rfl rfl hpG rfl gx25) rfl ?_
     refine AOps.heq (h' := ((H.set c0 (some (.cells (R12_work.c x24.2)))).set tk10_6 (some (.tok 5 x25.l.length)))) (by first | rfl | (rw [Heap.set_set]; rfl) | (funext n_; simp only [Heap.set]; (repeat' split) <;> first | rfl | (exfalso; simp_all; done) | (simp_all; done))) ?_
     refine s0 (fieldL (TK rfl) rfl rfl (TK rfl) rfl rfl) rfl ?_
     refine sLn (storeL1 (TK rfl) rfl rfl rfl rfl (by repeat (first | exact SetAt.zero | apply SetAt.succ)) (by repeat (first | exact SetAt.zero | apply SetAt.succ))) ?_
     refine nil ?_
     refine hK20 _ ?_
     clear hK20 K20
     refine region ?_
     refine s0 moveA rfl ?_
     refine s0 (addIA rfl rfl) rfl ?_
     refine s0 assignA rfl ?_
     refine nil ?_
     exact hK12 _ (n12, (s11_13 + 1), x24.2, (TValue.mk y15_l1.FKind y15_l1.FInt y15_l1.FText x25.nl x25.l y15_l1.FKeys)) Weak.toA hE (Nat.lt_succ_self _)
    refine AWp.exit ?_
    exact hK7 _ (y14_c0, y15_l1) Weak.toA hE
 rintro ⟨y8_c0, y9_l1⟩ hE
 try dsimp only at hE
 unfold r12_work_list_j7 at hE
 refine seqK fun K10 hK10 => ?_
 refine AWp.relocal 1 _ rfl (fun j w cs hh hx => untok_cell 3 hx rfl) ?_
 refine AWp.relocal 1 (TValue.c y9_l1) rfl (fun j w cs hh hx => by rw [TValue.cu_eq]; exact hx) ?_
 refine region ?_
 refine s0 (loadL (TK rfl) rfl rfl rfl rfl) rfl ?_
 refine sLn (storeLFA (TK rfl) rfl rfl rfl rfl rfl) ?_
 refine nil ?_
 refine hK10 _ ?_
 clear hK10 K10
 refine AWp.ret ?_
 repeat (first | refine xBlock_ret ?_ | refine xThen_ret ?_)
 obtain rfl := Option.some.inj hE
 refine retQ.retF (H.set c0 (some (.cells (R12_work.c y8_c0)))) rfl ⟨rfl, rfl⟩ ?_
 intro id_ o_ he_
 have e_tk10_6 : id_ ≠ tk10_6 := fun e_ => by subst e_; simp_all [Heap.set]
 rw [← he_]
 simp only [Heap.set] at he_ ⊢
 (repeat' split) <;> simp_all
theorem r12_work_object_step (n : Nat) (ih_71 : ∀ {a0 : R12_work} {a1 : TRef} {a2 : TValue} {a3 : Int}  {c0 : Nat} {r : (TValue × R12_work)}, r12_work_coerce_n n a0 a1 a2 a3 = some r → ∀ (H : Heap) (hc0 : H c0 = some (.cells (R12_work.c a0))), ACalls Tryz.prog 71 [.d (.ptr c0 0), .agg (TRef.c a1), .agg (TValue.c a2), .d (.int .i64 a3)] H fun v h' => v = .a (.agg (TValue.c r.1)) ∧ h' = (H.set c0 (some (.cells (R12_work.c r.2))))) (ih_100 : ∀ {a0 : R12_work} {a1 : TRef} {a2 : TValue} {a3 : Int}  {c0 : Nat} {r : (TValue × R12_work)}, r12_work_list_n n a0 a1 a2 a3 = some r → ∀ (H : Heap) (hc0 : H c0 = some (.cells (R12_work.c a0))), ACalls Tryz.prog 100 [.d (.ptr c0 0), .agg (TRef.c a1), .agg (TValue.c a2), .d (.int .i64 a3)] H fun v h' => v = .a (.agg (TValue.c r.1)) ∧ h' = (H.set c0 (some (.cells (R12_work.c r.2))))) (ih_103 : ∀ {a0 : R12_work} {a1 : TDef} {a2 : TValue} {a3 : Int}  {c0 : Nat} {r : (TValue × R12_work)}, r12_work_object_n n a0 a1 a2 a3 = some r → ∀ (H : Heap) (hc0 : H c0 = some (.cells (R12_work.c a0))), ACalls Tryz.prog 103 [.d (.ptr c0 0), .agg (TDef.c a1), .agg (TValue.c a2), .d (.int .i64 a3)] H fun v h' => v = .a (.agg (TValue.c r.1)) ∧ h' = (H.set c0 (some (.cells (R12_work.c r.2))))) (ih_119 : ∀ {a0 : R12_work} {a1 : TRef} {a2 : TValue} {a3 : Int}  {c0 : Nat} {r : (TValue × R12_work)}, Z64_n n a0 a1 a2 a3 = some r → ∀ (H : Heap) (hc0 : H c0 = some (.cells (R12_work.c a0))), ACalls Tryz.prog 119 [.d (.ptr c0 0), .agg (TRef.c a1), .agg (TValue.c a2), .d (.int .i64 a3)] H fun v h' => v = .a (.agg (TValue.c r.1)) ∧ h' = (H.set c0 (some (.cells (R12_work.c r.2))))) : ∀ {a0 : R12_work} {a1 : TDef} {a2 : TValue} {a3 : Int}  {c0 : Nat} {r : (TValue × R12_work)}, r12_work_object_n (n + 1) a0 a1 a2 a3 = some r → ∀ (H : Heap) (hc0 : H c0 = some (.cells (R12_work.c a0))), ACalls Tryz.prog 103 [.d (.ptr c0 0), .agg (TDef.c a1), .agg (TValue.c a2), .d (.int .i64 a3)] H fun v h' => v = .a (.agg (TValue.c r.1)) ∧ h' = (H.set c0 (some (.cells (R12_work.c r.2)))) := by
 intro a0 a1 a2 a3  c0 r hE H hc0
 rw [r12_work_object_n] at hE
 refine ACalls.of_wp (fn := Tryz.f103) (c := _) Tryz.tab_ok (fun _ _ => Tryz.call103 _ _) Tryz.func103 rfl (n := 123) rfl (rs := [.cell 8 31]) rfl rfl ?_
 refine AWp.heqA (h' := (H.set c0 (some (.cells (R12_work.c a0))))) (by funext n_; simp only [Heap.set]; (repeat' split) <;> simp_all) ?_
 refine seqK fun K1 hK1 => ?_
 refine region ?_
 refine s0 (boxV rfl) rfl ?_
 refine s0 (boxV rfl) rfl ?_
 refine sL (allocLA (TK rfl) rfl) rfl ?_
 refine nil ?_
 refine hK1 _ ?_
 clear hK1 K1
 refine seqK fun K2 hK2 => ?_
 refine seqK fun K3 hK3 => ?_
 refine region ?_
 refine s0 (fieldVA (TK rfl) rfl rfl (TK rfl) rfl rfl) rfl ?_
 refine s0 (loadV (TK rfl) rfl rfl rfl) rfl ?_
 refine s0 (binI rfl rfl rfl) rfl ?_
 refine nil ?_
 refine hK3 _ ?_
 clear hK3 K3
 refine condE hE rfl (fun hc4 hE => ?_) (fun hc4 hE => ?_)
 ·refine seqK fun K5 hK5 => ?_
  refine region ?_
  refine s0 moveA rfl ?_
  obtain ⟨x6, gx6, hE⟩ := bindO_some hE
  refine sH (callH rfl rfl (Z61_walk gx6 _ hpG)) rfl ?_
  refine AOps.heq (h' := (H.set c0 (some (.cells (R12_work.c x6))))) (by first | rfl | (rw [Heap.set_set]; rfl) | (funext n_; simp only [Heap.set]; (repeat' split) <;> first | rfl | (exfalso; simp_all; done) | (simp_all; done))) ?_
  refine nil ?_
  refine hK5 _ ?_
  clear hK5 K5
  refine seqK fun K7 hK7 => ?_
  refine region ?_
  refine s0 (build Tryz.tab_ok rfl rfl rfl rfl rfl rfl) rfl ?_
  refine sLn (storeLFA (TK rfl) rfl rfl rfl rfl rfl) ?_
  refine nil ?_
  refine hK7 _ ?_
  clear hK7 K7
  refine AWp.ret ?_
  repeat (first | refine xBlock_ret ?_ | refine xThen_ret ?_)
  obtain rfl := Option.some.inj hE
  refine retQ.retF (H.set c0 (some (.cells (R12_work.c x6)))) rfl ⟨rfl, rfl⟩ ?_
  exact (fun _ _ h => h)
 refine AWp.skip ?_
 refine hK2 _ ?_
 clear hK2 K2
 refine seqJH (KeepsT.A (k := 0) (KeepsT.A (k := 3) (KeepsT.A (k := 5) (KeepsT.A (k := 6) (KeepsT.A (k := 8) KeepsT.nil))))) (fun (z : R12_work) => []) (fun z => (H.set c0 (some (.cells (R12_work.c z))))) (fun z => r12_work_object_j8 a1 a2 a3 (Z64_n n) (r12_work_coerce_n n) z = some r) ?_ ?_
 ·intro K8 hK8
  refine seqK fun K57 hK57 => ?_
  refine region ?_
  refine s0 assignA rfl ?_
  refine nil ?_
  refine hK57 _ ?_
  clear hK57 K57
  refine block ?_
  refine loopH (KeepsT.A (k := 0) (KeepsT.A (k := 3) (KeepsT.A (k := 5) (KeepsT.A (k := 6) (KeepsT.A (k := 8) KeepsT.nil))))) (fun (z : Nat × Nat × R12_work) => [(9, .a (.d (.int .i64 ((z.2.1 : Nat) : Int))))]) (fun z => (H.set c0 (some (.cells (R12_work.c z.2.2))))) (fun z => z.1) (fun z => r12_work_object_l58 a1 a2 a3 (Z64_n n) (r12_work_coerce_n n) z.1 z.2.1 z.2.2 = some r) ((a2.FKeys.l.length + 1), 0, a0) hE Weak.toA ?_
  rintro ⟨n58, s9_59, y60_c0⟩ hE K58 hK58
  try dsimp only at hE
  cases n58 with
  | zero => cases hE
  | succ n58 =>
    rw [r12_work_object_l58] at hE
    refine seqK fun K61 hK61 => ?_
    refine seqK fun K62 hK62 => ?_
    refine region ?_
    refine s0 moveA rfl ?_
    refine s0 (fieldVA (TK rfl) rfl rfl (TK rfl) rfl rfl) rfl ?_
    refine s0 (loadV (TK rfl) rfl rfl rfl) rfl ?_
    refine sLen (f := strE) (s := a2.FKeys) (TK rfl) rfl rfl rfl rfl fun hL63 => ?_
    refine s0 (binI rfl rfl rfl) rfl ?_
    refine nil ?_
    refine hK62 _ ?_
    clear hK62 K62
    refine condE hE rfl (fun hc64 hE => ?_) (fun hc64 hE => ?_)
    ·try dsimp only at hc64
     have hf64 := of_decide_eq_true hc64
     refine AWp.skip ?_
     refine hK61 _ ?_
     clear hK61 K61
     refine seqJH (KeepsT.A (k := 0) (KeepsT.A (k := 3) (KeepsT.A (k := 5) (KeepsT.A (k := 6) (KeepsT.A (k := 8) (KeepsT.A (k := 9) KeepsT.nil)))))) (fun (z : R12_work) => []) (fun z => (H.set c0 (some (.cells (R12_work.c z))))) (fun z => r12_work_object_j65 s9_59 ((r12_work_object_l58 a1 a2 a3 (Z64_n n) (r12_work_coerce_n n) n58)) z = some r) ?_ ?_
     ·intro K65 hK65
      refine block ?_
      refine seqK fun K67 hK67 => ?_
      refine AWp.draw rfl ?_
      refine DOps.s0 (fieldVA (TK rfl) rfl rfl (TK rfl) rfl rfl) rfl ?_
      refine DOps.s0 (loadV (TK rfl) rfl rfl rfl) rfl ?_
      refine DOps.s0 (fieldVA (TK rfl) rfl rfl (TK rfl) rfl rfl) rfl ?_
      refine DOps.s0 (loadV (TK rfl) rfl rfl rfl) rfl ?_
      refine DOps.s0 moveA rfl ?_
      obtain ⟨x68, gx68, hE⟩ := bindO_some hE
      refine DOps.s0 (idxMn (f := strE) (n := s9_59) (TK rfl) rfl (TK rfl) rfl rfl rfl gx68) rfl ?_
      refine DOps.s0 (loadV (TK rfl) rfl rfl rfl) rfl ?_
      obtain ⟨x69, gx69, hE⟩ := bindO_some hE
      refine DOps.s0 (callP rfl rfl (fun H => Z52_walk gx69 H)) rfl ?_
      refine DOps.s0 moveA rfl ?_
      refine DOps.s0 (extract rfl rfl) rfl ?_
      refine DOps.s0 (extract rfl rfl) rfl ?_
      refine DOps.sB (TK rfl) rfl rfl ?_ (by repeat (first | exact Snoc.nil | apply Snoc.cons))
      refine DOps.sLn (storeLFA (TK rfl) rfl rfl rfl rfl rfl) ?_
      refine DOps.s0 assignA rfl ?_
      refine DOps.nil (by decide +kernel) ?_
      refine hK67 _ ?_
      clear hK67 K67
      refine freezeA 10 _ rfl (Keeps.c (k := 0) (by conv => lhs; whnf) (by rfl) (Keeps.c (k := 3) (by conv => lhs; whnf) (by rfl) (Keeps.c (k := 5) (by conv => lhs; whnf) (by rfl) (Keeps.c (k := 6) (by conv => lhs; whnf) (by rfl) (Keeps.c (k := 8) (by conv => lhs; whnf) (by rfl) (Keeps.c (k := 9) (by conv => lhs; whnf) (by rfl) (Keeps.c (k := 11) (by conv => lhs; whnf) (by rfl) Keeps.nil))))))) ?_
      refine seqK fun K70 hK70 => ?_
      refine region ?_
      refine s0 moveA rfl ?_
      refine s0 (notB rfl) rfl ?_
      refine nil ?_
      refine hK70 _ ?_
      clear hK70 K70
      refine condE hE rfl (fun hc71 hE => ?_) (fun hc71 hE => ?_)
      ·refine region ?_
       refine s0 moveA rfl ?_
       obtain ⟨x72, gx72, hE⟩ := bindO_some hE
       refine sH (callH rfl rfl (Z61_walk gx72 _ hpG)) rfl ?_
       refine AOps.heq (h' := (H.set c0 (some (.cells (R12_work.c x72))))) (by first | rfl | (rw [Heap.set_set]; rfl) | (funext n_; simp only [Heap.set]; (repeat' split) <;> first | rfl | (exfalso; simp_all; done) | (simp_all; done))) ?_
       refine nil ?_
       exact hK65 _ x72 Weak.toA hE
      refine AWp.skip ?_
      exact hK65 _ y60_c0 Weak.toA hE
     rintro y66_c0 hE
     try dsimp only at hE
     unfold r12_work_object_j65 at hE
     refine region ?_
     refine s0 moveA rfl ?_
     refine s0 (addIA rfl rfl) rfl ?_
     refine s0 assignA rfl ?_
     refine nil ?_
     exact hK58 _ (n58, (s9_59 + 1), y66_c0) Weak.toA hE (Nat.lt_succ_self _)
    refine AWp.exit ?_
    exact hK8 _ y60_c0 Weak.toA hE
 rintro y9_c0 hE
 try dsimp only at hE
 unfold r12_work_object_j8 at hE
 refine seqK fun K10 hK10 => ?_
 refine region ?_
 refine s0 (build Tryz.tab_ok rfl rfl rfl rfl rfl rfl) rfl ?_
 refine sL (allocLA (TK rfl) rfl) rfl ?_
 refine AOps.tok 5 fun tk12_11 htk12_11 => ?_
 obtain ⟨ne_tk12_11_c0, htk12_11⟩ := Heap.set_fresh htk12_11
 refine AOps.relocal 1 _ rfl (fun j w cs hh hx => tok_cell 3 5 5 hh (t := tk12_11) hpG hx rfl) ?_
 refine AOps.tok 1 fun tk12_12 htk12_12 => ?_
 obtain ⟨ne_tk12_12_tk12_11, htk12_12⟩ := Heap.set_fresh htk12_12
 obtain ⟨ne_tk12_12_c0, htk12_12⟩ := Heap.set_fresh htk12_12
 refine AOps.relocal 1 _ rfl (fun j w cs hh hx => tok_cell 4 1 1 hh (t := tk12_12) hpG hx rfl) ?_
 refine sLn (storeLFA (TK rfl) rfl rfl rfl rfl rfl) ?_
 refine AOps.relocal 1 _ rfl (fun j w cs hh hx => tok_cell 3 5 5 hh (t := tk12_11) hpG hx rfl) ?_
 refine AOps.relocal 1 _ rfl (fun j w cs hh hx => tok_cell 4 1 1 hh (t := tk12_12) hpG hx rfl) ?_
 refine nil ?_
 refine hK10 _ ?_
 clear hK10 K10
 refine seqJ (KeepsT.A (k := 8) (KeepsT.A (k := 12) KeepsT.nil)) (fun (z : R12_work × TValue) => []) (fun z => [TValue.c TValue.zero, ((intE .i64) z.2.FKind ++ (intE .i64) z.2.FInt ++ strE z.2.FText ++ [Sl.d 5 TValue.c (some tk12_11) z.2.FItems] ++ [Sl.d 1 strE (some tk12_12) z.2.FKeys])]) (fun z => (((H.set c0 (some (.cells (R12_work.c z.1)))).set tk12_11 (some (.tok 5 z.2.FItems.l.length))).set tk12_12 (some (.tok 1 z.2.FKeys.l.length)))) (fun z => r12_work_object_j13 z.1 z.2 = some r) ?_ ?_
 ·intro K13 hK13
  refine seqK fun K17 hK17 => ?_
  refine region ?_
  refine s0 assignA rfl ?_
  refine nil ?_
  refine hK17 _ ?_
  clear hK17 K17
  refine block ?_
  refine loopO (KeepsT.A (k := 0) (KeepsT.A (k := 3) (KeepsT.A (k := 5) (KeepsT.A (k := 6) (KeepsT.A (k := 8) (KeepsT.A (k := 12) KeepsT.nil)))))) (fun (z : Nat × Nat × R12_work × TValue) => [(13, .a (.d (.int .i64 ((z.2.1 : Nat) : Int))))]) (fun z => [TValue.c TValue.zero, ((intE .i64) z.2.2.2.FKind ++ (intE .i64) z.2.2.2.FInt ++ strE z.2.2.2.FText ++ [Sl.d 5 TValue.c (some tk12_11) z.2.2.2.FItems] ++ [Sl.d 1 strE (some tk12_12) z.2.2.2.FKeys])]) (fun z => (((H.set c0 (some (.cells (R12_work.c z.2.2.1)))).set tk12_11 (some (.tok 5 z.2.2.2.FItems.l.length))).set tk12_12 (some (.tok 1 z.2.2.2.FKeys.l.length)))) (fun z => z.1) (fun z => r12_work_object_l18 a1 a2 a3 (Z64_n n) (r12_work_coerce_n n) z.1 z.2.1 z.2.2.1 z.2.2.2 = some r) ((a1.FInputs.l.length + 1), 0, y9_c0, (TValue.mk (6 : Int) (0 : Int) ([] : Bs) true ([]) (Sl.nil : Sl Bs))) hE Weak.toA ?_
  rintro ⟨n18, s13_19, y20_c0, y21_l1⟩ hE K18 hK18
  try dsimp only at hE
  cases n18 with
  | zero => cases hE
  | succ n18 =>
    rw [r12_work_object_l18] at hE
    refine seqK fun K22 hK22 => ?_
    refine seqK fun K23 hK23 => ?_
    refine region ?_
    refine s0 moveA rfl ?_
    refine s0 (fieldVA (TK rfl) rfl rfl (TK rfl) rfl rfl) rfl ?_
    refine s0 (loadV (TK rfl) rfl rfl rfl) rfl ?_
    refine sLen (f := TInput.c) (s := a1.FInputs) (TK rfl) rfl rfl rfl rfl fun hL24 => ?_
    refine s0 (binI rfl rfl rfl) rfl ?_
    refine s0 moveA rfl ?_
    refine gC rfl rfl (fun hC => moveA) rfl ?_
    refine gC rfl rfl (fun hC => ungdA (k := 53) rfl (nilP rfl)) rfl ?_
    refine gC rfl rfl (fun hC => ungdA (k := 54) rfl (fieldP (TK rfl) rfl rfl (TK rfl) rfl rfl)) rfl ?_
    refine gC rfl rfl (fun hC => ungdA (k := 55) rfl (loadP (TK rfl) rfl rfl hpG rfl)) rfl ?_
    refine gC rfl rfl (fun hC => ungdA (k := 56) rfl (binI rfl rfl rfl)) rfl ?_
    refine s0 (pickAndA rfl rfl rfl) rfl ?_
    refine nil ?_
    refine hK23 _ ?_
    clear hK23 K23
    refine condE hE rfl (fun hc25 hE => ?_) (fun hc25 hE => ?_)
    ·try dsimp only at hc25
     have hf25 := of_decide_eq_true (and_left hc25)
     refine AWp.skip ?_
     refine hK22 _ ?_
     clear hK22 K22
     refine seqJ (KeepsT.A (k := 0) (KeepsT.A (k := 3) (KeepsT.A (k := 5) (KeepsT.A (k := 6) (KeepsT.A (k := 8) (KeepsT.A (k := 12) (KeepsT.A (k := 13) KeepsT.nil))))))) (fun (z : R12_work × TValue) => []) (fun z => [TValue.c TValue.zero, ((intE .i64) z.2.FKind ++ (intE .i64) z.2.FInt ++ strE z.2.FText ++ [Sl.d 5 TValue.c (some tk12_11) z.2.FItems] ++ [Sl.d 1 strE (some tk12_12) z.2.FKeys])]) (fun z => (((H.set c0 (some (.cells (R12_work.c z.1)))).set tk12_11 (some (.tok 5 z.2.FItems.l.length))).set tk12_12 (some (.tok 1 z.2.FKeys.l.length)))) (fun z => r12_work_object_j26 s13_19 ((r12_work_object_l18 a1 a2 a3 (Z64_n n) (r12_work_coerce_n n) n18)) z.1 z.2 = some r) ?_ ?_
     ·intro K26 hK26
      refine block ?_
      refine seqK fun K29 hK29 => ?_
      refine region ?_
      refine s0 (fieldVA (TK rfl) rfl rfl (TK rfl) rfl rfl) rfl ?_
      refine s0 (loadV (TK rfl) rfl rfl rfl) rfl ?_
      refine s0 moveA rfl ?_
      obtain ⟨x30, gx30, hE⟩ := bindO_some hE
      refine s0 (idxMn (f := TInput.c) (n := s13_19) (TK rfl) rfl (TK rfl) rfl rfl rfl gx30) rfl ?_
      refine s0 (loadV (TK rfl) rfl rfl rfl) rfl ?_
      refine sL (allocLA (TK rfl) rfl) rfl ?_
      refine sLn (storeLFA (TK rfl) rfl rfl rfl rfl rfl) ?_
      refine nil ?_
      refine hK29 _ ?_
      clear hK29 K29
      refine freezeA 14 _ rfl (Keeps.c (k := 0) (by conv => lhs; whnf) (by rfl) (Keeps.c (k := 3) (by conv => lhs; whnf) (by rfl) (Keeps.c (k := 5) (by conv => lhs; whnf) (by rfl) (Keeps.c (k := 6) (by conv => lhs; whnf) (by rfl) (Keeps.c (k := 8) (by conv => lhs; whnf) (by rfl) (Keeps.c (k := 12) (by conv => lhs; whnf) (by rfl) (Keeps.c (k := 13) (by conv => lhs; whnf) (by rfl) Keeps.nil))))))) ?_
      refine seqK fun K31 hK31 => ?_
      refine seqK fun K32 hK32 => ?_
      refine region ?_
      refine s0 (fieldVA (TK rfl) rfl rfl (TK rfl) rfl rfl) rfl ?_
      refine s0 (loadV (TK rfl) rfl rfl rfl) rfl ?_
      refine s0 moveA rfl ?_
      obtain ⟨x33, gx33, hE⟩ := bindO_some hE
      refine s0 (callP rfl rfl (fun H => Z59_walk gx33 H)) rfl ?_
      refine nil ?_
      refine hK32 _ ?_
      clear hK32 K32
      refine condE hE rfl (fun hc34 hE => ?_) (fun hc34 hE => ?_)
      ·refine AWp.exit ?_
       exact hK26 _ (y20_c0, y21_l1) Weak.toA hE
      refine AWp.skip ?_
      refine hK31 _ ?_
      clear hK31 K31
      refine seqK fun K35 hK35 => ?_
      refine region ?_
      refine s0 (loadV (TK rfl) rfl rfl rfl) rfl ?_
      refine s0 (fieldVA (TK rfl) rfl rfl (TK rfl) rfl rfl) rfl ?_
      refine s0 (loadV (TK rfl) rfl rfl rfl) rfl ?_
      obtain ⟨x36, gx36, hE⟩ := bindO_some hE
      refine s0 (callP rfl rfl (fun H => Z26_walk gx36 H)) rfl ?_
      refine s0 moveA rfl ?_
      refine s0 (extract rfl rfl) rfl ?_
      refine s0 (extract rfl rfl) rfl ?_
      refine sL (allocLA (TK rfl) rfl) rfl ?_
      refine sLn (storeLFA (TK rfl) rfl rfl rfl rfl rfl) ?_
      refine s0 assignA rfl ?_
      refine nil ?_
      refine hK35 _ ?_
      clear hK35 K35
      refine freezeA 15 _ rfl (Keeps.c (k := 0) (by conv => lhs; whnf) (by rfl) (Keeps.c (k := 3) (by conv => lhs; whnf) (by rfl) (Keeps.c (k := 5) (by conv => lhs; whnf) (by rfl) (Keeps.c (k := 6) (by conv => lhs; whnf) (by rfl) (Keeps.c (k := 8) (by conv => lhs; whnf) (by rfl) (Keeps.c (k := 12) (by conv => lhs; whnf) (by rfl) (Keeps.c (k := 13) (by conv => lhs; whnf) (by rfl) (Keeps.c (k := 14) (by conv => lhs; whnf) (by rfl) (Keeps.c (k := 16) (by conv => lhs; whnf) (by rfl) Keeps.nil))))))))) ?_
      refine seqK fun K37 hK37 => ?_
      refine region ?_
      refine sL (allocLA (TK rfl) rfl) rfl ?_
      refine nil ?_
      refine hK37 _ ?_
      clear hK37 K37
      refine seqJ (KeepsT.A (k := 0) (KeepsT.A (k := 3) (KeepsT.A (k := 5) (KeepsT.A (k := 6) (KeepsT.A (k := 8) (KeepsT.A (k := 12) (KeepsT.A (k := 13) (KeepsT.A (k := 14) (KeepsT.A (k := 17) KeepsT.nil))))))))) (fun (z : R12_work × TValue) => []) (fun z => [TValue.c TValue.zero, ((intE .i64) y21_l1.FKind ++ (intE .i64) y21_l1.FInt ++ strE y21_l1.FText ++ [Sl.d 5 TValue.c (some tk12_11) y21_l1.FItems] ++ [Sl.d 1 strE (some tk12_12) y21_l1.FKeys]), TValue.c z.2]) (fun z => (((H.set c0 (some (.cells (R12_work.c z.1)))).set tk12_11 (some (.tok 5 y21_l1.FItems.l.length))).set tk12_12 (some (.tok 1 y21_l1.FKeys.l.length)))) (fun z => r12_work_object_j38 s13_19 y21_l1 x30 ((r12_work_object_l18 a1 a2 a3 (Z64_n n) (r12_work_coerce_n n) n18)) z.1 z.2 = some r) ?_ ?_
      ·intro K38 hK38
       refine block ?_
       refine seqK fun K44 hK44 => ?_
       refine region ?_
       refine s0 moveA rfl ?_
       refine s0 moveA rfl ?_
       refine gC rfl rfl (fun hC => moveA) rfl ?_
       refine gC rfl rfl (fun hC => loadV (TK rfl) rfl rfl rfl) rfl ?_
       obtain ⟨x45, gx45, hE⟩ := guardO_some hE
       refine gC rfl rfl (fun hC => ungdA (k := 80) rfl (ungdA (k := 81) rfl (callR rfl rfl (Z62_walk (gx45 hC) _ hpG)))) rfl ?_
       refine gC rfl rfl (fun hC => ungdA (k := 82) rfl (notB rfl)) rfl ?_
       refine s0 (pickAndA rfl rfl rfl) rfl ?_
       refine s0 assignA rfl ?_
       refine nil ?_
       refine hK44 _ ?_
       clear hK44 K44
       refine condE hE rfl (fun hc46 hE => ?_) (fun hc46 hE => ?_)
       ·refine region ?_
        refine s0 moveA rfl ?_
        refine s0 (fieldVA (TK rfl) rfl rfl (TK rfl) rfl rfl) rfl ?_
        refine s0 (loadV (TK rfl) rfl rfl rfl) rfl ?_
        refine s0 (loadV (TK rfl) rfl rfl rfl) rfl ?_
        refine s0 moveA rfl ?_
        obtain ⟨x47, gx47, hE⟩ := bindO_some hE
        refine s0 (addM rfl rfl gx47) rfl ?_
        obtain ⟨x48, gx48, hE⟩ := bindO_some hE
        refine sH (callH rfl rfl (ih_71 gx48 _ hpG)) rfl ?_
        refine AOps.heq (h' := (((H.set c0 (some (.cells (R12_work.c x48.2)))).set tk12_11 (some (.tok 5 y21_l1.FItems.l.length))).set tk12_12 (some (.tok 1 y21_l1.FKeys.l.length)))) (by first | rfl | (rw [Heap.set_set]; rfl) | (funext n_; simp only [Heap.set]; (repeat' split) <;> first | rfl | (exfalso; simp_all; done) | (simp_all; done))) ?_
        refine sLn (storeLFA (TK rfl) rfl rfl rfl rfl rfl) ?_
        refine nil ?_
        exact hK38 _ (x48.2, x48.1) Weak.toA hE
       refine seqK fun K49 hK49 => ?_
       refine region ?_
       refine s0 (fieldVA (TK rfl) rfl rfl (TK rfl) rfl rfl) rfl ?_
       refine s0 (loadV (TK rfl) rfl rfl rfl) rfl ?_
       refine s0 assignA rfl ?_
       refine nil ?_
       refine hK49 _ ?_
       clear hK49 K49
       refine condE hE rfl (fun hc50 hE => ?_) (fun hc50 hE => ?_)
       ·refine region ?_
        refine s0 moveA rfl ?_
        refine s0 (fieldVA (TK rfl) rfl rfl (TK rfl) rfl rfl) rfl ?_
        refine s0 (loadV (TK rfl) rfl rfl rfl) rfl ?_
        refine s0 (fieldVA (TK rfl) rfl rfl (TK rfl) rfl rfl) rfl ?_
        refine s0 (loadV (TK rfl) rfl rfl rfl) rfl ?_
        refine s0 moveA rfl ?_
        obtain ⟨x51, gx51, hE⟩ := bindO_some hE
        refine s0 (addM rfl rfl gx51) rfl ?_
        obtain ⟨x52, gx52, hE⟩ := bindO_some hE
        refine sH (callH rfl rfl (ih_119 gx52 _ hpG)) rfl ?_
        refine AOps.heq (h' := (((H.set c0 (some (.cells (R12_work.c x52.2)))).set tk12_11 (some (.tok 5 y21_l1.FItems.l.length))).set tk12_12 (some (.tok 1 y21_l1.FKeys.l.length)))) (by first | rfl | (rw [Heap.set_set]; rfl) | (funext n_; simp only [Heap.set]; (repeat' split) <;> first | rfl | (exfalso; simp_all; done) | (simp_all; done))) ?_
        refine sLn (storeLFA (TK rfl) rfl rfl rfl rfl rfl) ?_
        refine nil ?_
        exact hK38 _ (x52.2, x52.1) Weak.toA hE
       refine seqK fun K53 hK53 => ?_
       refine region ?_
       refine s0 (fieldVA (TK rfl) rfl rfl (TK rfl) rfl rfl) rfl ?_
       refine s0 (loadV (TK rfl) rfl rfl rfl) rfl ?_
       obtain ⟨x54, gx54, hE⟩ := bindO_some hE
       refine s0 (callP rfl rfl (fun H => Z36_walk gx54 H)) rfl ?_
       refine s0 assignA rfl ?_
       refine nil ?_
       refine hK53 _ ?_
       clear hK53 K53
       refine condE hE rfl (fun hc55 hE => ?_) (fun hc55 hE => ?_)
       ·refine region ?_
        refine s0 moveA rfl ?_
        obtain ⟨x56, gx56, hE⟩ := bindO_some hE
        refine sH (callH rfl rfl (Z61_walk gx56 _ hpG)) rfl ?_
        refine AOps.heq (h' := (((H.set c0 (some (.cells (R12_work.c x56)))).set tk12_11 (some (.tok 5 y21_l1.FItems.l.length))).set tk12_12 (some (.tok 1 y21_l1.FKeys.l.length)))) (by first | rfl | (rw [Heap.set_set]; rfl) | (funext n_; simp only [Heap.set]; (repeat' split) <;> first | rfl | (exfalso; simp_all; done) | (simp_all; done))) ?_
        refine nil ?_
        exact hK38 _ (x56, TValue.zero) Weak.toA hE
       refine AWp.exit ?_
       exact hK26 _ (y20_c0, y21_l1) Weak.toA hE
      rintro ⟨y39_c0, y40_l2⟩ hE
      try dsimp only at hE
      unfold r12_work_object_j38 at hE
      refine seqK fun K41 hK41 => ?_
      refine region ?_
      refine s0 (fieldL (TK rfl) rfl rfl (TK rfl) rfl rfl) rfl ?_
      refine s0 (loadL (TK rfl) rfl rfl rfl rfl) rfl ?_
      refine s0 (fieldVA (TK rfl) rfl rfl (TK rfl) rfl rfl) rfl ?_
      refine s0 (loadV (TK rfl) rfl rfl rfl) rfl ?_
      refine s0 (buildSlice (TK rfl) rfl (TK rfl) rfl rfl rfl rfl rfl rfl) rfl ?_
      obtain ⟨x42, gx42, hE⟩ := bindO_some hE
      refine sH (appM (f := strE) (TK rfl) rfl (TK rfl) (TK rfl) ⟨_, rfl⟩ rfl rfl (by decide) rfl rfl rfl rfl hpG rfl gx42) rfl ?_
      refine AOps.heq (h' := (((H.set c0 (some (.cells (R12_work.c y39_c0)))).set tk12_11 (some (.tok 5 y21_l1.FItems.l.length))).set tk12_12 (some (.tok 1 x42.l.length)))) (by first | rfl | (rw [Heap.set_set]; rfl) | (funext n_; simp only [Heap.set]; (repeat' split) <;> first | rfl | (exfalso; simp_all; done) | (simp_all; done))) ?_
      refine s0 (fieldL (TK rfl) rfl rfl (TK rfl) rfl rfl) rfl ?_
      refine sLn (storeL1 (TK rfl) rfl rfl rfl rfl (by repeat (first | exact SetAt.zero | apply SetAt.succ)) (by repeat (first | exact SetAt.zero | apply SetAt.succ))) ?_
      refine nil ?_
      refine hK41 _ ?_
      clear hK41 K41
      refine region ?_
      refine s0 (fieldL (TK rfl) rfl rfl (TK rfl) rfl rfl) rfl ?_
      refine s0 (loadL (TK rfl) rfl rfl rfl rfl) rfl ?_
      refine s0 (loadL (TK rfl) rfl rfl rfl rfl) rfl ?_
      refine s0 (buildSlice (TK rfl) rfl (TK rfl) rfl rfl rfl rfl rfl rfl) rfl ?_
      obtain ⟨x43, gx43, hE⟩ := bindO_some hE
      refine sH (appM (f := TValue.c) (TK rfl) rfl (TK rfl) (TK rfl) ⟨_, rfl⟩ rfl rfl (by decide) rfl rfl rfl rfl hpG rfl gx43) rfl ?_
      refine AOps.heq (h' := (((H.set c0 (some (.cells (R12_work.c y39_c0)))).set tk12_11 (some (.tok 5 x43.l.length))).set tk12_12 (some (.tok 1 x42.l.length)))) (by first | rfl | (rw [Heap.set_set]; rfl) | (funext n_; simp only [Heap.set]; (repeat' split) <;> first | rfl | (exfalso; simp_all; done) | (simp_all; done))) ?_
      refine s0 (fieldL (TK rfl) rfl rfl (TK rfl) rfl rfl) rfl ?_
      refine sLn (storeL1 (TK rfl) rfl rfl rfl rfl (by repeat (first | exact SetAt.zero | apply SetAt.succ)) (by repeat (first | exact SetAt.zero | apply SetAt.succ))) ?_
      refine nil ?_
      exact hK26 _ (y39_c0, (TValue.mk y21_l1.FKind y21_l1.FInt y21_l1.FText x43.nl x43.l x42)) Weak.toA hE
     rintro ⟨y27_c0, y28_l1⟩ hE
     try dsimp only at hE
     unfold r12_work_object_j26 at hE
     refine region ?_
     refine s0 moveA rfl ?_
     refine s0 (addIA rfl rfl) rfl ?_
     refine s0 assignA rfl ?_
     refine nil ?_
     exact hK18 _ (n18, (s13_19 + 1), y27_c0, y28_l1) Weak.toA hE (Nat.lt_succ_self _)
    refine AWp.exit ?_
    exact hK13 _ (y20_c0, y21_l1) Weak.toA hE
 rintro ⟨y14_c0, y15_l1⟩ hE
 try dsimp only at hE
 unfold r12_work_object_j13 at hE
 refine seqK fun K16 hK16 => ?_
 refine AWp.relocal 1 _ rfl (fun j w cs hh hx => untok_cell 3 hx rfl) ?_
 refine AWp.relocal 1 _ rfl (fun j w cs hh hx => untok_cell 4 hx rfl) ?_
 refine AWp.relocal 1 (TValue.c y15_l1) rfl (fun j w cs hh hx => by rw [TValue.cu_eq]; exact hx) ?_
 refine region ?_
 refine s0 (loadL (TK rfl) rfl rfl rfl rfl) rfl ?_
 refine sLn (storeLFA (TK rfl) rfl rfl rfl rfl rfl) ?_
 refine nil ?_
 refine hK16 _ ?_
 clear hK16 K16
 refine AWp.ret ?_
 repeat (first | refine xBlock_ret ?_ | refine xThen_ret ?_)
 obtain rfl := Option.some.inj hE
 refine retQ.retF (H.set c0 (some (.cells (R12_work.c y14_c0)))) rfl ⟨rfl, rfl⟩ ?_
 intro id_ o_ he_
 have e_tk12_11 : id_ ≠ tk12_11 := fun e_ => by subst e_; simp_all [Heap.set]
 have e_tk12_12 : id_ ≠ tk12_12 := fun e_ => by subst e_; simp_all [Heap.set]
 rw [← he_]
 simp only [Heap.set] at he_ ⊢
 (repeat' split) <;> simp_all
theorem Z64_step (n : Nat) (ih_71 : ∀ {a0 : R12_work} {a1 : TRef} {a2 : TValue} {a3 : Int}  {c0 : Nat} {r : (TValue × R12_work)}, r12_work_coerce_n n a0 a1 a2 a3 = some r → ∀ (H : Heap) (hc0 : H c0 = some (.cells (R12_work.c a0))), ACalls Tryz.prog 71 [.d (.ptr c0 0), .agg (TRef.c a1), .agg (TValue.c a2), .d (.int .i64 a3)] H fun v h' => v = .a (.agg (TValue.c r.1)) ∧ h' = (H.set c0 (some (.cells (R12_work.c r.2))))) (ih_100 : ∀ {a0 : R12_work} {a1 : TRef} {a2 : TValue} {a3 : Int}  {c0 : Nat} {r : (TValue × R12_work)}, r12_work_list_n n a0 a1 a2 a3 = some r → ∀ (H : Heap) (hc0 : H c0 = some (.cells (R12_work.c a0))), ACalls Tryz.prog 100 [.d (.ptr c0 0), .agg (TRef.c a1), .agg (TValue.c a2), .d (.int .i64 a3)] H fun v h' => v = .a (.agg (TValue.c r.1)) ∧ h' = (H.set c0 (some (.cells (R12_work.c r.2))))) (ih_103 : ∀ {a0 : R12_work} {a1 : TDef} {a2 : TValue} {a3 : Int}  {c0 : Nat} {r : (TValue × R12_work)}, r12_work_object_n n a0 a1 a2 a3 = some r → ∀ (H : Heap) (hc0 : H c0 = some (.cells (R12_work.c a0))), ACalls Tryz.prog 103 [.d (.ptr c0 0), .agg (TDef.c a1), .agg (TValue.c a2), .d (.int .i64 a3)] H fun v h' => v = .a (.agg (TValue.c r.1)) ∧ h' = (H.set c0 (some (.cells (R12_work.c r.2))))) (ih_119 : ∀ {a0 : R12_work} {a1 : TRef} {a2 : TValue} {a3 : Int}  {c0 : Nat} {r : (TValue × R12_work)}, Z64_n n a0 a1 a2 a3 = some r → ∀ (H : Heap) (hc0 : H c0 = some (.cells (R12_work.c a0))), ACalls Tryz.prog 119 [.d (.ptr c0 0), .agg (TRef.c a1), .agg (TValue.c a2), .d (.int .i64 a3)] H fun v h' => v = .a (.agg (TValue.c r.1)) ∧ h' = (H.set c0 (some (.cells (R12_work.c r.2))))) : ∀ {a0 : R12_work} {a1 : TRef} {a2 : TValue} {a3 : Int}  {c0 : Nat} {r : (TValue × R12_work)}, Z64_n (n + 1) a0 a1 a2 a3 = some r → ∀ (H : Heap) (hc0 : H c0 = some (.cells (R12_work.c a0))), ACalls Tryz.prog 119 [.d (.ptr c0 0), .agg (TRef.c a1), .agg (TValue.c a2), .d (.int .i64 a3)] H fun v h' => v = .a (.agg (TValue.c r.1)) ∧ h' = (H.set c0 (some (.cells (R12_work.c r.2)))) := by
 intro a0 a1 a2 a3  c0 r hE H hc0
 rw [Z64_n] at hE
 refine ACalls.of_wp (fn := Tryz.f119) (c := _) Tryz.tab_ok (fun _ _ => Tryz.call119 _ _) Tryz.func119 rfl (n := 41) rfl (rs := [.cell 8 31]) rfl rfl ?_
 refine AWp.heqA (h' := (H.set c0 (some (.cells (R12_work.c a0))))) (by funext n_; simp only [Heap.set]; (repeat' split) <;> simp_all) ?_
 refine seqK fun K1 hK1 => ?_
 refine region ?_
 refine s0 (boxV rfl) rfl ?_
 refine s0 (boxV rfl) rfl ?_
 refine sL (allocLA (TK rfl) rfl) rfl ?_
 refine nil ?_
 refine hK1 _ ?_
 clear hK1 K1
 refine seqK fun K2 hK2 => ?_
 refine AWp.draw rfl ?_
 refine DOps.s0 moveA rfl ?_
 refine DOps.s0 (nilP rfl) rfl ?_
 refine DOps.s0 (fieldP (TK rfl) rfl rfl (TK rfl) rfl rfl) rfl ?_
 refine DOps.s0 (loadP (TK rfl) rfl rfl hpG rfl) rfl ?_
 refine DOps.s0 moveA rfl ?_
 refine DOps.s0 (nilP rfl) rfl ?_
 refine DOps.s0 (fieldP (TK rfl) rfl rfl (TK rfl) rfl rfl) rfl ?_
 refine DOps.s0 (loadP (TK rfl) rfl rfl hpG rfl) rfl ?_
 refine DOps.sB (TK rfl) rfl rfl ?_ (by repeat (first | exact Snoc.nil | apply Snoc.cons))
 refine DOps.sLn (storeLFA (TK rfl) rfl rfl rfl rfl rfl) ?_
 refine DOps.s0 assignA rfl ?_
 refine DOps.nil (by decide +kernel) ?_
 refine hK2 _ ?_
 clear hK2 K2
 refine freezeA 9 _ rfl (Keeps.c (k := 0) (by conv => lhs; whnf) (by rfl) (Keeps.c (k := 3) (by conv => lhs; whnf) (by rfl) (Keeps.c (k := 5) (by conv => lhs; whnf) (by rfl) (Keeps.c (k := 6) (by conv => lhs; whnf) (by rfl) (Keeps.c (k := 8) (by conv => lhs; whnf) (by rfl) (Keeps.c (k := 10) (by conv => lhs; whnf) (by rfl) Keeps.nil)))))) ?_
 refine seqK fun K3 hK3 => ?_
 refine region ?_
 refine s0 moveA rfl ?_
 refine s0 moveA rfl ?_
 refine s0 (build Tryz.tab_ok rfl rfl rfl rfl rfl rfl) rfl ?_
 refine s0 (nilP rfl) rfl ?_
 refine s0 (fieldP (TK rfl) rfl rfl (TK rfl) rfl rfl) rfl ?_
 refine sHn (storeP' (TK rfl) rfl rfl hpG rfl (Nat.le_of_ble_eq_true rfl) rfl rfl) rfl rfl ?_
 refine AOps.heq (h' := (H.set c0 (some (.cells (R12_work.c (R12_work.mk a0.Fd (TValue.mk (0 : Int) (0 : Int) ([] : Bs) true ([]) (Sl.nil : Sl Bs)) a0.Flit a0.Fcount a0.Ferr)))))) (by first | rfl | (rw [Heap.set_set]; rfl) | (funext n_; simp only [Heap.set]; (repeat' split) <;> first | rfl | (exfalso; simp_all; done) | (simp_all; done))) ?_
 refine s0 (nilP rfl) rfl ?_
 refine s0 (fieldP (TK rfl) rfl rfl (TK rfl) rfl rfl) rfl ?_
 refine sHn (storeP1 (TK rfl) rfl rfl hpG rfl (by repeat (first | exact SetAt.zero | apply SetAt.succ))) rfl rfl ?_
 refine AOps.heq (h' := (H.set c0 (some (.cells (R12_work.c (R12_work.mk a0.Fd (TValue.mk (0 : Int) (0 : Int) ([] : Bs) true ([]) (Sl.nil : Sl Bs)) true a0.Fcount a0.Ferr)))))) (by first | rfl | (rw [Heap.set_set]; rfl) | (funext n_; simp only [Heap.set]; (repeat' split) <;> first | rfl | (exfalso; simp_all; done) | (simp_all; done))) ?_
 refine nil ?_
 refine hK3 _ ?_
 clear hK3 K3
 refine seqK fun K4 hK4 => ?_
 refine region ?_
 refine s0 moveA rfl ?_
 refine s0 (loadV (TK rfl) rfl rfl rfl) rfl ?_
 refine s0 (loadV (TK rfl) rfl rfl rfl) rfl ?_
 refine s0 moveA rfl ?_
 obtain ⟨x5, gx5, hE⟩ := bindO_some hE
 refine sH (callH rfl rfl (ih_71 gx5 _ hpG)) rfl ?_
 refine AOps.heq (h' := (H.set c0 (some (.cells (R12_work.c x5.2))))) (by first | rfl | (rw [Heap.set_set]; rfl) | (funext n_; simp only [Heap.set]; (repeat' split) <;> first | rfl | (exfalso; simp_all; done) | (simp_all; done))) ?_
 refine sL (allocLA (TK rfl) rfl) rfl ?_
 refine sLn (storeLFA (TK rfl) rfl rfl rfl rfl rfl) ?_
 refine nil ?_
 refine hK4 _ ?_
 clear hK4 K4
 refine freezeA 11 _ rfl (Keeps.c (k := 0) (by conv => lhs; whnf) (by rfl) (Keeps.c (k := 8) (by conv => lhs; whnf) (by rfl) (Keeps.c (k := 9) (by conv => lhs; whnf) (by rfl) (Keeps.c (k := 10) (by conv => lhs; whnf) (by rfl) Keeps.nil)))) ?_
 refine seqK fun K6 hK6 => ?_
 refine region ?_
 refine s0 moveA rfl ?_
 refine s0 moveA rfl ?_
 refine s0 (loadV (TK rfl) rfl rfl rfl) rfl ?_
 refine s0 moveA rfl ?_
 refine s0 (nilP rfl) rfl ?_
 refine s0 (fieldP (TK rfl) rfl rfl (TK rfl) rfl rfl) rfl ?_
 refine sHn (storeP' (TK rfl) rfl rfl hpG rfl (Nat.le_of_ble_eq_true rfl) rfl rfl) rfl rfl ?_
 refine AOps.heq (h' := (H.set c0 (some (.cells (R12_work.c (R12_work.mk x5.2.Fd a0.Fvars x5.2.Flit x5.2.Fcount x5.2.Ferr)))))) (by first | rfl | (rw [Heap.set_set]; rfl) | (funext n_; simp only [Heap.set]; (repeat' split) <;> first | rfl | (exfalso; simp_all; done) | (simp_all; done))) ?_
 refine s0 (nilP rfl) rfl ?_
 refine s0 (fieldP (TK rfl) rfl rfl (TK rfl) rfl rfl) rfl ?_
 refine sHn (storeP1 (TK rfl) rfl rfl hpG rfl (by repeat (first | exact SetAt.zero | apply SetAt.succ))) rfl rfl ?_
 refine AOps.heq (h' := (H.set c0 (some (.cells (R12_work.c (R12_work.mk x5.2.Fd a0.Fvars a0.Flit x5.2.Fcount x5.2.Ferr)))))) (by first | rfl | (rw [Heap.set_set]; rfl) | (funext n_; simp only [Heap.set]; (repeat' split) <;> first | rfl | (exfalso; simp_all; done) | (simp_all; done))) ?_
 refine nil ?_
 refine hK6 _ ?_
 clear hK6 K6
 refine seqK fun K7 hK7 => ?_
 refine region ?_
 refine s0 (loadV (TK rfl) rfl rfl rfl) rfl ?_
 refine sLn (storeLFA (TK rfl) rfl rfl rfl rfl rfl) ?_
 refine nil ?_
 refine hK7 _ ?_
 clear hK7 K7
 refine AWp.ret ?_
 repeat (first | refine xBlock_ret ?_ | refine xThen_ret ?_)
 obtain rfl := Option.some.inj hE
 refine retQ.retF (H.set c0 (some (.cells (R12_work.c (R12_work.mk x5.2.Fd a0.Fvars a0.Flit x5.2.Fcount x5.2.Ferr))))) rfl ⟨rfl, rfl⟩ ?_
 exact (fun _ _ h => h)
theorem r12_work_coerce_all : ∀ (n : Nat), (∀ {a0 : R12_work} {a1 : TRef} {a2 : TValue} {a3 : Int}  {c0 : Nat} {r : (TValue × R12_work)}, r12_work_coerce_n n a0 a1 a2 a3 = some r → ∀ (H : Heap) (hc0 : H c0 = some (.cells (R12_work.c a0))), ACalls Tryz.prog 71 [.d (.ptr c0 0), .agg (TRef.c a1), .agg (TValue.c a2), .d (.int .i64 a3)] H fun v h' => v = .a (.agg (TValue.c r.1)) ∧ h' = (H.set c0 (some (.cells (R12_work.c r.2))))) ∧ (∀ {a0 : R12_work} {a1 : TRef} {a2 : TValue} {a3 : Int}  {c0 : Nat} {r : (TValue × R12_work)}, r12_work_list_n n a0 a1 a2 a3 = some r → ∀ (H : Heap) (hc0 : H c0 = some (.cells (R12_work.c a0))), ACalls Tryz.prog 100 [.d (.ptr c0 0), .agg (TRef.c a1), .agg (TValue.c a2), .d (.int .i64 a3)] H fun v h' => v = .a (.agg (TValue.c r.1)) ∧ h' = (H.set c0 (some (.cells (R12_work.c r.2))))) ∧ (∀ {a0 : R12_work} {a1 : TDef} {a2 : TValue} {a3 : Int}  {c0 : Nat} {r : (TValue × R12_work)}, r12_work_object_n n a0 a1 a2 a3 = some r → ∀ (H : Heap) (hc0 : H c0 = some (.cells (R12_work.c a0))), ACalls Tryz.prog 103 [.d (.ptr c0 0), .agg (TDef.c a1), .agg (TValue.c a2), .d (.int .i64 a3)] H fun v h' => v = .a (.agg (TValue.c r.1)) ∧ h' = (H.set c0 (some (.cells (R12_work.c r.2))))) ∧ (∀ {a0 : R12_work} {a1 : TRef} {a2 : TValue} {a3 : Int}  {c0 : Nat} {r : (TValue × R12_work)}, Z64_n n a0 a1 a2 a3 = some r → ∀ (H : Heap) (hc0 : H c0 = some (.cells (R12_work.c a0))), ACalls Tryz.prog 119 [.d (.ptr c0 0), .agg (TRef.c a1), .agg (TValue.c a2), .d (.int .i64 a3)] H fun v h' => v = .a (.agg (TValue.c r.1)) ∧ h' = (H.set c0 (some (.cells (R12_work.c r.2)))))
 | 0 => ⟨fun hE => by first | cases hE | (rw [r12_work_coerce_n] at hE; cases hE), fun hE => by first | cases hE | (rw [r12_work_list_n] at hE; cases hE), fun hE => by first | cases hE | (rw [r12_work_object_n] at hE; cases hE), fun hE => by first | cases hE | (rw [Z64_n] at hE; cases hE)⟩
 | n + 1 => ⟨r12_work_coerce_step n (r12_work_coerce_all n).1 (r12_work_coerce_all n).2.1 (r12_work_coerce_all n).2.2.1 (r12_work_coerce_all n).2.2.2, r12_work_list_step n (r12_work_coerce_all n).1 (r12_work_coerce_all n).2.1 (r12_work_coerce_all n).2.2.1 (r12_work_coerce_all n).2.2.2, r12_work_object_step n (r12_work_coerce_all n).1 (r12_work_coerce_all n).2.1 (r12_work_coerce_all n).2.2.1 (r12_work_coerce_all n).2.2.2, Z64_step n (r12_work_coerce_all n).1 (r12_work_coerce_all n).2.1 (r12_work_coerce_all n).2.2.1 (r12_work_coerce_all n).2.2.2⟩
def r12_work_coerce (a0 : R12_work) (a1 : TRef) (a2 : TValue) (a3 : Int) : Option (TValue × R12_work) := r12_work_coerce_n F0 a0 a1 a2 a3
theorem r12_work_coerce_walk {a0 : R12_work} {a1 : TRef} {a2 : TValue} {a3 : Int}  {c0 : Nat} {r : (TValue × R12_work)} (hE : r12_work_coerce a0 a1 a2 a3 = some r) (H : Heap) (hc0 : H c0 = some (.cells (R12_work.c a0))) : ACalls Tryz.prog 71 [.d (.ptr c0 0), .agg (TRef.c a1), .agg (TValue.c a2), .d (.int .i64 a3)] H fun v h' => v = .a (.agg (TValue.c r.1)) ∧ h' = (H.set c0 (some (.cells (R12_work.c r.2)))) := (r12_work_coerce_all F0).1 hE H hc0
end Go.Proofs

namespace Go.Proofs
open Go Go.Ab
open AOps Cert AWp
variable {lou : Lou}
def Z65 (a0 : R12_work) (a1 : TRef) (a2 : TValue) : Option (TValue × Int × R12_work) := (r12_work_coerce a0 a1 a2 (1 : Int)).bind fun x3 => bif (!decide (x3.2.Ferr = (0 : Int))) then (some ((TValue.mk (0 : Int) (0 : Int) ([] : Bs) true ([]) (Sl.nil : Sl Bs)), x3.2.Ferr, x3.2)) else (some (x3.1, (0 : Int), x3.2))
theorem Z65_walk {a0 : R12_work} {a1 : TRef} {a2 : TValue}  {c0 : Nat} {r : (TValue × Int × R12_work)} (hE : Z65 a0 a1 a2 = some r) (H : Heap) (hc0 : H c0 = some (.cells (R12_work.c a0))) : ACalls Tryz.prog 35 [.d (.ptr c0 0), .agg (TRef.c a1), .agg (TValue.c a2)] H fun v h' => v = .tup [.agg (TValue.c r.1), .d (.int .i64 r.2.1)] ∧ h' = (H.set c0 (some (.cells (R12_work.c r.2.2)))) := by
 unfold Z65 at hE
 refine ACalls.of_wp (fn := Tryz.f35) (c := _) Tryz.tab_ok (fun _ _ => Tryz.call35 _ _) Tryz.func35 rfl (n := 24) rfl (rs := [.cell 6 31, .tmp 7]) rfl rfl ?_
 refine AWp.heqA (h' := (H.set c0 (some (.cells (R12_work.c a0))))) (by funext n_; simp only [Heap.set]; (repeat' split) <;> simp_all) ?_
 refine seqK fun K1 hK1 => ?_
 refine region ?_
 refine s0 (boxV rfl) rfl ?_
 refine s0 (boxV rfl) rfl ?_
 refine sL (allocLA (TK rfl) rfl) rfl ?_
 refine s0 assignA rfl ?_
 refine nil ?_
 refine hK1 _ ?_
 clear hK1 K1
 refine seqK fun K2 hK2 => ?_
 refine region ?_
 refine s0 moveA rfl ?_
 refine s0 (loadV (TK rfl) rfl rfl rfl) rfl ?_
 refine s0 (loadV (TK rfl) rfl rfl rfl) rfl ?_
 obtain ⟨x3, gx3, hE⟩ := bindO_some hE
 refine sH (callH rfl rfl (r12_work_coerce_walk gx3 _ hpG)) rfl ?_
 refine AOps.heq (h' := (H.set c0 (some (.cells (R12_work.c x3.2))))) (by first | rfl | (rw [Heap.set_set]; rfl) | (funext n_; simp only [Heap.set]; (repeat' split) <;> first | rfl | (exfalso; simp_all; done) | (simp_all; done))) ?_
 refine sL (allocLA (TK rfl) rfl) rfl ?_
 refine sLn (storeLFA (TK rfl) rfl rfl rfl rfl rfl) ?_
 refine nil ?_
 refine hK2 _ ?_
 clear hK2 K2
 refine freezeA 8 _ rfl (Keeps.c (k := 0) (by conv => lhs; whnf) (by rfl) (Keeps.c (k := 6) (by conv => lhs; whnf) (by rfl) Keeps.nil)) ?_
 refine seqK fun K4 hK4 => ?_
 refine seqK fun K5 hK5 => ?_
 refine region ?_
 refine s0 moveA rfl ?_
 refine s0 (nilP rfl) rfl ?_
 refine s0 (fieldP (TK rfl) rfl rfl (TK rfl) rfl rfl) rfl ?_
 refine s0 (loadP (TK rfl) rfl rfl hpG rfl) rfl ?_
 refine s0 (binI rfl rfl rfl) rfl ?_
 refine nil ?_
 refine hK5 _ ?_
 clear hK5 K5
 refine condE hE rfl (fun hc6 hE => ?_) (fun hc6 hE => ?_)
 ·refine seqK fun K7 hK7 => ?_
  refine AWp.draw rfl ?_
  refine DOps.s0 (build Tryz.tab_ok rfl rfl rfl rfl rfl rfl) rfl ?_
  refine DOps.s0 moveA rfl ?_
  refine DOps.s0 (nilP rfl) rfl ?_
  refine DOps.s0 (fieldP (TK rfl) rfl rfl (TK rfl) rfl rfl) rfl ?_
  refine DOps.s0 (loadP (TK rfl) rfl rfl hpG rfl) rfl ?_
  refine DOps.sLn (storeLFA (TK rfl) rfl rfl rfl rfl rfl) ?_
  refine DOps.s0 assignA rfl ?_
  refine DOps.nil (by decide +kernel) ?_
  refine hK7 _ ?_
  clear hK7 K7
  refine AWp.ret ?_
  repeat (first | refine xBlock_ret ?_ | refine xThen_ret ?_)
  obtain rfl := Option.some.inj hE
  refine retQ.retF (H.set c0 (some (.cells (R12_work.c x3.2)))) rfl ⟨rfl, rfl⟩ ?_
  exact (fun _ _ h => h)
 refine AWp.skip ?_
 refine hK4 _ ?_
 clear hK4 K4
 refine seqK fun K8 hK8 => ?_
 refine region ?_
 refine s0 (loadV (TK rfl) rfl rfl rfl) rfl ?_
 refine sLn (storeLFA (TK rfl) rfl rfl rfl rfl rfl) ?_
 refine s0 assignA rfl ?_
 refine nil ?_
 refine hK8 _ ?_
 clear hK8 K8
 refine AWp.ret ?_
 repeat (first | refine xBlock_ret ?_ | refine xThen_ret ?_)
 obtain rfl := Option.some.inj hE
 refine retQ.retF (H.set c0 (some (.cells (R12_work.c x3.2)))) rfl ⟨rfl, rfl⟩ ?_
 exact (fun _ _ h => h)
def Z57 (a0 : TDoc) (a1 : TRef) (a2 : TValue) (a3 : TValue) : Option (TValue × Int) := (Z53 a0 a1.FName).bind fun x6 => guardO (x6) (Z62 (R12_work.mk a0 a3 true (0 : Int) (0 : Int)) a2) false fun x7 => bif (x6 && x7) then (some ((TValue.mk (0 : Int) (0 : Int) ([] : Bs) true ([]) (Sl.nil : Sl Bs)), (8 : Int))) else ((Z65 (R12_work.mk a0 a3 true (0 : Int) (0 : Int)) a1 a2).bind fun x11 => some (x11.1, x11.2.1))
theorem Z57_walk {a0 : TDoc} {a1 : TRef} {a2 : TValue} {a3 : TValue}   {r : (TValue × Int)} (hE : Z57 a0 a1 a2 a3 = some r) (H : Heap)  : ACalls Tryz.prog 11 [.agg (TDoc.c a0), .agg (TRef.c a1), .agg (TValue.c a2), .agg (TValue.c a3)] H fun v h' => v = .tup [.agg (TValue.c r.1), .d (.int .i64 r.2)] ∧ h' = H := by
 unfold Z57 at hE
 refine ACalls.of_wp (fn := Tryz.f11) (c := _) Tryz.tab_ok (fun _ _ => Tryz.call11 _ _) Tryz.func11 rfl (n := 31) rfl (rs := [.cell 8 31, .tmp 9]) rfl rfl ?_
 refine seqK fun K1 hK1 => ?_
 refine region ?_
 refine s0 (boxV rfl) rfl ?_
 refine s0 (boxV rfl) rfl ?_
 refine s0 (boxV rfl) rfl ?_
 refine s0 (boxV rfl) rfl ?_
 refine sL (allocLA (TK rfl) rfl) rfl ?_
 refine s0 assignA rfl ?_
 refine nil ?_
 refine hK1 _ ?_
 clear hK1 K1
 refine seqK fun K2 hK2 => ?_
 refine region ?_
 refine s0 (loadV (TK rfl) rfl rfl rfl) rfl ?_
 refine s0 (loadV (TK rfl) rfl rfl rfl) rfl ?_
 refine s0 (build Tryz.tab_ok rfl rfl rfl rfl rfl rfl) rfl ?_
 refine sE (StepE.boxO rfl) rfl (fun _ _ _ ⟨id14_3, hid14_3, e1, e2, e3⟩ => ?_); subst e1 e2 e3
 refine AOps.heq (h' := (H.set id14_3 (some (.cells (R12_work.c (R12_work.mk a0 a3 true (0 : Int) (0 : Int))))))) (by first | rfl | (rw [Heap.set_set]; rfl) | (funext n_; simp only [Heap.set]; (repeat' split) <;> first | rfl | (exfalso; simp_all; done) | (simp_all; done))) ?_
 refine s0 assignA rfl ?_
 refine nil ?_
 refine hK2 _ ?_
 clear hK2 K2
 refine seqK fun K4 hK4 => ?_
 refine seqK fun K5 hK5 => ?_
 refine region ?_
 refine s0 (loadV (TK rfl) rfl rfl rfl) rfl ?_
 refine s0 (fieldVA (TK rfl) rfl rfl (TK rfl) rfl rfl) rfl ?_
 refine s0 (loadV (TK rfl) rfl rfl rfl) rfl ?_
 obtain ⟨x6, gx6, hE⟩ := bindO_some hE
 refine s0 (callP rfl rfl (fun H => Z53_walk gx6 H)) rfl ?_
 refine s0 moveA rfl ?_
 refine gC rfl rfl (fun hC => moveA) rfl ?_
 refine gC rfl rfl (fun hC => loadV (TK rfl) rfl rfl rfl) rfl ?_
 obtain ⟨x7, gx7, hE⟩ := guardO_some hE
 refine gC rfl rfl (fun hC => ungdA (k := 20) rfl (ungdA (k := 21) rfl (callR rfl rfl (Z62_walk (gx7 hC) _ hpG)))) rfl ?_
 refine s0 (pickAndA rfl rfl rfl) rfl ?_
 refine nil ?_
 refine hK5 _ ?_
 clear hK5 K5
 refine condE hE rfl (fun hc8 hE => ?_) (fun hc8 hE => ?_)
 ·refine seqK fun K9 hK9 => ?_
  refine region ?_
  refine s0 (build Tryz.tab_ok rfl rfl rfl rfl rfl rfl) rfl ?_
  refine sLn (storeLFA (TK rfl) rfl rfl rfl rfl rfl) ?_
  refine s0 assignA rfl ?_
  refine nil ?_
  refine hK9 _ ?_
  clear hK9 K9
  refine AWp.ret ?_
  repeat (first | refine xBlock_ret ?_ | refine xThen_ret ?_)
  obtain rfl := Option.some.inj hE
  refine retQ.retF H rfl ⟨rfl, rfl⟩ ?_
  first | exact Heap.sub_set hid14_3 | (simp only [Heap.set_set]; exact Heap.sub_set hid14_3)
 refine AWp.skip ?_
 refine hK4 _ ?_
 clear hK4 K4
 refine seqK fun K10 hK10 => ?_
 refine region ?_
 refine s0 moveA rfl ?_
 refine s0 (loadV (TK rfl) rfl rfl rfl) rfl ?_
 refine s0 (loadV (TK rfl) rfl rfl rfl) rfl ?_
 obtain ⟨x11, gx11, hE⟩ := bindO_some hE
 refine sH (callH rfl rfl (Z65_walk gx11 _ hpG)) rfl ?_
 refine AOps.heq (h' := (H.set id14_3 (some (.cells (R12_work.c x11.2.2))))) (by first | rfl | (rw [Heap.set_set]; rfl) | (funext n_; simp only [Heap.set]; (repeat' split) <;> first | rfl | (exfalso; simp_all; done) | (simp_all; done))) ?_
 refine s0 (extract rfl rfl) rfl ?_
 refine s0 (extract rfl rfl) rfl ?_
 refine sLn (storeLFA (TK rfl) rfl rfl rfl rfl rfl) ?_
 refine s0 assignA rfl ?_
 refine nil ?_
 refine hK10 _ ?_
 clear hK10 K10
 refine AWp.ret ?_
 repeat (first | refine xBlock_ret ?_ | refine xThen_ret ?_)
 obtain rfl := Option.some.inj hE
 refine retQ.retF H rfl ⟨rfl, rfl⟩ ?_
 first | exact Heap.sub_set hid14_3 | (simp only [Heap.set_set]; exact Heap.sub_set hid14_3)
def Z58_j3  (s11_4 : (Sl TFault)) : Option (Sl TFault) := some s11_4
def Z58_j14 (s12_9 : Nat) (k_next_7 : (Sl TFault) → Nat → Option (Sl TFault)) (s11_15 : (Sl TFault)) : Option (Sl TFault) := k_next_7 s11_15 (s12_9 + 1)
def Z58_l7 (a0 : TDoc) (a1 : (Sl TInput)) (a2 : Bs) (a3 : Bs) (a4 : Bs)  : Nat → (Sl TFault) → Nat → Option (Sl TFault)
 | 0, _, _ => none
 | n7 + 1, s11_8, s12_9 => bif (decide (((s12_9 : Nat) : Int) < ((a1.l.length : Nat) : Int))) then ((a1.l[s12_9]?).bind fun x18 => bif (!x18.FHas) then (Z58_j14 s12_9 ((Z58_l7 a0 a1 a2 a3 a4 n7)) s11_8) else ((a1.l[s12_9]?).bind fun x21 => (a1.l[s12_9]?).bind fun x22 => (Z57 a0 x21.FType x22.FDefault (TValue.mk (0 : Int) (0 : Int) ([] : Bs) true ([]) (Sl.nil : Sl Bs))).bind fun x23 => bif (!decide (x23.2 = (0 : Int))) then ((catC a2 a3).bind fun x26 => (a1.l[s12_9]?).bind fun x27 => (catC x26 x27.FName).bind fun x28 => (catC x28 a4).bind fun x29 => (appC 24 s11_8 (⟨false, [(TFault.mk (23 : Int) x29)]⟩ : Sl TFault)).bind fun x30 => Z58_j14 s12_9 ((Z58_l7 a0 a1 a2 a3 a4 n7)) x30) else (Z58_j14 s12_9 ((Z58_l7 a0 a1 a2 a3 a4 n7)) s11_8))) else (Z58_j3   s11_8)
def Z58 (a0 : TDoc) (a1 : (Sl TInput)) (a2 : Bs) (a3 : Bs) (a4 : Bs) : Option (Sl TFault) := Z58_l7 a0 a1 a2 a3 a4 (a1.l.length + 1) (Sl.nil : Sl TFault) 0
theorem Z58_walk {a0 : TDoc} {a1 : (Sl TInput)} {a2 : Bs} {a3 : Bs} {a4 : Bs} {w1 : Option Nat}  {r : (Sl TFault)} (hE : Z58 a0 a1 a2 a3 a4 = some r) (H : Heap)  : ACalls Tryz.prog 54 [.agg (TDoc.c a0), .d (Sl.d 10 TInput.c w1 a1), .d (.str a2), .d (.str a3), .d (.str a4)] H fun v h' => v = .a (.d (Sl.d 2 TFault.c none r)) ∧ h' = H := by
 unfold Z58 at hE
 refine ACalls.of_wp (fn := Tryz.f54) (c := _) Tryz.tab_ok (fun _ _ => Tryz.call54 _ _) Tryz.func54 rfl (n := 61) rfl (rs := [.tmp 10]) rfl rfl ?_
 refine AWp.tok 2 fun tk1 htk1 => ?_
 refine seqK fun K1 hK1 => ?_
 refine region ?_
 refine s0 (boxV rfl) rfl ?_
 refine s0 (assignNil (k' := 2) rfl) rfl ?_
 refine nil ?_
 refine hK1 _ ?_
 clear hK1 K1
 refine seqK fun K2 hK2 => ?_
 refine region ?_
 refine s0 assignA rfl ?_
 refine nil ?_
 refine hK2 _ ?_
 clear hK2 K2
 refine AWp.nilTok 11 2 tk1 rfl hpG ?_
 refine seqJH KeepsT.nil (fun (z : (Sl TFault)) => [(11, .a (.d (Sl.d 2 TFault.c (some tk1) z)))]) (fun z => (H.set tk1 (some (.tok 2 z.l.length)))) (fun z => Z58_j3 z = some r) ?_ ?_
 ·intro K3 hK3
  refine seqK fun K6 hK6 => ?_
  refine region ?_
  refine s0 assignA rfl ?_
  refine nil ?_
  refine hK6 _ ?_
  clear hK6 K6
  refine block ?_
  refine loopH (KeepsT.A (k := 1) (KeepsT.A (k := 2) (KeepsT.A (k := 3) (KeepsT.A (k := 4) (KeepsT.A (k := 5) KeepsT.nil))))) (fun (z : Nat × (Sl TFault) × Nat) => [(11, .a (.d (Sl.d 2 TFault.c (some tk1) z.2.1))), (12, .a (.d (.int .i64 ((z.2.2 : Nat) : Int))))]) (fun z => (H.set tk1 (some (.tok 2 z.2.1.l.length)))) (fun z => z.1) (fun z => Z58_l7 a0 a1 a2 a3 a4 z.1 z.2.1 z.2.2 = some r) ((a1.l.length + 1), (Sl.nil : Sl TFault), 0) hE Weak.toA ?_
  rintro ⟨n7, s11_8, s12_9⟩ hE K7 hK7
  try dsimp only at hE
  cases n7 with
  | zero => cases hE
  | succ n7 =>
    rw [Z58_l7] at hE
    refine seqK fun K10 hK10 => ?_
    refine seqK fun K11 hK11 => ?_
    refine region ?_
    refine s0 moveA rfl ?_
    refine s0 moveA rfl ?_
    refine sLen (f := TInput.c) (s := a1) (TK rfl) rfl rfl rfl rfl fun hL12 => ?_
    refine s0 (binI rfl rfl rfl) rfl ?_
    refine nil ?_
    refine hK11 _ ?_
    clear hK11 K11
    refine condE hE rfl (fun hc13 hE => ?_) (fun hc13 hE => ?_)
    ·try dsimp only at hc13
     have hf13 := of_decide_eq_true hc13
     refine AWp.skip ?_
     refine hK10 _ ?_
     clear hK10 K10
     refine seqJH (KeepsT.A (k := 1) (KeepsT.A (k := 2) (KeepsT.A (k := 3) (KeepsT.A (k := 4) (KeepsT.A (k := 5) (KeepsT.A (k := 12) KeepsT.nil)))))) (fun (z : (Sl TFault)) => [(11, .a (.d (Sl.d 2 TFault.c (some tk1) z)))]) (fun z => (H.set tk1 (some (.tok 2 z.l.length)))) (fun z => Z58_j14 s12_9 ((Z58_l7 a0 a1 a2 a3 a4 n7)) z = some r) ?_ ?_
     ·intro K14 hK14
      refine block ?_
      refine seqK fun K16 hK16 => ?_
      refine seqK fun K17 hK17 => ?_
      refine region ?_
      refine s0 moveA rfl ?_
      refine s0 moveA rfl ?_
      obtain ⟨x18, gx18, hE⟩ := bindO_some hE
      refine s0 (idxMn (f := TInput.c) (n := s12_9) (TK rfl) rfl (TK rfl) rfl rfl rfl gx18) rfl ?_
      refine s0 (fieldVA (TK rfl) rfl rfl (TK rfl) rfl rfl) rfl ?_
      refine s0 (loadV (TK rfl) rfl rfl rfl) rfl ?_
      refine s0 (notB rfl) rfl ?_
      refine nil ?_
      refine hK17 _ ?_
      clear hK17 K17
      refine condE hE rfl (fun hc19 hE => ?_) (fun hc19 hE => ?_)
      ·refine AWp.exit ?_
       exact hK14 _ s11_8 Weak.toA hE
      refine AWp.skip ?_
      refine hK16 _ ?_
      clear hK16 K16
      refine seqK fun K20 hK20 => ?_
      refine AWp.draw rfl ?_
      refine DOps.s0 (loadV (TK rfl) rfl rfl rfl) rfl ?_
      refine DOps.s0 moveA rfl ?_
      refine DOps.s0 moveA rfl ?_
      obtain ⟨x21, gx21, hE⟩ := bindO_some hE
      refine DOps.s0 (idxMn (f := TInput.c) (n := s12_9) (TK rfl) rfl (TK rfl) rfl rfl rfl gx21) rfl ?_
      refine DOps.s0 (fieldVA (TK rfl) rfl rfl (TK rfl) rfl rfl) rfl ?_
      refine DOps.s0 (loadV (TK rfl) rfl rfl rfl) rfl ?_
      refine DOps.s0 moveA rfl ?_
      refine DOps.s0 moveA rfl ?_
      obtain ⟨x22, gx22, hE⟩ := bindO_some hE
      refine DOps.s0 (idxMn (f := TInput.c) (n := s12_9) (TK rfl) rfl (TK rfl) rfl rfl rfl gx22) rfl ?_
      refine DOps.s0 (fieldVA (TK rfl) rfl rfl (TK rfl) rfl rfl) rfl ?_
      refine DOps.s0 (loadV (TK rfl) rfl rfl rfl) rfl ?_
      refine DOps.s0 (build Tryz.tab_ok rfl rfl rfl rfl rfl rfl) rfl ?_
      obtain ⟨x23, gx23, hE⟩ := bindO_some hE
      refine DOps.s0 (callP rfl rfl (fun H => Z57_walk gx23 H)) rfl ?_
      refine DOps.s0 moveA rfl ?_
      refine DOps.s0 (extract rfl rfl) rfl ?_
      refine DOps.s0 (extract rfl rfl) rfl ?_
      refine DOps.sB (TK rfl) rfl rfl ?_ (by repeat (first | exact Snoc.nil | apply Snoc.cons))
      refine DOps.sLn (storeLFA (TK rfl) rfl rfl rfl rfl rfl) ?_
      refine DOps.s0 assignA rfl ?_
      refine DOps.nil (by decide +kernel) ?_
      refine hK20 _ ?_
      clear hK20 K20
      refine freezeA 13 _ rfl (Keeps.c (k := 1) (by conv => lhs; whnf) (by rfl) (Keeps.c (k := 2) (by conv => lhs; whnf) (by rfl) (Keeps.c (k := 3) (by conv => lhs; whnf) (by rfl) (Keeps.c (k := 4) (by conv => lhs; whnf) (by rfl) (Keeps.c (k := 5) (by conv => lhs; whnf) (by rfl) (Keeps.c (k := 11) (by conv => lhs; whnf) (by rfl) (Keeps.c (k := 12) (by conv => lhs; whnf) (by rfl) (Keeps.c (k := 14) (by conv => lhs; whnf) (by rfl) Keeps.nil)))))))) ?_
      refine seqK fun K24 hK24 => ?_
      refine region ?_
      refine s0 moveA rfl ?_
      refine s0 (binI rfl rfl rfl) rfl ?_
      refine nil ?_
      refine hK24 _ ?_
      clear hK24 K24
      refine condE hE rfl (fun hc25 hE => ?_) (fun hc25 hE => ?_)
      ·refine region ?_
       refine s0 moveA rfl ?_
       refine s0 moveA rfl ?_
       refine s0 moveA rfl ?_
       obtain ⟨x26, gx26, hE⟩ := bindO_some hE
       refine s0 (catM rfl rfl gx26) rfl ?_
       refine s0 moveA rfl ?_
       refine s0 moveA rfl ?_
       obtain ⟨x27, gx27, hE⟩ := bindO_some hE
       refine s0 (idxMn (f := TInput.c) (n := s12_9) (TK rfl) rfl (TK rfl) rfl rfl rfl gx27) rfl ?_
       refine s0 (fieldVA (TK rfl) rfl rfl (TK rfl) rfl rfl) rfl ?_
       refine s0 (loadV (TK rfl) rfl rfl rfl) rfl ?_
       obtain ⟨x28, gx28, hE⟩ := bindO_some hE
       refine s0 (catM rfl rfl gx28) rfl ?_
       refine s0 moveA rfl ?_
       obtain ⟨x29, gx29, hE⟩ := bindO_some hE
       refine s0 (catM rfl rfl gx29) rfl ?_
       refine s0 (build Tryz.tab_ok rfl rfl rfl rfl rfl rfl) rfl ?_
       refine s0 (buildSlice (TK rfl) rfl (TK rfl) rfl rfl rfl rfl rfl rfl) rfl ?_
       obtain ⟨x30, gx30, hE⟩ := bindO_some hE
       refine sH (appM (f := TFault.c) (TK rfl) rfl (TK rfl) (TK rfl) ⟨_, rfl⟩ rfl rfl (by decide) rfl rfl rfl rfl hpG rfl gx30) rfl ?_
       refine AOps.heq (h' := (H.set tk1 (some (.tok 2 x30.l.length)))) (by first | rfl | (rw [Heap.set_set]; rfl) | (funext n_; simp only [Heap.set]; (repeat' split) <;> first | rfl | (exfalso; simp_all; done) | (simp_all; done))) ?_
       refine s0 assignA rfl ?_
       refine nil ?_
       exact hK14 _ x30 Weak.toA hE
      refine AWp.skip ?_
      exact hK14 _ s11_8 Weak.toA hE
     rintro s11_15 hE
     try dsimp only at hE
     unfold Z58_j14 at hE
     refine region ?_
     refine s0 moveA rfl ?_
     refine s0 (addIA rfl rfl) rfl ?_
     refine s0 assignA rfl ?_
     refine nil ?_
     exact hK7 _ (n7, s11_15, (s12_9 + 1)) Weak.toA hE (Nat.lt_succ_self _)
    refine AWp.exit ?_
    exact hK3 _ s11_8 Weak.toA hE
 rintro s11_4 hE
 try dsimp only at hE
 unfold Z58_j3 at hE
 refine seqK fun K5 hK5 => ?_
 refine region ?_
 refine s0 moveA rfl ?_
 refine s0 assignA rfl ?_
 refine nil ?_
 refine hK5 _ ?_
 clear hK5 K5
 refine AWp.dropTok 10 rfl ?_
 refine AWp.ret ?_
 repeat (first | refine xBlock_ret ?_ | refine xThen_ret ?_)
 obtain rfl := Option.some.inj hE
 refine retQ.retF H rfl ⟨rfl, rfl⟩ ?_
 first | exact Heap.sub_set htk1 | (simp only [Heap.set_set]; exact Heap.sub_set htk1)
def Z56_j3  (s3_4 : (Sl TFault)) : Option (Sl TFault) := some s3_4
def Z56_j14 (s4_9 : Nat) (k_next_7 : (Sl TFault) → Nat → Option (Sl TFault)) (s3_15 : (Sl TFault)) : Option (Sl TFault) := k_next_7 s3_15 (s4_9 + 1)
def Z56_j18 (a0 : TDoc) (s4_9 : Nat) (x17 : TDef) (k_next_7 : (Sl TFault) → Nat → Option (Sl TFault)) (s3_19 : (Sl TFault)) : Option (Sl TFault) := (Z58 a0 x17.FInputs x17.FName ([46] : Bs) ([] : Bs)).bind fun x20 => (appC 24 s3_19 x20).bind fun x21 => Z56_j14 s4_9 k_next_7 x21
def Z56_l23 (a0 : TDoc) (s4_9 : Nat) (x17 : TDef) (k_next_7 : (Sl TFault) → Nat → Option (Sl TFault)) : Nat → (Sl TFault) → Nat → Option (Sl TFault)
 | 0, _, _ => none
 | n23 + 1, s3_24, s6_25 => bif (decide (((s6_25 : Nat) : Int) < ((x17.FFields.l.length : Nat) : Int))) then ((x17.FFields.l[s6_25]?).bind fun x31 => (catC x17.FName ([46] : Bs)).bind fun x32 => (x17.FFields.l[s6_25]?).bind fun x33 => (catC x32 x33.FName).bind fun x34 => (Z58 a0 x31.FArgs x34 ([40] : Bs) ([41] : Bs)).bind fun x35 => (appC 24 s3_24 x35).bind fun x36 => (Z56_l23 a0 s4_9 x17 k_next_7 n23) x36 (s6_25 + 1)) else (Z56_j18 a0 s4_9 x17 k_next_7 s3_24)
def Z56_l7 (a0 : TDoc)  : Nat → (Sl TFault) → Nat → Option (Sl TFault)
 | 0, _, _ => none
 | n7 + 1, s3_8, s4_9 => bif (decide (((s4_9 : Nat) : Int) < ((a0.FDefs.l.length : Nat) : Int))) then ((a0.FDefs.l[s4_9]?).bind fun x17 => Z56_l23 a0 s4_9 x17 ((Z56_l7 a0 n7)) (x17.FFields.l.length + 1) s3_8 0) else (Z56_j3   s3_8)
def Z56 (a0 : TDoc) : Option (Sl TFault) := Z56_l7 a0 (a0.FDefs.l.length + 1) (Sl.nil : Sl TFault) 0
theorem Z56_walk {a0 : TDoc}   {r : (Sl TFault)} (hE : Z56 a0 = some r) (H : Heap)  : ACalls Tryz.prog 25 [.agg (TDoc.c a0)] H fun v h' => v = .a (.d (Sl.d 2 TFault.c none r)) ∧ h' = H := by
 unfold Z56 at hE
 refine ACalls.of_wp (fn := Tryz.f25) (c := _) Tryz.tab_ok (fun _ _ => Tryz.call25 _ _) Tryz.func25 rfl (n := 55) rfl (rs := [.tmp 2]) rfl rfl ?_
 refine AWp.tok 2 fun tk1 htk1 => ?_
 refine seqK fun K1 hK1 => ?_
 refine region ?_
 refine s0 (boxV rfl) rfl ?_
 refine s0 (assignNil (k' := 2) rfl) rfl ?_
 refine nil ?_
 refine hK1 _ ?_
 clear hK1 K1
 refine seqK fun K2 hK2 => ?_
 refine region ?_
 refine s0 assignA rfl ?_
 refine nil ?_
 refine hK2 _ ?_
 clear hK2 K2
 refine AWp.nilTok 3 2 tk1 rfl hpG ?_
 refine seqJH KeepsT.nil (fun (z : (Sl TFault)) => [(3, .a (.d (Sl.d 2 TFault.c (some tk1) z)))]) (fun z => (H.set tk1 (some (.tok 2 z.l.length)))) (fun z => Z56_j3 z = some r) ?_ ?_
 ·intro K3 hK3
  refine seqK fun K6 hK6 => ?_
  refine region ?_
  refine s0 assignA rfl ?_
  refine nil ?_
  refine hK6 _ ?_
  clear hK6 K6
  refine block ?_
  refine loopH (KeepsT.A (k := 1) KeepsT.nil) (fun (z : Nat × (Sl TFault) × Nat) => [(3, .a (.d (Sl.d 2 TFault.c (some tk1) z.2.1))), (4, .a (.d (.int .i64 ((z.2.2 : Nat) : Int))))]) (fun z => (H.set tk1 (some (.tok 2 z.2.1.l.length)))) (fun z => z.1) (fun z => Z56_l7 a0 z.1 z.2.1 z.2.2 = some r) ((a0.FDefs.l.length + 1), (Sl.nil : Sl TFault), 0) hE Weak.toA ?_
  rintro ⟨n7, s3_8, s4_9⟩ hE K7 hK7
  try dsimp only at hE
  cases n7 with
  | zero => cases hE
  | succ n7 =>
    rw [Z56_l7] at hE
    refine seqK fun K10 hK10 => ?_
    refine seqK fun K11 hK11 => ?_
    refine region ?_
    refine s0 moveA rfl ?_
    refine s0 (fieldVA (TK rfl) rfl rfl (TK rfl) rfl rfl) rfl ?_
    refine s0 (loadV (TK rfl) rfl rfl rfl) rfl ?_
    refine sLen (f := TDef.c) (s := a0.FDefs) (TK rfl) rfl rfl rfl rfl fun hL12 => ?_
    refine s0 (binI rfl rfl rfl) rfl ?_
    refine nil ?_
    refine hK11 _ ?_
    clear hK11 K11
    refine condE hE rfl (fun hc13 hE => ?_) (fun hc13 hE => ?_)
    ·try dsimp only at hc13
     have hf13 := of_decide_eq_true hc13
     refine AWp.skip ?_
     refine hK10 _ ?_
     clear hK10 K10
     refine seqJH (KeepsT.A (k := 1) (KeepsT.A (k := 4) KeepsT.nil)) (fun (z : (Sl TFault)) => [(3, .a (.d (Sl.d 2 TFault.c (some tk1) z)))]) (fun z => (H.set tk1 (some (.tok 2 z.l.length)))) (fun z => Z56_j14 s4_9 ((Z56_l7 a0 n7)) z = some r) ?_ ?_
     ·intro K14 hK14
      refine block ?_
      refine seqK fun K16 hK16 => ?_
      refine region ?_
      refine s0 (fieldVA (TK rfl) rfl rfl (TK rfl) rfl rfl) rfl ?_
      refine s0 (loadV (TK rfl) rfl rfl rfl) rfl ?_
      refine s0 moveA rfl ?_
      obtain ⟨x17, gx17, hE⟩ := bindO_some hE
      refine s0 (idxMn (f := TDef.c) (n := s4_9) (TK rfl) rfl (TK rfl) rfl rfl rfl gx17) rfl ?_
      refine s0 (loadV (TK rfl) rfl rfl rfl) rfl ?_
      refine sL (allocLA (TK rfl) rfl) rfl ?_
      refine sLn (storeLFA (TK rfl) rfl rfl rfl rfl rfl) ?_
      refine nil ?_
      refine hK16 _ ?_
      clear hK16 K16
      refine freezeA 5 _ rfl (Keeps.c (k := 1) (by conv => lhs; whnf) (by rfl) (Keeps.c (k := 3) (by conv => lhs; whnf) (by rfl) (Keeps.c (k := 4) (by conv => lhs; whnf) (by rfl) Keeps.nil))) ?_
      refine seqJH (KeepsT.A (k := 1) (KeepsT.A (k := 4) (KeepsT.A (k := 5) KeepsT.nil))) (fun (z : (Sl TFault)) => [(3, .a (.d (Sl.d 2 TFault.c (some tk1) z)))]) (fun z => (H.set tk1 (some (.tok 2 z.l.length)))) (fun z => Z56_j18 a0 s4_9 x17 ((Z56_l7 a0 n7)) z = some r) ?_ ?_
      ·intro K18 hK18
       refine seqK fun K22 hK22 => ?_
       refine region ?_
       refine s0 assignA rfl ?_
       refine nil ?_
       refine hK22 _ ?_
       clear hK22 K22
       refine block ?_
       refine loopH (KeepsT.A (k := 1) (KeepsT.A (k := 4) (KeepsT.A (k := 5) KeepsT.nil))) (fun (z : Nat × (Sl TFault) × Nat) => [(3, .a (.d (Sl.d 2 TFault.c (some tk1) z.2.1))), (6, .a (.d (.int .i64 ((z.2.2 : Nat) : Int))))]) (fun z => (H.set tk1 (some (.tok 2 z.2.1.l.length)))) (fun z => z.1) (fun z => Z56_l23 a0 s4_9 x17 ((Z56_l7 a0 n7)) z.1 z.2.1 z.2.2 = some r) ((x17.FFields.l.length + 1), s3_8, 0) hE Weak.toA ?_
       rintro ⟨n23, s3_24, s6_25⟩ hE K23 hK23
       try dsimp only at hE
       cases n23 with
       | zero => cases hE
       | succ n23 =>
         rw [Z56_l23] at hE
         refine seqK fun K26 hK26 => ?_
         refine seqK fun K27 hK27 => ?_
         refine region ?_
         refine s0 moveA rfl ?_
         refine s0 (fieldVA (TK rfl) rfl rfl (TK rfl) rfl rfl) rfl ?_
         refine s0 (loadV (TK rfl) rfl rfl rfl) rfl ?_
         refine sLen (f := TField.c) (s := x17.FFields) (TK rfl) rfl rfl rfl rfl fun hL28 => ?_
         refine s0 (binI rfl rfl rfl) rfl ?_
         refine nil ?_
         refine hK27 _ ?_
         clear hK27 K27
         refine condE hE rfl (fun hc29 hE => ?_) (fun hc29 hE => ?_)
         ·try dsimp only at hc29
          have hf29 := of_decide_eq_true hc29
          refine AWp.skip ?_
          refine hK26 _ ?_
          clear hK26 K26
          refine seqK fun K30 hK30 => ?_
          refine block ?_
          refine AWp.draw rfl ?_
          refine DOps.s0 moveA rfl ?_
          refine DOps.s0 (loadV (TK rfl) rfl rfl rfl) rfl ?_
          refine DOps.s0 (fieldVA (TK rfl) rfl rfl (TK rfl) rfl rfl) rfl ?_
          refine DOps.s0 (loadV (TK rfl) rfl rfl rfl) rfl ?_
          refine DOps.s0 moveA rfl ?_
          obtain ⟨x31, gx31, hE⟩ := bindO_some hE
          refine DOps.s0 (idxMn (f := TField.c) (n := s6_25) (TK rfl) rfl (TK rfl) rfl rfl rfl gx31) rfl ?_
          refine DOps.s0 (fieldVA (TK rfl) rfl rfl (TK rfl) rfl rfl) rfl ?_
          refine DOps.s0 (loadV (TK rfl) rfl rfl rfl) rfl ?_
          refine DOps.s0 (fieldVA (TK rfl) rfl rfl (TK rfl) rfl rfl) rfl ?_
          refine DOps.s0 (loadV (TK rfl) rfl rfl rfl) rfl ?_
          obtain ⟨x32, gx32, hE⟩ := bindO_some hE
          refine DOps.s0 (catM rfl rfl gx32) rfl ?_
          refine DOps.s0 (fieldVA (TK rfl) rfl rfl (TK rfl) rfl rfl) rfl ?_
          refine DOps.s0 (loadV (TK rfl) rfl rfl rfl) rfl ?_
          refine DOps.s0 moveA rfl ?_
          obtain ⟨x33, gx33, hE⟩ := bindO_some hE
          refine DOps.s0 (idxMn (f := TField.c) (n := s6_25) (TK rfl) rfl (TK rfl) rfl rfl rfl gx33) rfl ?_
          refine DOps.s0 (fieldVA (TK rfl) rfl rfl (TK rfl) rfl rfl) rfl ?_
          refine DOps.s0 (loadV (TK rfl) rfl rfl rfl) rfl ?_
          obtain ⟨x34, gx34, hE⟩ := bindO_some hE
          refine DOps.s0 (catM rfl rfl gx34) rfl ?_
          obtain ⟨x35, gx35, hE⟩ := bindO_some hE
          refine DOps.s0 (callP rfl rfl (fun H => Z58_walk gx35 H)) rfl ?_
          obtain ⟨x36, gx36, hE⟩ := bindO_some hE
          refine DOps.sH (appM (f := TFault.c) (TK rfl) rfl (TK rfl) (TK rfl) ⟨_, rfl⟩ rfl rfl (by decide) rfl rfl rfl rfl hpG rfl gx36) rfl ?_
          refine DOps.heq (h' := (H.set tk1 (some (.tok 2 x36.l.length)))) (by first | rfl | (rw [Heap.set_set]; rfl) | (funext n_; simp only [Heap.set]; (repeat' split) <;> first | rfl | (exfalso; simp_all; done) | (simp_all; done))) ?_
          refine DOps.s0 assignA rfl ?_
          refine DOps.nil (by decide +kernel) ?_
          refine hK30 _ ?_
          clear hK30 K30
          refine region ?_
          refine s0 moveA rfl ?_
          refine s0 (addIA rfl rfl) rfl ?_
          refine s0 assignA rfl ?_
          refine nil ?_
          exact hK23 _ (n23, x36, (s6_25 + 1)) Weak.toA hE (Nat.lt_succ_self _)
         refine AWp.exit ?_
         exact hK18 _ s3_24 Weak.toA hE
      rintro s3_19 hE
      try dsimp only at hE
      unfold Z56_j18 at hE
      refine region ?_
      refine s0 moveA rfl ?_
      refine s0 (loadV (TK rfl) rfl rfl rfl) rfl ?_
      refine s0 (fieldVA (TK rfl) rfl rfl (TK rfl) rfl rfl) rfl ?_
      refine s0 (loadV (TK rfl) rfl rfl rfl) rfl ?_
      refine s0 (fieldVA (TK rfl) rfl rfl (TK rfl) rfl rfl) rfl ?_
      refine s0 (loadV (TK rfl) rfl rfl rfl) rfl ?_
      obtain ⟨x20, gx20, hE⟩ := bindO_some hE
      refine s0 (callP rfl rfl (fun H => Z58_walk gx20 H)) rfl ?_
      obtain ⟨x21, gx21, hE⟩ := bindO_some hE
      refine sH (appM (f := TFault.c) (TK rfl) rfl (TK rfl) (TK rfl) ⟨_, rfl⟩ rfl rfl (by decide) rfl rfl rfl rfl hpG rfl gx21) rfl ?_
      refine AOps.heq (h' := (H.set tk1 (some (.tok 2 x21.l.length)))) (by first | rfl | (rw [Heap.set_set]; rfl) | (funext n_; simp only [Heap.set]; (repeat' split) <;> first | rfl | (exfalso; simp_all; done) | (simp_all; done))) ?_
      refine s0 assignA rfl ?_
      refine nil ?_
      exact hK14 _ x21 Weak.toA hE
     rintro s3_15 hE
     try dsimp only at hE
     unfold Z56_j14 at hE
     refine region ?_
     refine s0 moveA rfl ?_
     refine s0 (addIA rfl rfl) rfl ?_
     refine s0 assignA rfl ?_
     refine nil ?_
     exact hK7 _ (n7, s3_15, (s4_9 + 1)) Weak.toA hE (Nat.lt_succ_self _)
    refine AWp.exit ?_
    exact hK3 _ s3_8 Weak.toA hE
 rintro s3_4 hE
 try dsimp only at hE
 unfold Z56_j3 at hE
 refine seqK fun K5 hK5 => ?_
 refine region ?_
 refine s0 moveA rfl ?_
 refine s0 assignA rfl ?_
 refine nil ?_
 refine hK5 _ ?_
 clear hK5 K5
 refine AWp.dropTok 2 rfl ?_
 refine AWp.ret ?_
 repeat (first | refine xBlock_ret ?_ | refine xThen_ret ?_)
 obtain rfl := Option.some.inj hE
 refine retQ.retF H rfl ⟨rfl, rfl⟩ ?_
 first | exact Heap.sub_set htk1 | (simp only [Heap.set_set]; exact Heap.sub_set htk1)
theorem eqt_66 : eqTab Tryz.prog 66 = some [.int .i64, .str] := by kernel_rfl
def Z18_j18   : Option Bool := (Z19 ).bind fun x20 => some x20
def Z18_l22 (x10 : (Sl TFault)) (x11 : (Sl TFault))  : Nat → Nat → Option Bool
 | 0, _ => none
 | n22 + 1, s5_23 => bif (decide (((s5_23 : Nat) : Int) < ((x10.l.length : Nat) : Int))) then ((x10.l[s5_23]?).bind fun x30 => (x11.l[s5_23]?).bind fun x31 => bif (!(decide (x30.FErr = x31.FErr) && ((x30.FAt == x31.FAt) && true))) then (some false) else ((Z18_l22 x10 x11 n22) (s5_23 + 1))) else (Z18_j18   )
def Z18 (a0 : TDoc) : Option Bool := (Z41 a0 (600 : Int)).bind fun x4 => guardO (!(decide ((600 : Int) < x4))) (Z40 a0) false fun x5 => bif ((decide ((600 : Int) < x4)) || (!x5)) then ((Z19 ).bind fun x8 => some x8) else ((Z1 a0).bind fun x10 => (Z56 a0).bind fun x11 => bif (!decide (((x10.l.length : Nat) : Int) = ((x11.l.length : Nat) : Int))) then (some false) else (Z18_l22 x10 x11 (x10.l.length + 1) 0))
theorem Z18_walk {a0 : TDoc} {oT : Ab.Obj} {gT : Nat} {r : Bool} (hE : Z18 a0 = some r) (H : Heap) (hgT : H gT = some oT) (hoT : IsTab Tryz.prog oT) : ACalls Tryz.prog 7 [.agg (TDoc.c a0)] H fun v h' => v = .a (.d (.bool r)) ∧ h' = H := by
 unfold Z18 at hE
 refine ACalls.of_wp (fn := Tryz.f7) (c := _) Tryz.tab_ok (fun _ _ => Tryz.call7 _ _) Tryz.func7 rfl (n := 40) rfl (rs := [.tmp 2]) rfl rfl ?_
 refine seqK fun K1 hK1 => ?_
 refine region ?_
 refine s0 (boxV rfl) rfl ?_
 refine s0 assignA rfl ?_
 refine nil ?_
 refine hK1 _ ?_
 clear hK1 K1
 refine seqK fun K2 hK2 => ?_
 refine seqK fun K3 hK3 => ?_
 refine region ?_
 refine s0 (loadV (TK rfl) rfl rfl rfl) rfl ?_
 obtain ⟨x4, gx4, hE⟩ := bindO_some hE
 refine s0 (callP rfl rfl (fun H => Z41_walk gx4 H)) rfl ?_
 refine s0 (binI rfl rfl rfl) rfl ?_
 refine s0 moveA rfl ?_
 refine gC rfl rfl (fun hC => loadV (TK rfl) rfl rfl rfl) rfl ?_
 obtain ⟨x5, gx5, hE⟩ := guardO_some hE
 refine gC rfl rfl (fun hC => ungdA (k := 10) rfl (callP rfl rfl (fun H => Z40_walk (gx5 hC) H))) rfl ?_
 refine gC rfl rfl (fun hC => ungdA (k := 11) rfl (notB rfl)) rfl ?_
 refine s0 (pickOrA rfl rfl rfl) rfl ?_
 refine nil ?_
 refine hK3 _ ?_
 clear hK3 K3
 refine condE hE rfl (fun hc6 hE => ?_) (fun hc6 hE => ?_)
 ·refine seqK fun K7 hK7 => ?_
  refine region ?_
  obtain ⟨x8, gx8, hE⟩ := bindO_some hE
  refine s0 (callR rfl rfl (Z19_walk (gT := gT) (oT := oT) gx8 _ hpG (by assumption))) rfl ?_
  refine s0 assignA rfl ?_
  refine nil ?_
  refine hK7 _ ?_
  clear hK7 K7
  refine AWp.ret ?_
  repeat (first | refine xBlock_ret ?_ | refine xThen_ret ?_)
  obtain rfl := Option.some.inj hE
  refine retQ.retF H rfl ⟨rfl, rfl⟩ ?_
  exact (fun _ _ h => h)
 refine AWp.skip ?_
 refine hK2 _ ?_
 clear hK2 K2
 refine seqK fun K9 hK9 => ?_
 refine AWp.draw rfl ?_
 refine DOps.s0 (loadV (TK rfl) rfl rfl rfl) rfl ?_
 obtain ⟨x10, gx10, hE⟩ := bindO_some hE
 refine DOps.s0 (callR rfl rfl (Z1_walk (gT := gT) (oT := oT) gx10 _ hpG (by assumption))) rfl ?_
 refine DOps.s0 (loadV (TK rfl) rfl rfl rfl) rfl ?_
 obtain ⟨x11, gx11, hE⟩ := bindO_some hE
 refine DOps.s0 (callP rfl rfl (fun H => Z56_walk gx11 H)) rfl ?_
 refine DOps.s0 assignA rfl ?_
 refine DOps.s0 assignA rfl ?_
 refine DOps.nil (by decide +kernel) ?_
 refine hK9 _ ?_
 clear hK9 K9
 refine seqK fun K12 hK12 => ?_
 refine seqK fun K13 hK13 => ?_
 refine region ?_
 refine s0 moveA rfl ?_
 refine sLen (f := TFault.c) (s := x10) (TK rfl) rfl rfl rfl rfl fun hL14 => ?_
 refine s0 moveA rfl ?_
 refine sLen (f := TFault.c) (s := x11) (TK rfl) rfl rfl rfl rfl fun hL15 => ?_
 refine s0 (binI rfl rfl rfl) rfl ?_
 refine nil ?_
 refine hK13 _ ?_
 clear hK13 K13
 refine condE hE rfl (fun hc16 hE => ?_) (fun hc16 hE => ?_)
 ·refine seqK fun K17 hK17 => ?_
  refine region ?_
  refine s0 assignA rfl ?_
  refine nil ?_
  refine hK17 _ ?_
  clear hK17 K17
  refine AWp.ret ?_
  repeat (first | refine xBlock_ret ?_ | refine xThen_ret ?_)
  obtain rfl := Option.some.inj hE
  refine retQ.retF H rfl ⟨rfl, rfl⟩ ?_
  exact (fun _ _ h => h)
 refine AWp.skip ?_
 refine hK12 _ ?_
 clear hK12 K12
 refine seqJH KeepsT.nil (fun (z : Unit) => []) (fun z => H) (fun z => Z18_j18  = some r) ?_ ?_
 ·intro K18 hK18
  refine seqK fun K21 hK21 => ?_
  refine region ?_
  refine s0 assignA rfl ?_
  refine nil ?_
  refine hK21 _ ?_
  clear hK21 K21
  refine block ?_
  refine loopH (KeepsT.A (k := 3) (KeepsT.A (k := 4) KeepsT.nil)) (fun (z : Nat × Nat) => [(5, .a (.d (.int .i64 ((z.2 : Nat) : Int))))]) (fun z => H) (fun z => z.1) (fun z => Z18_l22 x10 x11 z.1 z.2 = some r) ((x10.l.length + 1), 0) hE Weak.toA ?_
  rintro ⟨n22, s5_23⟩ hE K22 hK22
  try dsimp only at hE
  cases n22 with
  | zero => cases hE
  | succ n22 =>
    rw [Z18_l22] at hE
    refine seqK fun K24 hK24 => ?_
    refine seqK fun K25 hK25 => ?_
    refine region ?_
    refine s0 moveA rfl ?_
    refine s0 moveA rfl ?_
    refine sLen (f := TFault.c) (s := x10) (TK rfl) rfl rfl rfl rfl fun hL26 => ?_
    refine s0 (binI rfl rfl rfl) rfl ?_
    refine nil ?_
    refine hK25 _ ?_
    clear hK25 K25
    refine condE hE rfl (fun hc27 hE => ?_) (fun hc27 hE => ?_)
    ·try dsimp only at hc27
     have hf27 := of_decide_eq_true hc27
     refine AWp.skip ?_
     refine hK24 _ ?_
     clear hK24 K24
     refine seqK fun K28 hK28 => ?_
     refine block ?_
     refine seqK fun K29 hK29 => ?_
     refine AWp.draw rfl ?_
     refine DOps.s0 moveA rfl ?_
     refine DOps.s0 moveA rfl ?_
     obtain ⟨x30, gx30, hE⟩ := bindO_some hE
     refine DOps.s0 (idxMn (f := TFault.c) (n := s5_23) (TK rfl) rfl (TK rfl) rfl rfl rfl gx30) rfl ?_
     refine DOps.s0 (loadV (TK rfl) rfl rfl rfl) rfl ?_
     refine DOps.s0 moveA rfl ?_
     refine DOps.s0 moveA rfl ?_
     obtain ⟨x31, gx31, hE⟩ := bindO_some hE
     refine DOps.s0 (idxMn (f := TFault.c) (n := s5_23) (TK rfl) rfl (TK rfl) rfl rfl rfl gx31) rfl ?_
     refine DOps.s0 (loadV (TK rfl) rfl rfl rfl) rfl ?_
     refine DOps.s0 (neStruct eqt_66 rfl rfl rfl rfl) rfl ?_
     refine DOps.nil (by decide +kernel) ?_
     refine hK29 _ ?_
     clear hK29 K29
     refine condE hE rfl (fun hc32 hE => ?_) (fun hc32 hE => ?_)
     ·refine seqK fun K33 hK33 => ?_
      refine region ?_
      refine s0 assignA rfl ?_
      refine nil ?_
      refine hK33 _ ?_
      clear hK33 K33
      refine AWp.ret ?_
      repeat (first | refine xBlock_ret ?_ | refine xThen_ret ?_)
      obtain rfl := Option.some.inj hE
      refine retQ.retF H rfl ⟨rfl, rfl⟩ ?_
      exact (fun _ _ h => h)
     refine AWp.skip ?_
     refine hK28 _ ?_
     clear hK28 K28
     refine region ?_
     refine s0 moveA rfl ?_
     refine s0 (addIA rfl rfl) rfl ?_
     refine s0 assignA rfl ?_
     refine nil ?_
     exact hK22 _ (n22, (s5_23 + 1)) Weak.toA hE (Nat.lt_succ_self _)
    refine AWp.exit ?_
    exact hK18 _ () Weak.toA hE
 rintro _ hE
 try dsimp only at hE
 unfold Z18_j18 at hE
 refine seqK fun K19 hK19 => ?_
 refine region ?_
 obtain ⟨x20, gx20, hE⟩ := bindO_some hE
 refine s0 (callR rfl rfl (Z19_walk (gT := gT) (oT := oT) gx20 _ hpG (by assumption))) rfl ?_
 refine s0 assignA rfl ?_
 refine nil ?_
 refine hK19 _ ?_
 clear hK19 K19
 refine AWp.ret ?_
 repeat (first | refine xBlock_ret ?_ | refine xThen_ret ?_)
 obtain rfl := Option.some.inj hE
 refine retQ.retF H rfl ⟨rfl, rfl⟩ ?_
 exact (fun _ _ h => h)
end Go.Proofs
