import Derived.Test.YtjlggcgmmpopmaaGreatDoorV6
set_option maxRecDepth 100000
set_option maxHeartbeats 2000000
set_option linter.unusedVariables false
set_option linter.unusedSimpArgs false
namespace Go.Proofs
open Go Go.Ab
open AOps Cert AWp
variable {lou : Lou}
def Z62 (a0 : R12_work) (a1 : TValue) : Option Bool := bif ((!a0.Flit) || (!decide (a1.FKind = (7 : Int)))) then (some false) else ((Z26 a0.Fvars a1.FText).bind fun x7 => some (!x7.2))
theorem Z62_walk {a0 : R12_work} {a1 : TValue}  {c0 : Nat} {r : Bool} (hE : Z62 a0 a1 = some r) (H : Heap) (hc0 : H c0 = some (.cells (R12_work.c a0))) : ACalls Tryz.prog 34 [.d (.ptr c0 0), .agg (TValue.c a1)] H fun v h' => v = .a (.d (.bool r)) ∧ h' = H := by
 unfold Z62 at hE
 refine ACalls.of_wp (fn := Tryz.f34) (c := _) Tryz.tab_ok (fun _ _ => Tryz.call34 _ _) Tryz.func34 rfl (n := 29) rfl (rs := [.tmp 4]) rfl rfl ?_
 refine seqK fun K1 hK1 => ?_
 refine region ?_
 refine s0 (boxV rfl) rfl ?_
 refine s0 assignA rfl ?_
 refine nil ?_
 refine hK1 _ ?_
 clear hK1 K1
 refine seqK fun K2 hK2 => ?_
 refine seqK fun K3 hK3 => ?_
 refine region ?_
 refine s0 moveA rfl ?_
 refine s0 (nilP rfl) rfl ?_
 refine s0 (fieldP (TK rfl) rfl rfl (TK rfl) rfl rfl) rfl ?_
 refine s0 (loadP (TK rfl) rfl rfl hpG rfl) rfl ?_
 refine s0 (notB rfl) rfl ?_
 refine s0 moveA rfl ?_
 refine gC rfl rfl (fun hC => fieldVA (TK rfl) rfl rfl (TK rfl) rfl rfl) rfl ?_
 refine gC rfl rfl (fun hC => ungdA (k := 13) rfl (loadV (TK rfl) rfl rfl rfl)) rfl ?_
 refine gC rfl rfl (fun hC => ungdA (k := 14) rfl (binI rfl rfl rfl)) rfl ?_
 refine s0 (pickOrA rfl rfl rfl) rfl ?_
 refine nil ?_
 refine hK3 _ ?_
 clear hK3 K3
 refine condE hE rfl (fun hc4 hE => ?_) (fun hc4 hE => ?_)
 ·refine seqK fun K5 hK5 => ?_
  refine region ?_
  refine s0 assignA rfl ?_
  refine nil ?_
  refine hK5 _ ?_
  clear hK5 K5
  refine AWp.ret ?_
  repeat (first | refine xBlock_ret ?_ | refine xThen_ret ?_)
  obtain rfl := Option.some.inj hE
  refine retQ.retF H rfl ⟨rfl, rfl⟩ ?_
  exact (fun _ _ h => h)
 refine AWp.skip ?_
 refine hK2 _ ?_
 clear hK2 K2
 refine seqK fun K6 hK6 => ?_
 refine AWp.draw rfl ?_
 refine DOps.s0 moveA rfl ?_
 refine DOps.s0 (nilP rfl) rfl ?_
 refine DOps.s0 (fieldP (TK rfl) rfl rfl (TK rfl) rfl rfl) rfl ?_
 refine DOps.s0 (loadP (TK rfl) rfl rfl hpG rfl) rfl ?_
 refine DOps.s0 (fieldVA (TK rfl) rfl rfl (TK rfl) rfl rfl) rfl ?_
 refine DOps.s0 (loadV (TK rfl) rfl rfl rfl) rfl ?_
 obtain ⟨x7, gx7, hE⟩ := bindO_some hE
 refine DOps.s0 (callP rfl rfl (fun H => Z26_walk gx7 H)) rfl ?_
 refine DOps.s0 moveA rfl ?_
 refine DOps.s0 (extract rfl rfl) rfl ?_
 refine DOps.s0 (extract rfl rfl) rfl ?_
 refine DOps.sB (TK rfl) rfl rfl ?_ (by repeat (first | exact Snoc.nil | apply Snoc.cons))
 refine DOps.sLn (storeLFA (TK rfl) rfl rfl rfl rfl rfl) ?_
 refine DOps.s0 assignA rfl ?_
 refine DOps.nil (by decide +kernel) ?_
 refine hK6 _ ?_
 clear hK6 K6
 refine freezeA 5 _ rfl (Keeps.c (k := 6) (by conv => lhs; whnf) (by rfl) Keeps.nil) ?_
 refine seqK fun K8 hK8 => ?_
 refine region ?_
 refine s0 moveA rfl ?_
 refine s0 (notB rfl) rfl ?_
 refine s0 assignA rfl ?_
 refine nil ?_
 refine hK8 _ ?_
 clear hK8 K8
 refine AWp.ret ?_
 repeat (first | refine xBlock_ret ?_ | refine xThen_ret ?_)
 obtain rfl := Option.some.inj hE
 refine retQ.retF H rfl ⟨rfl, rfl⟩ ?_
 exact (fun _ _ h => h)
def Z36 (a0 : TRef) : Option Bool := guardO ((decide ((0 : Int) < ((a0.FWraps.l.length : Nat) : Int)))) (a0.FWraps.l[0]?) (0 : Int) fun x4 => some ((decide ((0 : Int) < ((a0.FWraps.l.length : Nat) : Int))) && (decide (x4 = (1 : Int))))
theorem Z36_walk {a0 : TRef}   {r : Bool} (hE : Z36 a0 = some r) (H : Heap)  : ACalls Tryz.prog 45 [.agg (TRef.c a0)] H fun v h' => v = .a (.d (.bool r)) ∧ h' = H := by
 unfold Z36 at hE
 refine ACalls.of_wp (fn := Tryz.f45) (c := _) Tryz.tab_ok (fun _ _ => Tryz.call45 _ _) Tryz.func45 rfl (n := 14) rfl (rs := [.tmp 2]) rfl rfl ?_
 refine seqK fun K1 hK1 => ?_
 refine region ?_
 refine s0 (boxV rfl) rfl ?_
 refine s0 assignA rfl ?_
 refine nil ?_
 refine hK1 _ ?_
 clear hK1 K1
 refine seqK fun K2 hK2 => ?_
 refine region ?_
 refine s0 (fieldVA (TK rfl) rfl rfl (TK rfl) rfl rfl) rfl ?_
 refine s0 (loadV (TK rfl) rfl rfl rfl) rfl ?_
 refine sLen (f := (intE .i64)) (s := a0.FWraps) (TK rfl) rfl rfl rfl rfl fun hL3 => ?_
 refine s0 (binI rfl rfl rfl) rfl ?_
 refine s0 moveA rfl ?_
 refine gC rfl rfl (fun hC => fieldVA (TK rfl) rfl rfl (TK rfl) rfl rfl) rfl ?_
 refine gC rfl rfl (fun hC => ungdA (k := 8) rfl (loadV (TK rfl) rfl rfl rfl)) rfl ?_
 obtain ⟨x4, gx4, hE⟩ := guardO_some hE
 refine gC rfl rfl (fun hC => ungdA (k := 9) rfl (idxMn (f := (intE .i64)) (n := 0) (TK rfl) rfl (TK rfl) rfl rfl rfl (gx4 hC))) rfl ?_
 refine gC rfl rfl (fun hC => ungdA (k := 10) rfl (loadV (TK rfl) rfl rfl rfl)) rfl ?_
 refine gC rfl rfl (fun hC => ungdA (k := 11) rfl (binI rfl rfl rfl)) rfl ?_
 refine s0 (pickAndA rfl rfl rfl) rfl ?_
 refine s0 assignA rfl ?_
 refine nil ?_
 refine hK2 _ ?_
 clear hK2 K2
 refine AWp.ret ?_
 repeat (first | refine xBlock_ret ?_ | refine xThen_ret ?_)
 obtain rfl := Option.some.inj hE
 refine retQ.retF H rfl ⟨rfl, rfl⟩ ?_
 exact (fun _ _ h => h)
def Z61 (a0 : R12_work) (a1 : Int) : Option R12_work := bif (decide (a0.Ferr = (0 : Int))) then (some (R12_work.mk a0.Fd a0.Fvars a0.Flit a0.Fcount a1)) else (some a0)
theorem Z61_walk {a0 : R12_work} {a1 : Int}  {c0 : Nat} {r : R12_work} (hE : Z61 a0 a1 = some r) (H : Heap) (hc0 : H c0 = some (.cells (R12_work.c a0))) : ACalls Tryz.prog 96 [.d (.ptr c0 0), .d (.int .i64 a1)] H fun v h' => v = .tup [] ∧ h' = (H.set c0 (some (.cells (R12_work.c r)))) := by
 unfold Z61 at hE
 refine ACalls.of_wp (fn := Tryz.f96) (c := _) Tryz.tab_ok (fun _ _ => Tryz.call96 _ _) Tryz.func96 rfl (n := 13) rfl (rs := []) rfl rfl ?_
 refine AWp.heqA (h' := (H.set c0 (some (.cells (R12_work.c a0))))) (by funext n_; simp only [Heap.set]; (repeat' split) <;> simp_all) ?_
 refine seqK fun K1 hK1 => ?_
 refine region ?_
 refine s0 moveA rfl ?_
 refine s0 (nilP rfl) rfl ?_
 refine s0 (fieldP (TK rfl) rfl rfl (TK rfl) rfl rfl) rfl ?_
 refine s0 (loadP (TK rfl) rfl rfl hpG rfl) rfl ?_
 refine s0 (binI rfl rfl rfl) rfl ?_
 refine nil ?_
 refine hK1 _ ?_
 clear hK1 K1
 refine condE hE rfl (fun hc2 hE => ?_) (fun hc2 hE => ?_)
 ·refine region ?_
  refine s0 moveA rfl ?_
  refine s0 moveA rfl ?_
  refine s0 (nilP rfl) rfl ?_
  refine s0 (fieldP (TK rfl) rfl rfl (TK rfl) rfl rfl) rfl ?_
  refine sHn (storeP1 (TK rfl) rfl rfl hpG rfl (by repeat (first | exact SetAt.zero | apply SetAt.succ))) rfl rfl ?_
  refine AOps.heq (h' := (H.set c0 (some (.cells (R12_work.c (R12_work.mk a0.Fd a0.Fvars a0.Flit a0.Fcount a1)))))) (by first | rfl | (rw [Heap.set_set]; rfl) | (funext n_; simp only [Heap.set]; (repeat' split) <;> first | rfl | (exfalso; simp_all; done) | (simp_all; done))) ?_
  refine nil ?_
  repeat (first | refine xBlock_normal ?_ | refine xThen_exit ?_ | refine xBlock_exit ?_)
  obtain rfl := Option.some.inj hE
  refine retQ.normalF (H.set c0 (some (.cells (R12_work.c (R12_work.mk a0.Fd a0.Fvars a0.Flit a0.Fcount a1))))) (xs := []) rfl ⟨rfl, rfl⟩ ?_
  exact (fun _ _ h => h)
 refine AWp.skip ?_
 repeat (first | refine xBlock_normal ?_ | refine xThen_exit ?_ | refine xBlock_exit ?_)
 obtain rfl := Option.some.inj hE
 refine retQ.normalF (H.set c0 (some (.cells (R12_work.c a0)))) (xs := []) rfl ⟨rfl, rfl⟩ ?_
 exact (fun _ _ h => h)
def Z63_j1  (y2_c0 : R12_work) : Option R12_work := (addC y2_c0.Fcount (1 : Int)).bind fun x4 => bif (decide ((4096 : Int) < x4)) then ((Z61 (R12_work.mk y2_c0.Fd y2_c0.Fvars y2_c0.Flit x4 y2_c0.Ferr) (4 : Int)).bind fun x7 => some x7) else (some (R12_work.mk y2_c0.Fd y2_c0.Fvars y2_c0.Flit x4 y2_c0.Ferr))
def Z63 (a0 : R12_work) (a1 : Int) : Option R12_work := bif (decide ((24 : Int) < a1)) then ((Z61 a0 (5 : Int)).bind fun x10 => Z63_j1   x10) else (Z63_j1   a0)
theorem Z63_walk {a0 : R12_work} {a1 : Int}  {c0 : Nat} {r : R12_work} (hE : Z63 a0 a1 = some r) (H : Heap) (hc0 : H c0 = some (.cells (R12_work.c a0))) : ACalls Tryz.prog 98 [.d (.ptr c0 0), .d (.int .i64 a1)] H fun v h' => v = .tup [] ∧ h' = (H.set c0 (some (.cells (R12_work.c r)))) := by
 unfold Z63 at hE
 refine ACalls.of_wp (fn := Tryz.f98) (c := _) Tryz.tab_ok (fun _ _ => Tryz.call98 _ _) Tryz.func98 rfl (n := 22) rfl (rs := []) rfl rfl ?_
 refine AWp.heqA (h' := (H.set c0 (some (.cells (R12_work.c a0))))) (by funext n_; simp only [Heap.set]; (repeat' split) <;> simp_all) ?_
 refine seqJH (KeepsT.A (k := 0) KeepsT.nil) (fun (z : R12_work) => []) (fun z => (H.set c0 (some (.cells (R12_work.c z))))) (fun z => Z63_j1 z = some r) ?_ ?_
 ·intro K1 hK1
  refine seqK fun K8 hK8 => ?_
  refine region ?_
  refine s0 moveA rfl ?_
  refine s0 (binI rfl rfl rfl) rfl ?_
  refine nil ?_
  refine hK8 _ ?_
  clear hK8 K8
  refine condE hE rfl (fun hc9 hE => ?_) (fun hc9 hE => ?_)
  ·refine region ?_
   refine s0 moveA rfl ?_
   obtain ⟨x10, gx10, hE⟩ := bindO_some hE
   refine sH (callH rfl rfl (Z61_walk gx10 _ hpG)) rfl ?_
   refine AOps.heq (h' := (H.set c0 (some (.cells (R12_work.c x10))))) (by first | rfl | (rw [Heap.set_set]; rfl) | (funext n_; simp only [Heap.set]; (repeat' split) <;> first | rfl | (exfalso; simp_all; done) | (simp_all; done))) ?_
   refine nil ?_
   exact hK1 _ x10 Weak.toA hE
  refine AWp.skip ?_
  exact hK1 _ a0 Weak.toA hE
 rintro y2_c0 hE
 try dsimp only at hE
 unfold Z63_j1 at hE
 refine seqK fun K3 hK3 => ?_
 refine region ?_
 refine s0 moveA rfl ?_
 refine s0 (nilP rfl) rfl ?_
 refine s0 (fieldP (TK rfl) rfl rfl (TK rfl) rfl rfl) rfl ?_
 refine s0 (loadP (TK rfl) rfl rfl hpG rfl) rfl ?_
 obtain ⟨x4, gx4, hE⟩ := bindO_some hE
 refine s0 (addM rfl rfl gx4) rfl ?_
 refine s0 (nilP rfl) rfl ?_
 refine s0 (fieldP (TK rfl) rfl rfl (TK rfl) rfl rfl) rfl ?_
 refine sHn (storeP1 (TK rfl) rfl rfl hpG rfl (by repeat (first | exact SetAt.zero | apply SetAt.succ))) rfl rfl ?_
 refine AOps.heq (h' := (H.set c0 (some (.cells (R12_work.c (R12_work.mk y2_c0.Fd y2_c0.Fvars y2_c0.Flit x4 y2_c0.Ferr)))))) (by first | rfl | (rw [Heap.set_set]; rfl) | (funext n_; simp only [Heap.set]; (repeat' split) <;> first | rfl | (exfalso; simp_all; done) | (simp_all; done))) ?_
 refine nil ?_
 refine hK3 _ ?_
 clear hK3 K3
 refine seqK fun K5 hK5 => ?_
 refine region ?_
 refine s0 moveA rfl ?_
 refine s0 (nilP rfl) rfl ?_
 refine s0 (fieldP (TK rfl) rfl rfl (TK rfl) rfl rfl) rfl ?_
 refine s0 (loadP (TK rfl) rfl rfl hpG rfl) rfl ?_
 refine s0 (binI rfl rfl rfl) rfl ?_
 refine nil ?_
 refine hK5 _ ?_
 clear hK5 K5
 refine condE hE rfl (fun hc6 hE => ?_) (fun hc6 hE => ?_)
 ·refine region ?_
  refine s0 moveA rfl ?_
  obtain ⟨x7, gx7, hE⟩ := bindO_some hE
  refine sH (callH rfl rfl (Z61_walk gx7 _ hpG)) rfl ?_
  refine AOps.heq (h' := (H.set c0 (some (.cells (R12_work.c x7))))) (by first | rfl | (rw [Heap.set_set]; rfl) | (funext n_; simp only [Heap.set]; (repeat' split) <;> first | rfl | (exfalso; simp_all; done) | (simp_all; done))) ?_
  refine nil ?_
  repeat (first | refine xBlock_normal ?_ | refine xThen_exit ?_ | refine xBlock_exit ?_)
  obtain rfl := Option.some.inj hE
  refine retQ.normalF (H.set c0 (some (.cells (R12_work.c x7)))) (xs := []) rfl ⟨rfl, rfl⟩ ?_
  exact (fun _ _ h => h)
 refine AWp.skip ?_
 repeat (first | refine xBlock_normal ?_ | refine xThen_exit ?_ | refine xBlock_exit ?_)
 obtain rfl := Option.some.inj hE
 refine retQ.normalF (H.set c0 (some (.cells (R12_work.c (R12_work.mk y2_c0.Fd y2_c0.Fvars y2_c0.Flit x4 y2_c0.Ferr))))) (xs := []) rfl ⟨rfl, rfl⟩ ?_
 exact (fun _ _ h => h)
def Z67_j9  (y10_c0 : R12_work) (y11_l1 : TValue) : Option (TValue × R12_work) := some (y11_l1, y10_c0)
def Z67_l14 (a1 : TValue) (a2 : Int) (k_rec_97 : R12_work → TValue → Int → Option (TValue × R12_work)) : Nat → Nat → R12_work → TValue → Option (TValue × R12_work)
 | 0, _, _, _ => none
 | n14 + 1, s8_15, y16_c0, y17_l1 => bif ((decide (((s8_15 : Nat) : Int) < ((a1.FItems.l.length : Nat) : Int))) && (decide (y16_c0.Ferr = (0 : Int)))) then ((a1.FItems.l[s8_15]?).bind fun x24 => (addC a2 (1 : Int)).bind fun x25 => (k_rec_97 y16_c0 x24 x25).bind fun x26 => (appC 80 y17_l1.FItems (⟨false, [x26.1]⟩ : Sl TValue)).bind fun x27 => (Z67_l14 a1 a2 k_rec_97 n14) (s8_15 + 1) x26.2 (TValue.mk y17_l1.FKind y17_l1.FInt y17_l1.FText x27.nl x27.l y17_l1.FKeys)) else (Z67_j9   y16_c0 y17_l1)
def Z67_n : Nat → R12_work → TValue → Int → Option (TValue × R12_work)
 | 0, _, _, _ => none
 | n + 1, a0, a1, a2 => (Z63 a0 a2).bind fun x3 => (appC 16 ((TValue.mk a1.FKind a1.FInt a1.FText true ([]) (Sl.nil : Sl Bs)).FKeys) a1.FKeys).bind fun x8 => Z67_l14 a1 a2 (Z67_n n) (a1.FItems.l.length + 1) 0 x3 (TValue.mk ((TValue.mk a1.FKind a1.FInt a1.FText true ([]) (Sl.nil : Sl Bs)).FKind) ((TValue.mk a1.FKind a1.FInt a1.FText true ([]) (Sl.nil : Sl Bs)).FInt) ((TValue.mk a1.FKind a1.FInt a1.FText true ([]) (Sl.nil : Sl Bs)).FText) ((TValue.mk a1.FKind a1.FInt a1.FText true ([]) (Sl.nil : Sl Bs)).FItems).nl ((TValue.mk a1.FKind a1.FInt a1.FText true ([]) (Sl.nil : Sl Bs)).FItems).l x8)
theorem Z67_step (n : Nat) (ih_97 : ∀ {a0 : R12_work} {a1 : TValue} {a2 : Int}  {c0 : Nat} {r : (TValue × R12_work)}, Z67_n n a0 a1 a2 = some r → ∀ (H : Heap) (hc0 : H c0 = some (.cells (R12_work.c a0))), ACalls Tryz.prog 97 [.d (.ptr c0 0), .agg (TValue.c a1), .d (.int .i64 a2)] H fun v h' => v = .a (.agg (TValue.c r.1)) ∧ h' = (H.set c0 (some (.cells (R12_work.c r.2))))) : ∀ {a0 : R12_work} {a1 : TValue} {a2 : Int}  {c0 : Nat} {r : (TValue × R12_work)}, Z67_n (n + 1) a0 a1 a2 = some r → ∀ (H : Heap) (hc0 : H c0 = some (.cells (R12_work.c a0))), ACalls Tryz.prog 97 [.d (.ptr c0 0), .agg (TValue.c a1), .d (.int .i64 a2)] H fun v h' => v = .a (.agg (TValue.c r.1)) ∧ h' = (H.set c0 (some (.cells (R12_work.c r.2)))) := by
 intro a0 a1 a2  c0 r hE H hc0
 rw [Z67_n] at hE
 refine ACalls.of_wp (fn := Tryz.f97) (c := _) Tryz.tab_ok (fun _ _ => Tryz.call97 _ _) Tryz.func97 rfl (n := 56) rfl (rs := [.cell 6 31]) rfl rfl ?_
 refine AWp.heqA (h' := (H.set c0 (some (.cells (R12_work.c a0))))) (by funext n_; simp only [Heap.set]; (repeat' split) <;> simp_all) ?_
 refine seqK fun K1 hK1 => ?_
 refine region ?_
 refine s0 (boxV rfl) rfl ?_
 refine sL (allocLA (TK rfl) rfl) rfl ?_
 refine nil ?_
 refine hK1 _ ?_
 clear hK1 K1
 refine seqK fun K2 hK2 => ?_
 refine region ?_
 refine s0 moveA rfl ?_
 refine s0 moveA rfl ?_
 obtain ⟨x3, gx3, hE⟩ := bindO_some hE
 refine sH (callH rfl rfl (Z63_walk gx3 _ hpG)) rfl ?_
 refine AOps.heq (h' := (H.set c0 (some (.cells (R12_work.c x3))))) (by first | rfl | (rw [Heap.set_set]; rfl) | (funext n_; simp only [Heap.set]; (repeat' split) <;> first | rfl | (exfalso; simp_all; done) | (simp_all; done))) ?_
 refine nil ?_
 refine hK2 _ ?_
 clear hK2 K2
 refine seqK fun K4 hK4 => ?_
 refine region ?_
 refine s0 (fieldVA (TK rfl) rfl rfl (TK rfl) rfl rfl) rfl ?_
 refine s0 (loadV (TK rfl) rfl rfl rfl) rfl ?_
 refine s0 (fieldVA (TK rfl) rfl rfl (TK rfl) rfl rfl) rfl ?_
 refine s0 (loadV (TK rfl) rfl rfl rfl) rfl ?_
 refine s0 (fieldVA (TK rfl) rfl rfl (TK rfl) rfl rfl) rfl ?_
 refine s0 (loadV (TK rfl) rfl rfl rfl) rfl ?_
 refine s0 (build Tryz.tab_ok rfl rfl rfl rfl rfl rfl) rfl ?_
 refine sL (allocLA (TK rfl) rfl) rfl ?_
 refine AOps.tok 5 fun tk7_5 htk7_5 => ?_
 obtain ⟨ne_tk7_5_c0, htk7_5⟩ := Heap.set_fresh htk7_5
 refine AOps.relocal 1 _ rfl (fun j w cs hh hx => tok_cell 3 5 5 hh (t := tk7_5) hpG hx rfl) ?_
 refine AOps.tok 1 fun tk7_6 htk7_6 => ?_
 obtain ⟨ne_tk7_6_tk7_5, htk7_6⟩ := Heap.set_fresh htk7_6
 obtain ⟨ne_tk7_6_c0, htk7_6⟩ := Heap.set_fresh htk7_6
 refine AOps.relocal 1 _ rfl (fun j w cs hh hx => tok_cell 4 1 1 hh (t := tk7_6) hpG hx rfl) ?_
 refine sLn (storeLFA (TK rfl) rfl rfl rfl rfl rfl) ?_
 refine AOps.relocal 1 _ rfl (fun j w cs hh hx => tok_cell 3 5 5 hh (t := tk7_5) hpG hx rfl) ?_
 refine AOps.relocal 1 _ rfl (fun j w cs hh hx => tok_cell 4 1 1 hh (t := tk7_6) hpG hx rfl) ?_
 refine nil ?_
 refine hK4 _ ?_
 clear hK4 K4
 refine seqK fun K7 hK7 => ?_
 refine region ?_
 refine s0 (fieldL (TK rfl) rfl rfl (TK rfl) rfl rfl) rfl ?_
 refine s0 (loadL (TK rfl) rfl rfl rfl rfl) rfl ?_
 refine s0 (fieldVA (TK rfl) rfl rfl (TK rfl) rfl rfl) rfl ?_
 refine s0 (loadV (TK rfl) rfl rfl rfl) rfl ?_
 obtain ⟨x8, gx8, hE⟩ := bindO_some hE
 refine sH (appM (f := strE) (TK rfl) rfl (TK rfl) (TK rfl) ⟨_, rfl⟩ rfl rfl (by decide) rfl rfl rfl rfl hpG rfl gx8) rfl ?_
 refine AOps.heq (h' := (((H.set c0 (some (.cells (R12_work.c x3)))).set tk7_5 (some (.tok 5 0))).set tk7_6 (some (.tok 1 x8.l.length)))) (by first | rfl | (rw [Heap.set_set]; rfl) | (funext n_; simp only [Heap.set]; (repeat' split) <;> first | rfl | (exfalso; simp_all; done) | (simp_all; done))) ?_
 refine s0 (fieldL (TK rfl) rfl rfl (TK rfl) rfl rfl) rfl ?_
 refine sLn (storeL1 (TK rfl) rfl rfl rfl rfl (by repeat (first | exact SetAt.zero | apply SetAt.succ)) (by repeat (first | exact SetAt.zero | apply SetAt.succ))) ?_
 refine nil ?_
 refine hK7 _ ?_
 clear hK7 K7
 refine seqJ (KeepsT.A (k := 6) (KeepsT.A (k := 7) KeepsT.nil)) (fun (z : R12_work × TValue) => []) (fun z => [TValue.c TValue.zero, ((intE .i64) z.2.FKind ++ (intE .i64) z.2.FInt ++ strE z.2.FText ++ [Sl.d 5 TValue.c (some tk7_5) z.2.FItems] ++ [Sl.d 1 strE (some tk7_6) z.2.FKeys])]) (fun z => (((H.set c0 (some (.cells (R12_work.c z.1)))).set tk7_5 (some (.tok 5 z.2.FItems.l.length))).set tk7_6 (some (.tok 1 z.2.FKeys.l.length)))) (fun z => Z67_j9 z.1 z.2 = some r) ?_ ?_
 ·intro K9 hK9
  refine seqK fun K13 hK13 => ?_
  refine region ?_
  refine s0 assignA rfl ?_
  refine nil ?_
  refine hK13 _ ?_
  clear hK13 K13
  refine block ?_
  refine loopO (KeepsT.A (k := 0) (KeepsT.A (k := 2) (KeepsT.A (k := 4) (KeepsT.A (k := 6) (KeepsT.A (k := 7) KeepsT.nil))))) (fun (z : Nat × Nat × R12_work × TValue) => [(8, .a (.d (.int .i64 ((z.2.1 : Nat) : Int))))]) (fun z => [TValue.c TValue.zero, ((intE .i64) z.2.2.2.FKind ++ (intE .i64) z.2.2.2.FInt ++ strE z.2.2.2.FText ++ [Sl.d 5 TValue.c (some tk7_5) z.2.2.2.FItems] ++ [Sl.d 1 strE (some tk7_6) z.2.2.2.FKeys])]) (fun z => (((H.set c0 (some (.cells (R12_work.c z.2.2.1)))).set tk7_5 (some (.tok 5 z.2.2.2.FItems.l.length))).set tk7_6 (some (.tok 1 z.2.2.2.FKeys.l.length)))) (fun z => z.1) (fun z => Z67_l14 a1 a2 (Z67_n n) z.1 z.2.1 z.2.2.1 z.2.2.2 = some r) ((a1.FItems.l.length + 1), 0, x3, (TValue.mk ((TValue.mk a1.FKind a1.FInt a1.FText true ([]) (Sl.nil : Sl Bs)).FKind) ((TValue.mk a1.FKind a1.FInt a1.FText true ([]) (Sl.nil : Sl Bs)).FInt) ((TValue.mk a1.FKind a1.FInt a1.FText true ([]) (Sl.nil : Sl Bs)).FText) ((TValue.mk a1.FKind a1.FInt a1.FText true ([]) (Sl.nil : Sl Bs)).FItems).nl ((TValue.mk a1.FKind a1.FInt a1.FText true ([]) (Sl.nil : Sl Bs)).FItems).l x8)) hE Weak.toA ?_
  rintro ⟨n14, s8_15, y16_c0, y17_l1⟩ hE K14 hK14
  try dsimp only at hE
  cases n14 with
  | zero => cases hE
  | succ n14 =>
    rw [Z67_l14] at hE
    refine seqK fun K18 hK18 => ?_
    refine seqK fun K19 hK19 => ?_
    refine region ?_
    refine s0 moveA rfl ?_
    refine s0 (fieldVA (TK rfl) rfl rfl (TK rfl) rfl rfl) rfl ?_
    refine s0 (loadV (TK rfl) rfl rfl (congrArg (fun x => some (A.d x)) (TValue.FItemsD_eq _))) rfl ?_
    refine sLen (f := TValue.c) (s := a1.FItems) (TK rfl) rfl rfl rfl rfl fun hL20 => ?_
    refine s0 (binI rfl rfl rfl) rfl ?_
    refine s0 moveA rfl ?_
    refine gC rfl rfl (fun hC => moveA) rfl ?_
    refine gC rfl rfl (fun hC => ungdA (k := 32) rfl (nilP rfl)) rfl ?_
    refine gC rfl rfl (fun hC => ungdA (k := 33) rfl (fieldP (TK rfl) rfl rfl (TK rfl) rfl rfl)) rfl ?_
    refine gC rfl rfl (fun hC => ungdA (k := 34) rfl (loadP (TK rfl) rfl rfl hpG rfl)) rfl ?_
    refine gC rfl rfl (fun hC => ungdA (k := 35) rfl (binI rfl rfl rfl)) rfl ?_
    refine s0 (pickAndA rfl rfl rfl) rfl ?_
    refine nil ?_
    refine hK19 _ ?_
    clear hK19 K19
    refine condE hE rfl (fun hc21 hE => ?_) (fun hc21 hE => ?_)
    ·try dsimp only at hc21
     have hf21 := of_decide_eq_true (and_left hc21)
     refine AWp.skip ?_
     refine hK18 _ ?_
     clear hK18 K18
     refine seqK fun K22 hK22 => ?_
     refine block ?_
     refine seqK fun K23 hK23 => ?_
     refine region ?_
     refine s0 moveA rfl ?_
     refine s0 (fieldVA (TK rfl) rfl rfl (TK rfl) rfl rfl) rfl ?_
     refine s0 (loadV (TK rfl) rfl rfl (congrArg (fun x => some (A.d x)) (TValue.FItemsD_eq _))) rfl ?_
     refine s0 moveA rfl ?_
     obtain ⟨x24, gx24, hE⟩ := bindO_some hE
     refine s0 (idxMn (f := TValue.c) (n := s8_15) (TK rfl) rfl (TK rfl) rfl rfl rfl gx24) rfl ?_
     refine s0 (loadV (TK rfl) rfl rfl rfl) rfl ?_
     refine s0 moveA rfl ?_
     obtain ⟨x25, gx25, hE⟩ := bindO_some hE
     refine s0 (addM rfl rfl gx25) rfl ?_
     obtain ⟨x26, gx26, hE⟩ := bindO_some hE
     refine sH (callH rfl rfl (ih_97 gx26 _ hpG)) rfl ?_
     refine AOps.heq (h' := (((H.set c0 (some (.cells (R12_work.c x26.2)))).set tk7_5 (some (.tok 5 y17_l1.FItems.l.length))).set tk7_6 (some (.tok 1 y17_l1.FKeys.l.length)))) (by first | rfl | (rw [Heap.set_set]; rfl) | (funext n_; simp only [Heap.set]; (repeat' split) <;> first | rfl | (exfalso; simp_all; done) | (simp_all; done))) ?_
     refine sL (allocLA (TK rfl) rfl) rfl ?_
     refine sLn (storeLFA (TK rfl) rfl rfl rfl rfl rfl) ?_
     refine nil ?_
     refine hK23 _ ?_
     clear hK23 K23
     refine freezeA 9 _ rfl (Keeps.c (k := 0) (by conv => lhs; whnf) (by rfl) (Keeps.c (k := 2) (by conv => lhs; whnf) (by rfl) (Keeps.c (k := 4) (by conv => lhs; whnf) (by rfl) (Keeps.c (k := 6) (by conv => lhs; whnf) (by rfl) (Keeps.c (k := 7) (by conv => lhs; whnf) (by rfl) (Keeps.c (k := 8) (by conv => lhs; whnf) (by rfl) Keeps.nil)))))) ?_
     refine region ?_
     refine s0 (fieldL (TK rfl) rfl rfl (TK rfl) rfl rfl) rfl ?_
     refine s0 (loadL (TK rfl) rfl rfl rfl rfl) rfl ?_
     refine s0 (loadV (TK rfl) rfl rfl rfl) rfl ?_
     refine s0 (buildSlice (TK rfl) rfl (TK rfl) rfl rfl rfl rfl rfl rfl) rfl ?_
     obtain ⟨x27, gx27, hE⟩ := bindO_some hE
     refine sH (appM (f := TValue.c) (TK rfl) rfl (TK rfl) (TK rfl) ⟨_, rfl⟩ rfl rfl (by decide) rfl rfl rfl rfl hpG rfl gx27) rfl ?_
     refine AOps.heq (h' := (((H.set c0 (some (.cells (R12_work.c x26.2)))).set tk7_5 (some (.tok 5 x27.l.length))).set tk7_6 (some (.tok 1 y17_l1.FKeys.l.length)))) (by first | rfl | (rw [Heap.set_set]; rfl) | (funext n_; simp only [Heap.set]; (repeat' split) <;> first | rfl | (exfalso; simp_all; done) | (simp_all; done))) ?_
     refine s0 (fieldL (TK rfl) rfl rfl (TK rfl) rfl rfl) rfl ?_
     refine sLn (storeL1 (TK rfl) rfl rfl rfl rfl (by repeat (first | exact SetAt.zero | apply SetAt.succ)) (by repeat (first | exact SetAt.zero | apply SetAt.succ))) ?_
     refine nil ?_
     refine hK22 _ ?_
     clear hK22 K22
     refine region ?_
     refine s0 moveA rfl ?_
     refine s0 (addIA rfl rfl) rfl ?_
     refine s0 assignA rfl ?_
     refine nil ?_
     exact hK14 _ (n14, (s8_15 + 1), x26.2, (TValue.mk y17_l1.FKind y17_l1.FInt y17_l1.FText x27.nl x27.l y17_l1.FKeys)) Weak.toA hE (Nat.lt_succ_self _)
    refine AWp.exit ?_
    exact hK9 _ (y16_c0, y17_l1) Weak.toA hE
 rintro ⟨y10_c0, y11_l1⟩ hE
 try dsimp only at hE
 unfold Z67_j9 at hE
 refine seqK fun K12 hK12 => ?_
 refine AWp.relocal 1 _ rfl (fun j w cs hh hx => untok_cell 3 hx rfl) ?_
 refine AWp.relocal 1 _ rfl (fun j w cs hh hx => untok_cell 4 hx rfl) ?_
 refine AWp.relocal 1 (TValue.c y11_l1) rfl (fun j w cs hh hx => by rw [TValue.cu_eq]; exact hx) ?_
 refine region ?_
 refine s0 (loadL (TK rfl) rfl rfl rfl rfl) rfl ?_
 refine sLn (storeLFA (TK rfl) rfl rfl rfl rfl rfl) ?_
 refine nil ?_
 refine hK12 _ ?_
 clear hK12 K12
 refine AWp.ret ?_
 repeat (first | refine xBlock_ret ?_ | refine xThen_ret ?_)
 obtain rfl := Option.some.inj hE
 refine retQ.retF (H.set c0 (some (.cells (R12_work.c y10_c0)))) rfl ⟨rfl, rfl⟩ ?_
 intro id_ o_ he_
 have e_tk7_5 : id_ ≠ tk7_5 := fun e_ => by subst e_; simp_all [Heap.set]
 have e_tk7_6 : id_ ≠ tk7_6 := fun e_ => by subst e_; simp_all [Heap.set]
 rw [← he_]
 simp only [Heap.set] at he_ ⊢
 (repeat' split) <;> simp_all
theorem Z67_all : ∀ (n : Nat), (∀ {a0 : R12_work} {a1 : TValue} {a2 : Int}  {c0 : Nat} {r : (TValue × R12_work)}, Z67_n n a0 a1 a2 = some r → ∀ (H : Heap) (hc0 : H c0 = some (.cells (R12_work.c a0))), ACalls Tryz.prog 97 [.d (.ptr c0 0), .agg (TValue.c a1), .d (.int .i64 a2)] H fun v h' => v = .a (.agg (TValue.c r.1)) ∧ h' = (H.set c0 (some (.cells (R12_work.c r.2)))))
 | 0 => fun hE => by first | cases hE | (rw [Z67_n] at hE; cases hE)
 | n + 1 => Z67_step n (Z67_all n)
def Z67 (a0 : R12_work) (a1 : TValue) (a2 : Int) : Option (TValue × R12_work) := Z67_n F0 a0 a1 a2
theorem Z67_walk {a0 : R12_work} {a1 : TValue} {a2 : Int}  {c0 : Nat} {r : (TValue × R12_work)} (hE : Z67 a0 a1 a2 = some r) (H : Heap) (hc0 : H c0 = some (.cells (R12_work.c a0))) : ACalls Tryz.prog 97 [.d (.ptr c0 0), .agg (TValue.c a1), .d (.int .i64 a2)] H fun v h' => v = .a (.agg (TValue.c r.1)) ∧ h' = (H.set c0 (some (.cells (R12_work.c r.2)))) := (Z67_all F0) hE H hc0
def Z39 (a0 : TRef) : Option TRef := (partC a0.FWraps (some (1 : Int)) none).bind fun x3 => (appC 8 (⟨false, []⟩ : Sl Int) x3).bind fun x4 => some (TRef.mk a0.FName x4)
theorem Z39_walk {a0 : TRef}   {r : TRef} (hE : Z39 a0 = some r) (H : Heap)  : ACalls Tryz.prog 116 [.agg (TRef.c a0)] H fun v h' => v = .a (.agg (TRef.c r)) ∧ h' = H := by
 unfold Z39 at hE
 refine ACalls.of_wp (fn := Tryz.f116) (c := _) Tryz.tab_ok (fun _ _ => Tryz.call116 _ _) Tryz.func116 rfl (n := 11) rfl (rs := [.cell 2 27]) rfl rfl ?_
 refine seqK fun K1 hK1 => ?_
 refine region ?_
 refine s0 (boxV rfl) rfl ?_
 refine sL (allocLA (TK rfl) rfl) rfl ?_
 refine nil ?_
 refine hK1 _ ?_
 clear hK1 K1
 refine seqK fun K2 hK2 => ?_
 refine AWp.draw rfl ?_
 refine DOps.s0 (fieldVA (TK rfl) rfl rfl (TK rfl) rfl rfl) rfl ?_
 refine DOps.s0 (loadV (TK rfl) rfl rfl rfl) rfl ?_
 refine DOps.s0 (buildSliceF (TK rfl) rfl (TK rfl) rfl rfl rfl rfl rfl rfl) rfl ?_
 refine DOps.s0 (fieldVA (TK rfl) rfl rfl (TK rfl) rfl rfl) rfl ?_
 refine DOps.s0 (loadV (TK rfl) rfl rfl rfl) rfl ?_
 obtain ⟨x3, gx3, hE⟩ := bindO_some hE
 refine DOps.s0 (partM (f := (intE .i64)) (l := (some (1 : Int))) (r := none) (TK rfl) rfl (TK rfl) rfl rfl rfl trivial gx3) rfl ?_
 obtain ⟨x4, gx4, hE⟩ := bindO_some hE
 refine DOps.s0 (appFM (f := (intE .i64)) (TK rfl) rfl (TK rfl) (TK rfl) ⟨_, rfl⟩ rfl rfl (by decide) rfl rfl rfl (by intro q h; cases h <;> decide) rfl rfl gx4) rfl ?_
 refine DOps.s0 (build Tryz.tab_ok rfl rfl rfl rfl rfl rfl) rfl ?_
 refine DOps.sLn (storeLFA (TK rfl) rfl rfl rfl rfl rfl) ?_
 refine DOps.nil (by decide +kernel) ?_
 refine hK2 _ ?_
 clear hK2 K2
 refine AWp.ret ?_
 repeat (first | refine xBlock_ret ?_ | refine xThen_ret ?_)
 obtain rfl := Option.some.inj hE
 refine retQ.retF H rfl ⟨rfl, rfl⟩ ?_
 exact (fun _ _ h => h)
def Z37 (a0 : TRef) : Option TRef := (Z36 a0).bind fun x4 => bif x4 then ((Z39 a0).bind fun x7 => some x7) else ((appC 8 (⟨false, []⟩ : Sl Int) a0.FWraps).bind fun x9 => some (TRef.mk a0.FName x9))
theorem Z37_walk {a0 : TRef}   {r : TRef} (hE : Z37 a0 = some r) (H : Heap)  : ACalls Tryz.prog 117 [.agg (TRef.c a0)] H fun v h' => v = .a (.agg (TRef.c r)) ∧ h' = H := by
 unfold Z37 at hE
 refine ACalls.of_wp (fn := Tryz.f117) (c := _) Tryz.tab_ok (fun _ _ => Tryz.call117 _ _) Tryz.func117 rfl (n := 14) rfl (rs := [.cell 2 27]) rfl rfl ?_
 refine seqK fun K1 hK1 => ?_
 refine region ?_
 refine s0 (boxV rfl) rfl ?_
 refine sL (allocLA (TK rfl) rfl) rfl ?_
 refine nil ?_
 refine hK1 _ ?_
 clear hK1 K1
 refine seqK fun K2 hK2 => ?_
 refine seqK fun K3 hK3 => ?_
 refine region ?_
 refine s0 (loadV (TK rfl) rfl rfl rfl) rfl ?_
 obtain ⟨x4, gx4, hE⟩ := bindO_some hE
 refine s0 (callP rfl rfl (fun H => Z36_walk gx4 H)) rfl ?_
 refine nil ?_
 refine hK3 _ ?_
 clear hK3 K3
 refine condE hE rfl (fun hc5 hE => ?_) (fun hc5 hE => ?_)
 ·refine seqK fun K6 hK6 => ?_
  refine region ?_
  refine s0 (loadV (TK rfl) rfl rfl rfl) rfl ?_
  obtain ⟨x7, gx7, hE⟩ := bindO_some hE
  refine s0 (callP rfl rfl (fun H => Z39_walk gx7 H)) rfl ?_
  refine sLn (storeLFA (TK rfl) rfl rfl rfl rfl rfl) ?_
  refine nil ?_
  refine hK6 _ ?_
  clear hK6 K6
  refine AWp.ret ?_
  repeat (first | refine xBlock_ret ?_ | refine xThen_ret ?_)
  obtain rfl := Option.some.inj hE
  refine retQ.retF H rfl ⟨rfl, rfl⟩ ?_
  exact (fun _ _ h => h)
 refine AWp.skip ?_
 refine hK2 _ ?_
 clear hK2 K2
 refine seqK fun K8 hK8 => ?_
 refine AWp.draw rfl ?_
 refine DOps.s0 (fieldVA (TK rfl) rfl rfl (TK rfl) rfl rfl) rfl ?_
 refine DOps.s0 (loadV (TK rfl) rfl rfl rfl) rfl ?_
 refine DOps.s0 (buildSliceF (TK rfl) rfl (TK rfl) rfl rfl rfl rfl rfl rfl) rfl ?_
 refine DOps.s0 (fieldVA (TK rfl) rfl rfl (TK rfl) rfl rfl) rfl ?_
 refine DOps.s0 (loadV (TK rfl) rfl rfl rfl) rfl ?_
 obtain ⟨x9, gx9, hE⟩ := bindO_some hE
 refine DOps.s0 (appFM (f := (intE .i64)) (TK rfl) rfl (TK rfl) (TK rfl) ⟨_, rfl⟩ rfl rfl (by decide) rfl rfl rfl (by intro q h; cases h <;> decide) rfl rfl gx9) rfl ?_
 refine DOps.s0 (build Tryz.tab_ok rfl rfl rfl rfl rfl rfl) rfl ?_
 refine DOps.sLn (storeLFA (TK rfl) rfl rfl rfl rfl rfl) ?_
 refine DOps.nil (by decide +kernel) ?_
 refine hK8 _ ?_
 clear hK8 K8
 refine AWp.ret ?_
 repeat (first | refine xBlock_ret ?_ | refine xThen_ret ?_)
 obtain rfl := Option.some.inj hE
 refine retQ.retF H rfl ⟨rfl, rfl⟩ ?_
 exact (fun _ _ h => h)
def Z35 (a0 : TRef) : Option Bool := (Z37 a0).bind fun x3 => guardO ((decide ((0 : Int) < ((x3.FWraps.l.length : Nat) : Int)))) (x3.FWraps.l[0]?) (0 : Int) fun x6 => some ((decide ((0 : Int) < ((x3.FWraps.l.length : Nat) : Int))) && (decide (x6 = (2 : Int))))
theorem Z35_walk {a0 : TRef}   {r : Bool} (hE : Z35 a0 = some r) (H : Heap)  : ACalls Tryz.prog 115 [.agg (TRef.c a0)] H fun v h' => v = .a (.d (.bool r)) ∧ h' = H := by
 unfold Z35 at hE
 refine ACalls.of_wp (fn := Tryz.f115) (c := _) Tryz.tab_ok (fun _ _ => Tryz.call115 _ _) Tryz.func115 rfl (n := 17) rfl (rs := [.tmp 2]) rfl rfl ?_
 refine seqK fun K1 hK1 => ?_
 refine region ?_
 refine s0 (boxV rfl) rfl ?_
 refine s0 assignA rfl ?_
 refine nil ?_
 refine hK1 _ ?_
 clear hK1 K1
 refine seqK fun K2 hK2 => ?_
 refine region ?_
 refine s0 (loadV (TK rfl) rfl rfl rfl) rfl ?_
 obtain ⟨x3, gx3, hE⟩ := bindO_some hE
 refine s0 (callP rfl rfl (fun H => Z37_walk gx3 H)) rfl ?_
 refine sL (allocLA (TK rfl) rfl) rfl ?_
 refine sLn (storeLFA (TK rfl) rfl rfl rfl rfl rfl) ?_
 refine nil ?_
 refine hK2 _ ?_
 clear hK2 K2
 refine freezeA 3 _ rfl Keeps.nil ?_
 refine seqK fun K4 hK4 => ?_
 refine region ?_
 refine s0 (fieldVA (TK rfl) rfl rfl (TK rfl) rfl rfl) rfl ?_
 refine s0 (loadV (TK rfl) rfl rfl rfl) rfl ?_
 refine sLen (f := (intE .i64)) (s := x3.FWraps) (TK rfl) rfl rfl rfl rfl fun hL5 => ?_
 refine s0 (binI rfl rfl rfl) rfl ?_
 refine s0 moveA rfl ?_
 refine gC rfl rfl (fun hC => fieldVA (TK rfl) rfl rfl (TK rfl) rfl rfl) rfl ?_
 refine gC rfl rfl (fun hC => ungdA (k := 11) rfl (loadV (TK rfl) rfl rfl rfl)) rfl ?_
 obtain ⟨x6, gx6, hE⟩ := guardO_some hE
 refine gC rfl rfl (fun hC => ungdA (k := 12) rfl (idxMn (f := (intE .i64)) (n := 0) (TK rfl) rfl (TK rfl) rfl rfl rfl (gx6 hC))) rfl ?_
 refine gC rfl rfl (fun hC => ungdA (k := 13) rfl (loadV (TK rfl) rfl rfl rfl)) rfl ?_
 refine gC rfl rfl (fun hC => ungdA (k := 14) rfl (binI rfl rfl rfl)) rfl ?_
 refine s0 (pickAndA rfl rfl rfl) rfl ?_
 refine s0 assignA rfl ?_
 refine nil ?_
 refine hK4 _ ?_
 clear hK4 K4
 refine AWp.ret ?_
 repeat (first | refine xBlock_ret ?_ | refine xThen_ret ?_)
 obtain rfl := Option.some.inj hE
 refine retQ.retF H rfl ⟨rfl, rfl⟩ ?_
 exact (fun _ _ h => h)
def Z34 (a0 : TRef) : Option (TRef × Bool) := (Z35 a0).bind fun x4 => bif (!x4) then (some ((TRef.mk ([] : Bs) (Sl.nil : Sl Int)), false)) else ((Z37 a0).bind fun x8 => (Z39 x8).bind fun x9 => some (x9, true))
theorem Z34_walk {a0 : TRef}   {r : (TRef × Bool)} (hE : Z34 a0 = some r) (H : Heap)  : ACalls Tryz.prog 99 [.agg (TRef.c a0)] H fun v h' => v = .tup [.agg (TRef.c r.1), .d (.bool r.2)] ∧ h' = H := by
 unfold Z34 at hE
 refine ACalls.of_wp (fn := Tryz.f99) (c := _) Tryz.tab_ok (fun _ _ => Tryz.call99 _ _) Tryz.func99 rfl (n := 11) rfl (rs := [.cell 2 27, .tmp 3]) rfl rfl ?_
 refine seqK fun K1 hK1 => ?_
 refine region ?_
 refine s0 (boxV rfl) rfl ?_
 refine sL (allocLA (TK rfl) rfl) rfl ?_
 refine s0 assignA rfl ?_
 refine nil ?_
 refine hK1 _ ?_
 clear hK1 K1
 refine seqK fun K2 hK2 => ?_
 refine seqK fun K3 hK3 => ?_
 refine region ?_
 refine s0 (loadV (TK rfl) rfl rfl rfl) rfl ?_
 obtain ⟨x4, gx4, hE⟩ := bindO_some hE
 refine s0 (callP rfl rfl (fun H => Z35_walk gx4 H)) rfl ?_
 refine s0 (notB rfl) rfl ?_
 refine nil ?_
 refine hK3 _ ?_
 clear hK3 K3
 refine condE hE rfl (fun hc5 hE => ?_) (fun hc5 hE => ?_)
 ·refine seqK fun K6 hK6 => ?_
  refine region ?_
  refine s0 (build Tryz.tab_ok rfl rfl rfl rfl rfl rfl) rfl ?_
  refine sLn (storeLFA (TK rfl) rfl rfl rfl rfl rfl) ?_
  refine s0 assignA rfl ?_
  refine nil ?_
  refine hK6 _ ?_
  clear hK6 K6
  refine AWp.ret ?_
  repeat (first | refine xBlock_ret ?_ | refine xThen_ret ?_)
  obtain rfl := Option.some.inj hE
  refine retQ.retF H rfl ⟨rfl, rfl⟩ ?_
  exact (fun _ _ h => h)
 refine AWp.skip ?_
 refine hK2 _ ?_
 clear hK2 K2
 refine seqK fun K7 hK7 => ?_
 refine region ?_
 refine s0 (loadV (TK rfl) rfl rfl rfl) rfl ?_
 obtain ⟨x8, gx8, hE⟩ := bindO_some hE
 refine s0 (callP rfl rfl (fun H => Z37_walk gx8 H)) rfl ?_
 obtain ⟨x9, gx9, hE⟩ := bindO_some hE
 refine s0 (callP rfl rfl (fun H => Z39_walk gx9 H)) rfl ?_
 refine sLn (storeLFA (TK rfl) rfl rfl rfl rfl rfl) ?_
 refine s0 assignA rfl ?_
 refine nil ?_
 refine hK7 _ ?_
 clear hK7 K7
 refine AWp.ret ?_
 repeat (first | refine xBlock_ret ?_ | refine xThen_ret ?_)
 obtain rfl := Option.some.inj hE
 refine retQ.retF H rfl ⟨rfl, rfl⟩ ?_
 exact (fun _ _ h => h)
def Z23_n : Nat → Int → Option Bs
 | 0, _ => none
 | n + 1, a0 => (subC (48 : Int) (Int.tmod a0 (10 : Int))).bind fun x3 => bif (decide ((-10 : Int) < a0)) then (some (bytesC (⟨false, [(IntKind.wrap .u8 x3)]⟩ : Sl Int))) else (((Z23_n n) (IntKind.wrap .i64 (Int.tdiv a0 (10 : Int)))).bind fun x9 => (catC x9 (bytesC (⟨false, [(IntKind.wrap .u8 x3)]⟩ : Sl Int))).bind fun x10 => some x10)
theorem Z23_step (n : Nat) (ih_123 : ∀ {a0 : Int}   {r : Bs}, Z23_n n a0 = some r → ∀ (H : Heap), ACalls Tryz.prog 123 [.d (.int .i64 a0)] H fun v h' => v = .a (.d (.str r)) ∧ h' = H) : ∀ {a0 : Int}   {r : Bs}, Z23_n (n + 1) a0 = some r → ∀ (H : Heap), ACalls Tryz.prog 123 [.d (.int .i64 a0)] H fun v h' => v = .a (.d (.str r)) ∧ h' = H := by
 intro a0   r hE H 
 rw [Z23_n] at hE
 refine ACalls.of_wp (fn := Tryz.f123) (c := _) Tryz.tab_ok (fun _ _ => Tryz.call123 _ _) Tryz.func123 rfl (n := 18) rfl (rs := [.tmp 2]) rfl rfl ?_
 refine seqK fun K1 hK1 => ?_
 refine region ?_
 refine s0 assignA rfl ?_
 refine nil ?_
 refine hK1 _ ?_
 clear hK1 K1
 refine seqK fun K2 hK2 => ?_
 refine region ?_
 refine s0 moveA rfl ?_
 refine s0 (remI rfl rfl (by decide)) rfl ?_
 obtain ⟨x3, gx3, hE⟩ := bindO_some hE
 refine s0 (subM rfl rfl gx3) rfl ?_
 refine s0 (convI (TK rfl) (TK rfl) rfl rfl) rfl ?_
 refine s0 (buildSlice (TK rfl) rfl (TK rfl) rfl rfl rfl rfl rfl rfl) rfl ?_
 refine s0 (convB (y := (⟨false, [(IntKind.wrap .u8 x3)]⟩ : Sl Int)) (TK rfl) rfl (TK rfl) rfl (TK rfl) rfl rfl) rfl ?_
 refine s0 assignA rfl ?_
 refine nil ?_
 refine hK2 _ ?_
 clear hK2 K2
 refine seqK fun K4 hK4 => ?_
 refine seqK fun K5 hK5 => ?_
 refine region ?_
 refine s0 moveA rfl ?_
 refine s0 (binI rfl rfl rfl) rfl ?_
 refine nil ?_
 refine hK5 _ ?_
 clear hK5 K5
 refine condE hE rfl (fun hc6 hE => ?_) (fun hc6 hE => ?_)
 ·refine seqK fun K7 hK7 => ?_
  refine region ?_
  refine s0 moveA rfl ?_
  refine s0 assignA rfl ?_
  refine nil ?_
  refine hK7 _ ?_
  clear hK7 K7
  refine AWp.ret ?_
  repeat (first | refine xBlock_ret ?_ | refine xThen_ret ?_)
  obtain rfl := Option.some.inj hE
  refine retQ.retF H rfl ⟨rfl, rfl⟩ ?_
  exact (fun _ _ h => h)
 refine AWp.skip ?_
 refine hK4 _ ?_
 clear hK4 K4
 refine seqK fun K8 hK8 => ?_
 refine region ?_
 refine s0 moveA rfl ?_
 refine s0 (quoI rfl rfl (by decide)) rfl ?_
 obtain ⟨x9, gx9, hE⟩ := bindO_some hE
 refine s0 (callP rfl rfl (fun H => ih_123 gx9 H)) rfl ?_
 refine s0 moveA rfl ?_
 obtain ⟨x10, gx10, hE⟩ := bindO_some hE
 refine s0 (catM rfl rfl gx10) rfl ?_
 refine s0 assignA rfl ?_
 refine nil ?_
 refine hK8 _ ?_
 clear hK8 K8
 refine AWp.ret ?_
 repeat (first | refine xBlock_ret ?_ | refine xThen_ret ?_)
 obtain rfl := Option.some.inj hE
 refine retQ.retF H rfl ⟨rfl, rfl⟩ ?_
 exact (fun _ _ h => h)
theorem Z23_all : ∀ (n : Nat), (∀ {a0 : Int}   {r : Bs}, Z23_n n a0 = some r → ∀ (H : Heap), ACalls Tryz.prog 123 [.d (.int .i64 a0)] H fun v h' => v = .a (.d (.str r)) ∧ h' = H)
 | 0 => fun hE => by first | cases hE | (rw [Z23_n] at hE; cases hE)
 | n + 1 => Z23_step n (Z23_all n)
def Z23 (a0 : Int) : Option Bs := Z23_n F0 a0
theorem Z23_walk {a0 : Int}   {r : Bs} (hE : Z23 a0 = some r) (H : Heap)  : ACalls Tryz.prog 123 [.d (.int .i64 a0)] H fun v h' => v = .a (.d (.str r)) ∧ h' = H := (Z23_all F0) hE H 
def Z20 (a0 : Int) : Option Bs := bif (decide (a0 < (0 : Int))) then ((Z23 a0).bind fun x6 => (catC ([45] : Bs) x6).bind fun x7 => some x7) else ((Z23 (IntKind.wrap .i64 (0 - a0))).bind fun x9 => some x9)
theorem Z20_walk {a0 : Int}   {r : Bs} (hE : Z20 a0 = some r) (H : Heap)  : ACalls Tryz.prog 118 [.d (.int .i64 a0)] H fun v h' => v = .a (.d (.str r)) ∧ h' = H := by
 unfold Z20 at hE
 refine ACalls.of_wp (fn := Tryz.f118) (c := _) Tryz.tab_ok (fun _ _ => Tryz.call118 _ _) Tryz.func118 rfl (n := 11) rfl (rs := [.tmp 2]) rfl rfl ?_
 refine seqK fun K1 hK1 => ?_
 refine region ?_
 refine s0 assignA rfl ?_
 refine nil ?_
 refine hK1 _ ?_
 clear hK1 K1
 refine seqK fun K2 hK2 => ?_
 refine seqK fun K3 hK3 => ?_
 refine region ?_
 refine s0 moveA rfl ?_
 refine s0 (binI rfl rfl rfl) rfl ?_
 refine nil ?_
 refine hK3 _ ?_
 clear hK3 K3
 refine condE hE rfl (fun hc4 hE => ?_) (fun hc4 hE => ?_)
 ·refine seqK fun K5 hK5 => ?_
  refine region ?_
  refine s0 moveA rfl ?_
  obtain ⟨x6, gx6, hE⟩ := bindO_some hE
  refine s0 (callP rfl rfl (fun H => Z23_walk gx6 H)) rfl ?_
  obtain ⟨x7, gx7, hE⟩ := bindO_some hE
  refine s0 (catM rfl rfl gx7) rfl ?_
  refine s0 assignA rfl ?_
  refine nil ?_
  refine hK5 _ ?_
  clear hK5 K5
  refine AWp.ret ?_
  repeat (first | refine xBlock_ret ?_ | refine xThen_ret ?_)
  obtain rfl := Option.some.inj hE
  refine retQ.retF H rfl ⟨rfl, rfl⟩ ?_
  exact (fun _ _ h => h)
 refine AWp.skip ?_
 refine hK2 _ ?_
 clear hK2 K2
 refine seqK fun K8 hK8 => ?_
 refine region ?_
 refine s0 moveA rfl ?_
 refine s0 (negI rfl) rfl ?_
 obtain ⟨x9, gx9, hE⟩ := bindO_some hE
 refine s0 (callP rfl rfl (fun H => Z23_walk gx9 H)) rfl ?_
 refine s0 assignA rfl ?_
 refine nil ?_
 refine hK8 _ ?_
 clear hK8 K8
 refine AWp.ret ?_
 repeat (first | refine xBlock_ret ?_ | refine xThen_ret ?_)
 obtain rfl := Option.some.inj hE
 refine retQ.retF H rfl ⟨rfl, rfl⟩ ?_
 exact (fun _ _ h => h)
def Z66_j2 (a0 : R12_work)  (y3_l0 : TValue) : Option (TValue × R12_work) := (Z61 a0 (23 : Int)).bind fun x5 => some ((TValue.mk (0 : Int) (0 : Int) ([] : Bs) true ([]) (Sl.nil : Sl Bs)), x5)
def Z66_j10 (a0 : R12_work) (a1 : Bs) (a2 : TValue)  (s26_11 : Bool) : Option (TValue × R12_work) := bif s26_11 then (some (a2, a0)) else (bif (((a1 == ([73, 68] : Bs))) && (decide (a2.FKind = (2 : Int)))) then ((Z20 a2.FInt).bind fun x17 => some ((TValue.mk (3 : Int) (0 : Int) x17 true ([]) (Sl.nil : Sl Bs)), a0)) else (Z66_j2 a0  TValue.zero))
def Z66 (a0 : R12_work) (a1 : Bs) (a2 : TValue) : Option (TValue × R12_work) := bif (((((a1 == ([73, 110, 116] : Bs))) && (decide (a2.FKind = (2 : Int)))) && (decide ((-2147483648 : Int) ≤ a2.FInt))) && (decide (a2.FInt < (2147483648 : Int)))) then (some (a2, a0)) else (bif (((a1 == ([83, 116, 114, 105, 110, 103] : Bs))) && (decide (a2.FKind = (3 : Int)))) then (Z66_j10 a0 a1 a2  (((a1 == ([83, 116, 114, 105, 110, 103] : Bs))) && (decide (a2.FKind = (3 : Int))))) else (bif (((a1 == ([66, 111, 111, 108, 101, 97, 110] : Bs))) && (decide (a2.FKind = (1 : Int)))) then (Z66_j10 a0 a1 a2  (((a1 == ([66, 111, 111, 108, 101, 97, 110] : Bs))) && (decide (a2.FKind = (1 : Int))))) else (Z66_j10 a0 a1 a2  (((a1 == ([73, 68] : Bs))) && (decide (a2.FKind = (3 : Int)))))))
theorem Z66_walk {a0 : R12_work} {a1 : Bs} {a2 : TValue}  {c0 : Nat} {r : (TValue × R12_work)} (hE : Z66 a0 a1 a2 = some r) (H : Heap) (hc0 : H c0 = some (.cells (R12_work.c a0))) : ACalls Tryz.prog 101 [.d (.ptr c0 0), .d (.str a1), .agg (TValue.c a2)] H fun v h' => v = .a (.agg (TValue.c r.1)) ∧ h' = (H.set c0 (some (.cells (R12_work.c r.2)))) := by
 unfold Z66 at hE
 refine ACalls.of_wp (fn := Tryz.f101) (c := _) Tryz.tab_ok (fun _ _ => Tryz.call101 _ _) Tryz.func101 rfl (n := 64) rfl (rs := [.cell 6 31]) rfl rfl ?_
 refine AWp.heqA (h' := (H.set c0 (some (.cells (R12_work.c a0))))) (by funext n_; simp only [Heap.set]; (repeat' split) <;> simp_all) ?_
 refine seqK fun K1 hK1 => ?_
 refine region ?_
 refine s0 (boxV rfl) rfl ?_
 refine sL (allocLA (TK rfl) rfl) rfl ?_
 refine nil ?_
 refine hK1 _ ?_
 clear hK1 K1
 refine seqJ (KeepsT.A (k := 0) (KeepsT.A (k := 6) KeepsT.nil)) (fun (z : TValue) => []) (fun z => [TValue.c z]) (fun z => (H.set c0 (some (.cells (R12_work.c a0))))) (fun z => Z66_j2 a0 z = some r) ?_ ?_
 ·intro K2 hK2
  refine block ?_
  refine seqK fun K7 hK7 => ?_
  refine region ?_
  refine s0 moveA rfl ?_
  refine s0 (binS rfl rfl rfl) rfl ?_
  refine s0 moveA rfl ?_
  refine gC rfl rfl (fun hC => fieldVA (TK rfl) rfl rfl (TK rfl) rfl rfl) rfl ?_
  refine gC rfl rfl (fun hC => ungdA (k := 11) rfl (loadV (TK rfl) rfl rfl rfl)) rfl ?_
  refine gC rfl rfl (fun hC => ungdA (k := 12) rfl (binI rfl rfl rfl)) rfl ?_
  refine s0 (pickAndA rfl rfl rfl) rfl ?_
  refine s0 moveA rfl ?_
  refine gC rfl rfl (fun hC => fieldVA (TK rfl) rfl rfl (TK rfl) rfl rfl) rfl ?_
  refine gC rfl rfl (fun hC => ungdA (k := 16) rfl (loadV (TK rfl) rfl rfl rfl)) rfl ?_
  refine gC rfl rfl (fun hC => ungdA (k := 17) rfl (binI rfl rfl rfl)) rfl ?_
  refine s0 (pickAndA rfl rfl rfl) rfl ?_
  refine s0 moveA rfl ?_
  refine gC rfl rfl (fun hC => fieldVA (TK rfl) rfl rfl (TK rfl) rfl rfl) rfl ?_
  refine gC rfl rfl (fun hC => ungdA (k := 21) rfl (loadV (TK rfl) rfl rfl rfl)) rfl ?_
  refine gC rfl rfl (fun hC => ungdA (k := 22) rfl (binI rfl rfl rfl)) rfl ?_
  refine s0 (pickAndA rfl rfl rfl) rfl ?_
  refine s0 assignA rfl ?_
  refine nil ?_
  refine hK7 _ ?_
  clear hK7 K7
  refine condE hE rfl (fun hc8 hE => ?_) (fun hc8 hE => ?_)
  ·refine seqK fun K9 hK9 => ?_
   refine region ?_
   refine s0 (loadV (TK rfl) rfl rfl rfl) rfl ?_
   refine sLn (storeLFA (TK rfl) rfl rfl rfl rfl rfl) ?_
   refine nil ?_
   refine hK9 _ ?_
   clear hK9 K9
   refine AWp.ret ?_
   repeat (first | refine xBlock_ret ?_ | refine xThen_ret ?_)
   obtain rfl := Option.some.inj hE
   refine retQ.retF (H.set c0 (some (.cells (R12_work.c a0)))) rfl ⟨rfl, rfl⟩ ?_
   exact (fun _ _ h => h)
  refine seqJH (KeepsT.A (k := 0) (KeepsT.A (k := 1) (KeepsT.A (k := 5) (KeepsT.A (k := 6) KeepsT.nil)))) (fun (z : Bool) => [(26, .a (.d (.bool z)))]) (fun z => (H.set c0 (some (.cells (R12_work.c a0))))) (fun z => Z66_j10 a0 a1 a2 z = some r) ?_ ?_
  ·intro K10 hK10
   refine seqK fun K18 hK18 => ?_
   refine region ?_
   refine s0 moveA rfl ?_
   refine s0 (binS rfl rfl rfl) rfl ?_
   refine s0 moveA rfl ?_
   refine gC rfl rfl (fun hC => fieldVA (TK rfl) rfl rfl (TK rfl) rfl rfl) rfl ?_
   refine gC rfl rfl (fun hC => ungdA (k := 30) rfl (loadV (TK rfl) rfl rfl rfl)) rfl ?_
   refine gC rfl rfl (fun hC => ungdA (k := 31) rfl (binI rfl rfl rfl)) rfl ?_
   refine s0 (pickAndA rfl rfl rfl) rfl ?_
   refine s0 assignA rfl ?_
   refine nil ?_
   refine hK18 _ ?_
   clear hK18 K18
   refine condE hE rfl (fun hc19 hE => ?_) (fun hc19 hE => ?_)
   ·refine AWp.skip ?_
    exact hK10 _ (((a1 == ([83, 116, 114, 105, 110, 103] : Bs))) && (decide (a2.FKind = (3 : Int)))) Weak.toA hE
   refine seqK fun K20 hK20 => ?_
   refine region ?_
   refine s0 moveA rfl ?_
   refine s0 (binS rfl rfl rfl) rfl ?_
   refine s0 moveA rfl ?_
   refine gC rfl rfl (fun hC => fieldVA (TK rfl) rfl rfl (TK rfl) rfl rfl) rfl ?_
   refine gC rfl rfl (fun hC => ungdA (k := 37) rfl (loadV (TK rfl) rfl rfl rfl)) rfl ?_
   refine gC rfl rfl (fun hC => ungdA (k := 38) rfl (binI rfl rfl rfl)) rfl ?_
   refine s0 (pickAndA rfl rfl rfl) rfl ?_
   refine s0 assignA rfl ?_
   refine nil ?_
   refine hK20 _ ?_
   clear hK20 K20
   refine condE hE rfl (fun hc21 hE => ?_) (fun hc21 hE => ?_)
   ·refine AWp.skip ?_
    exact hK10 _ (((a1 == ([66, 111, 111, 108, 101, 97, 110] : Bs))) && (decide (a2.FKind = (1 : Int)))) Weak.toA hE
   refine region ?_
   refine s0 moveA rfl ?_
   refine s0 (binS rfl rfl rfl) rfl ?_
   refine s0 moveA rfl ?_
   refine gC rfl rfl (fun hC => fieldVA (TK rfl) rfl rfl (TK rfl) rfl rfl) rfl ?_
   refine gC rfl rfl (fun hC => ungdA (k := 44) rfl (loadV (TK rfl) rfl rfl rfl)) rfl ?_
   refine gC rfl rfl (fun hC => ungdA (k := 45) rfl (binI rfl rfl rfl)) rfl ?_
   refine s0 (pickAndA rfl rfl rfl) rfl ?_
   refine s0 assignA rfl ?_
   refine nil ?_
   exact hK10 _ (((a1 == ([73, 68] : Bs))) && (decide (a2.FKind = (3 : Int)))) Weak.toA hE
  rintro s26_11 hE
  try dsimp only at hE
  unfold Z66_j10 at hE
  refine condE hE rfl (fun hc12 hE => ?_) (fun hc12 hE => ?_)
  ·refine seqK fun K13 hK13 => ?_
   refine region ?_
   refine s0 (loadV (TK rfl) rfl rfl rfl) rfl ?_
   refine sLn (storeLFA (TK rfl) rfl rfl rfl rfl rfl) ?_
   refine nil ?_
   refine hK13 _ ?_
   clear hK13 K13
   refine AWp.ret ?_
   repeat (first | refine xBlock_ret ?_ | refine xThen_ret ?_)
   obtain rfl := Option.some.inj hE
   refine retQ.retF (H.set c0 (some (.cells (R12_work.c a0)))) rfl ⟨rfl, rfl⟩ ?_
   exact (fun _ _ h => h)
  refine seqK fun K14 hK14 => ?_
  refine region ?_
  refine s0 moveA rfl ?_
  refine s0 (binS rfl rfl rfl) rfl ?_
  refine s0 moveA rfl ?_
  refine gC rfl rfl (fun hC => fieldVA (TK rfl) rfl rfl (TK rfl) rfl rfl) rfl ?_
  refine gC rfl rfl (fun hC => ungdA (k := 53) rfl (loadV (TK rfl) rfl rfl rfl)) rfl ?_
  refine gC rfl rfl (fun hC => ungdA (k := 54) rfl (binI rfl rfl rfl)) rfl ?_
  refine s0 (pickAndA rfl rfl rfl) rfl ?_
  refine s0 assignA rfl ?_
  refine nil ?_
  refine hK14 _ ?_
  clear hK14 K14
  refine condE hE rfl (fun hc15 hE => ?_) (fun hc15 hE => ?_)
  ·refine seqK fun K16 hK16 => ?_
   refine region ?_
   refine s0 (fieldVA (TK rfl) rfl rfl (TK rfl) rfl rfl) rfl ?_
   refine s0 (loadV (TK rfl) rfl rfl rfl) rfl ?_
   obtain ⟨x17, gx17, hE⟩ := bindO_some hE
   refine s0 (callP rfl rfl (fun H => Z20_walk gx17 H)) rfl ?_
   refine s0 (build Tryz.tab_ok rfl rfl rfl rfl rfl rfl) rfl ?_
   refine sLn (storeLFA (TK rfl) rfl rfl rfl rfl rfl) ?_
   refine nil ?_
   refine hK16 _ ?_
   clear hK16 K16
   refine AWp.ret ?_
   repeat (first | refine xBlock_ret ?_ | refine xThen_ret ?_)
   obtain rfl := Option.some.inj hE
   refine retQ.retF (H.set c0 (some (.cells (R12_work.c a0)))) rfl ⟨rfl, rfl⟩ ?_
   exact (fun _ _ h => h)
  refine AWp.skip ?_
  exact hK2 _ TValue.zero Weak.toA hE
 rintro y3_l0 hE
 try dsimp only at hE
 unfold Z66_j2 at hE
 refine seqK fun K4 hK4 => ?_
 refine region ?_
 refine s0 moveA rfl ?_
 obtain ⟨x5, gx5, hE⟩ := bindO_some hE
 refine sH (callH rfl rfl (Z61_walk gx5 _ hpG)) rfl ?_
 refine AOps.heq (h' := (H.set c0 (some (.cells (R12_work.c x5))))) (by first | rfl | (rw [Heap.set_set]; rfl) | (funext n_; simp only [Heap.set]; (repeat' split) <;> first | rfl | (exfalso; simp_all; done) | (simp_all; done))) ?_
 refine nil ?_
 refine hK4 _ ?_
 clear hK4 K4
 refine seqK fun K6 hK6 => ?_
 refine region ?_
 refine s0 (build Tryz.tab_ok rfl rfl rfl rfl rfl rfl) rfl ?_
 refine sLn (storeLFA (TK rfl) rfl rfl rfl rfl rfl) ?_
 refine nil ?_
 refine hK6 _ ?_
 clear hK6 K6
 refine AWp.ret ?_
 repeat (first | refine xBlock_ret ?_ | refine xThen_ret ?_)
 obtain rfl := Option.some.inj hE
 refine retQ.retF (H.set c0 (some (.cells (R12_work.c x5)))) rfl ⟨rfl, rfl⟩ ?_
 exact (fun _ _ h => h)
end Go.Proofs

namespace Go.Proofs
open Go Go.Ab
open AOps Cert AWp
variable {lou : Lou}
def Z60_j2 (a0 : R12_work)  (y3_l0 : TValue) : Option (TValue × R12_work) := (Z61 a0 (23 : Int)).bind fun x5 => some ((TValue.mk (0 : Int) (0 : Int) ([] : Bs) true ([]) (Sl.nil : Sl Bs)), x5)
def Z60_l10 (a0 : R12_work) (a1 : TDef) (a2 : TValue)  : Nat → Nat → TValue → Option (TValue × R12_work)
 | 0, _, _ => none
 | n10 + 1, s7_11, y12_l0 => bif (decide (((s7_11 : Nat) : Int) < ((a1.FMembers.l.length : Nat) : Int))) then ((a1.FMembers.l[s7_11]?).bind fun x19 => bif ((x19.FName == a2.FText)) then (some ((TValue.mk (4 : Int) (0 : Int) a2.FText true ([]) (Sl.nil : Sl Bs)), a0)) else ((Z60_l10 a0 a1 a2 n10) (s7_11 + 1) y12_l0)) else (Z60_j2 a0  y12_l0)
def Z60 (a0 : R12_work) (a1 : TDef) (a2 : TValue) : Option (TValue × R12_work) := bif ((decide (a2.FKind = (4 : Int))) || ((decide (a2.FKind = (3 : Int))) && (!a0.Flit))) then (Z60_l10 a0 a1 a2 (a1.FMembers.l.length + 1) 0 TValue.zero) else (Z60_j2 a0  TValue.zero)
theorem Z60_walk {a0 : R12_work} {a1 : TDef} {a2 : TValue}  {c0 : Nat} {r : (TValue × R12_work)} (hE : Z60 a0 a1 a2 = some r) (H : Heap) (hc0 : H c0 = some (.cells (R12_work.c a0))) : ACalls Tryz.prog 102 [.d (.ptr c0 0), .agg (TDef.c a1), .agg (TValue.c a2)] H fun v h' => v = .a (.agg (TValue.c r.1)) ∧ h' = (H.set c0 (some (.cells (R12_work.c r.2)))) := by
 unfold Z60 at hE
 refine ACalls.of_wp (fn := Tryz.f102) (c := _) Tryz.tab_ok (fun _ _ => Tryz.call102 _ _) Tryz.func102 rfl (n := 45) rfl (rs := [.cell 6 31]) rfl rfl ?_
 refine AWp.heqA (h' := (H.set c0 (some (.cells (R12_work.c a0))))) (by funext n_; simp only [Heap.set]; (repeat' split) <;> simp_all) ?_
 refine seqK fun K1 hK1 => ?_
 refine region ?_
 refine s0 (boxV rfl) rfl ?_
 refine s0 (boxV rfl) rfl ?_
 refine sL (allocLA (TK rfl) rfl) rfl ?_
 refine nil ?_
 refine hK1 _ ?_
 clear hK1 K1
 refine seqJ (KeepsT.A (k := 0) (KeepsT.A (k := 6) KeepsT.nil)) (fun (z : TValue) => []) (fun z => [TValue.c z]) (fun z => (H.set c0 (some (.cells (R12_work.c a0))))) (fun z => Z60_j2 a0 z = some r) ?_ ?_
 ·intro K2 hK2
  refine seqK fun K7 hK7 => ?_
  refine region ?_
  refine s0 (fieldVA (TK rfl) rfl rfl (TK rfl) rfl rfl) rfl ?_
  refine s0 (loadV (TK rfl) rfl rfl rfl) rfl ?_
  refine s0 (binI rfl rfl rfl) rfl ?_
  refine s0 moveA rfl ?_
  refine gC rfl rfl (fun hC => fieldVA (TK rfl) rfl rfl (TK rfl) rfl rfl) rfl ?_
  refine gC rfl rfl (fun hC => ungdA (k := 12) rfl (loadV (TK rfl) rfl rfl rfl)) rfl ?_
  refine gC rfl rfl (fun hC => ungdA (k := 13) rfl (binI rfl rfl rfl)) rfl ?_
  refine gC rfl rfl (fun hC => ungdA (k := 14) rfl moveA) rfl ?_
  refine gC rfl rfl (fun hC => moveA) rfl ?_
  refine gC rfl rfl (fun hC => ungdA (k := 16) rfl (nilP rfl)) rfl ?_
  refine gC rfl rfl (fun hC => ungdA (k := 17) rfl (fieldP (TK rfl) rfl rfl (TK rfl) rfl rfl)) rfl ?_
  refine gC rfl rfl (fun hC => ungdA (k := 18) rfl (loadP (TK rfl) rfl rfl hpG rfl)) rfl ?_
  refine gC rfl rfl (fun hC => ungdA (k := 19) rfl (notB rfl)) rfl ?_
  refine gC rfl rfl (fun hC => ungdA (k := 15) rfl (pickAndA rfl rfl rfl)) rfl ?_
  refine s0 (pickOrA rfl rfl rfl) rfl ?_
  refine nil ?_
  refine hK7 _ ?_
  clear hK7 K7
  refine condE hE rfl (fun hc8 hE => ?_) (fun hc8 hE => ?_)
  ·refine seqK fun K9 hK9 => ?_
   refine region ?_
   refine s0 assignA rfl ?_
   refine nil ?_
   refine hK9 _ ?_
   clear hK9 K9
   refine block ?_
   refine loopO (KeepsT.A (k := 0) (KeepsT.A (k := 4) (KeepsT.A (k := 5) (KeepsT.A (k := 6) KeepsT.nil)))) (fun (z : Nat × Nat × TValue) => [(7, .a (.d (.int .i64 ((z.2.1 : Nat) : Int))))]) (fun z => [TValue.c z.2.2]) (fun z => (H.set c0 (some (.cells (R12_work.c a0))))) (fun z => z.1) (fun z => Z60_l10 a0 a1 a2 z.1 z.2.1 z.2.2 = some r) ((a1.FMembers.l.length + 1), 0, TValue.zero) hE Weak.toA ?_
   rintro ⟨n10, s7_11, y12_l0⟩ hE K10 hK10
   try dsimp only at hE
   cases n10 with
   | zero => cases hE
   | succ n10 =>
     rw [Z60_l10] at hE
     refine seqK fun K13 hK13 => ?_
     refine seqK fun K14 hK14 => ?_
     refine region ?_
     refine s0 moveA rfl ?_
     refine s0 (fieldVA (TK rfl) rfl rfl (TK rfl) rfl rfl) rfl ?_
     refine s0 (loadV (TK rfl) rfl rfl rfl) rfl ?_
     refine sLen (f := TMember.c) (s := a1.FMembers) (TK rfl) rfl rfl rfl rfl fun hL15 => ?_
     refine s0 (binI rfl rfl rfl) rfl ?_
     refine nil ?_
     refine hK14 _ ?_
     clear hK14 K14
     refine condE hE rfl (fun hc16 hE => ?_) (fun hc16 hE => ?_)
     ·try dsimp only at hc16
      have hf16 := of_decide_eq_true hc16
      refine AWp.skip ?_
      refine hK13 _ ?_
      clear hK13 K13
      refine seqK fun K17 hK17 => ?_
      refine block ?_
      refine seqK fun K18 hK18 => ?_
      refine AWp.draw rfl ?_
      refine DOps.s0 (fieldVA (TK rfl) rfl rfl (TK rfl) rfl rfl) rfl ?_
      refine DOps.s0 (loadV (TK rfl) rfl rfl rfl) rfl ?_
      refine DOps.s0 moveA rfl ?_
      obtain ⟨x19, gx19, hE⟩ := bindO_some hE
      refine DOps.s0 (idxMn (f := TMember.c) (n := s7_11) (TK rfl) rfl (TK rfl) rfl rfl rfl gx19) rfl ?_
      refine DOps.s0 (fieldVA (TK rfl) rfl rfl (TK rfl) rfl rfl) rfl ?_
      refine DOps.s0 (loadV (TK rfl) rfl rfl rfl) rfl ?_
      refine DOps.s0 (fieldVA (TK rfl) rfl rfl (TK rfl) rfl rfl) rfl ?_
      refine DOps.s0 (loadV (TK rfl) rfl rfl rfl) rfl ?_
      refine DOps.s0 (binS rfl rfl rfl) rfl ?_
      refine DOps.nil (by decide +kernel) ?_
      refine hK18 _ ?_
      clear hK18 K18
      refine condE hE rfl (fun hc20 hE => ?_) (fun hc20 hE => ?_)
      ·refine seqK fun K21 hK21 => ?_
       refine region ?_
       refine s0 (fieldVA (TK rfl) rfl rfl (TK rfl) rfl rfl) rfl ?_
       refine s0 (loadV (TK rfl) rfl rfl rfl) rfl ?_
       refine s0 (build Tryz.tab_ok rfl rfl rfl rfl rfl rfl) rfl ?_
       refine sLn (storeLFA (TK rfl) rfl rfl rfl rfl rfl) ?_
       refine nil ?_
       refine hK21 _ ?_
       clear hK21 K21
       refine AWp.ret ?_
       repeat (first | refine xBlock_ret ?_ | refine xThen_ret ?_)
       obtain rfl := Option.some.inj hE
       refine retQ.retF (H.set c0 (some (.cells (R12_work.c a0)))) rfl ⟨rfl, rfl⟩ ?_
       exact (fun _ _ h => h)
      refine AWp.skip ?_
      refine hK17 _ ?_
      clear hK17 K17
      refine region ?_
      refine s0 moveA rfl ?_
      refine s0 (addIA rfl rfl) rfl ?_
      refine s0 assignA rfl ?_
      refine nil ?_
      exact hK10 _ (n10, (s7_11 + 1), y12_l0) Weak.toA hE (Nat.lt_succ_self _)
     refine AWp.exit ?_
     exact hK2 _ y12_l0 Weak.toA hE
  refine AWp.skip ?_
  exact hK2 _ TValue.zero Weak.toA hE
 rintro y3_l0 hE
 try dsimp only at hE
 unfold Z60_j2 at hE
 refine seqK fun K4 hK4 => ?_
 refine region ?_
 refine s0 moveA rfl ?_
 obtain ⟨x5, gx5, hE⟩ := bindO_some hE
 refine sH (callH rfl rfl (Z61_walk gx5 _ hpG)) rfl ?_
 refine AOps.heq (h' := (H.set c0 (some (.cells (R12_work.c x5))))) (by first | rfl | (rw [Heap.set_set]; rfl) | (funext n_; simp only [Heap.set]; (repeat' split) <;> first | rfl | (exfalso; simp_all; done) | (simp_all; done))) ?_
 refine nil ?_
 refine hK4 _ ?_
 clear hK4 K4
 refine seqK fun K6 hK6 => ?_
 refine region ?_
 refine s0 (build Tryz.tab_ok rfl rfl rfl rfl rfl rfl) rfl ?_
 refine sLn (storeLFA (TK rfl) rfl rfl rfl rfl rfl) ?_
 refine nil ?_
 refine hK6 _ ?_
 clear hK6 K6
 refine AWp.ret ?_
 repeat (first | refine xBlock_ret ?_ | refine xThen_ret ?_)
 obtain rfl := Option.some.inj hE
 refine retQ.retF (H.set c0 (some (.cells (R12_work.c x5)))) rfl ⟨rfl, rfl⟩ ?_
 exact (fun _ _ h => h)
def Z52_j2  (y3_l0 : TInput) : Option (TInput × Bool) := some ((TInput.mk ([] : Bs) TRef.zero false TValue.zero (Sl.nil : Sl TDir)), false)
def Z52_l6 (a0 : (Sl TInput)) (a1 : Bs)  : Nat → Nat → TInput → Option (TInput × Bool)
 | 0, _, _ => none
 | n6 + 1, s6_7, y8_l0 => bif (decide (((s6_7 : Nat) : Int) < ((a0.l.length : Nat) : Int))) then ((a0.l[s6_7]?).bind fun x15 => bif ((x15.FName == a1)) then ((a0.l[s6_7]?).bind fun x18 => some (x18, true)) else ((Z52_l6 a0 a1 n6) (s6_7 + 1) y8_l0)) else (Z52_j2   y8_l0)
def Z52 (a0 : (Sl TInput)) (a1 : Bs) : Option (TInput × Bool) := Z52_l6 a0 a1 (a0.l.length + 1) 0 TInput.zero
theorem Z52_walk {a0 : (Sl TInput)} {a1 : Bs} {w0 : Option Nat}  {r : (TInput × Bool)} (hE : Z52 a0 a1 = some r) (H : Heap)  : ACalls Tryz.prog 42 [.d (Sl.d 10 TInput.c w0 a0), .d (.str a1)] H fun v h' => v = .tup [.agg (TInput.c r.1), .d (.bool r.2)] ∧ h' = H := by
 unfold Z52 at hE
 refine ACalls.of_wp (fn := Tryz.f42) (c := _) Tryz.tab_ok (fun _ _ => Tryz.call42 _ _) Tryz.func42 rfl (n := 25) rfl (rs := [.cell 4 55, .tmp 5]) rfl rfl ?_
 refine seqK fun K1 hK1 => ?_
 refine region ?_
 refine sL (allocLA (TK rfl) rfl) rfl ?_
 refine s0 assignA rfl ?_
 refine nil ?_
 refine hK1 _ ?_
 clear hK1 K1
 refine seqJ (KeepsT.A (k := 4) KeepsT.nil) (fun (z : TInput) => []) (fun z => [TInput.c z]) (fun z => H) (fun z => Z52_j2 z = some r) ?_ ?_
 ·intro K2 hK2
  refine seqK fun K5 hK5 => ?_
  refine region ?_
  refine s0 assignA rfl ?_
  refine nil ?_
  refine hK5 _ ?_
  clear hK5 K5
  refine block ?_
  refine loopO (KeepsT.A (k := 0) (KeepsT.A (k := 1) (KeepsT.A (k := 4) KeepsT.nil))) (fun (z : Nat × Nat × TInput) => [(6, .a (.d (.int .i64 ((z.2.1 : Nat) : Int))))]) (fun z => [TInput.c z.2.2]) (fun z => H) (fun z => z.1) (fun z => Z52_l6 a0 a1 z.1 z.2.1 z.2.2 = some r) ((a0.l.length + 1), 0, TInput.zero) hE Weak.toA ?_
  rintro ⟨n6, s6_7, y8_l0⟩ hE K6 hK6
  try dsimp only at hE
  cases n6 with
  | zero => cases hE
  | succ n6 =>
    rw [Z52_l6] at hE
    refine seqK fun K9 hK9 => ?_
    refine seqK fun K10 hK10 => ?_
    refine region ?_
    refine s0 moveA rfl ?_
    refine s0 moveA rfl ?_
    refine sLen (f := TInput.c) (s := a0) (TK rfl) rfl rfl rfl rfl fun hL11 => ?_
    refine s0 (binI rfl rfl rfl) rfl ?_
    refine nil ?_
    refine hK10 _ ?_
    clear hK10 K10
    refine condE hE rfl (fun hc12 hE => ?_) (fun hc12 hE => ?_)
    ·try dsimp only at hc12
     have hf12 := of_decide_eq_true hc12
     refine AWp.skip ?_
     refine hK9 _ ?_
     clear hK9 K9
     refine seqK fun K13 hK13 => ?_
     refine block ?_
     refine seqK fun K14 hK14 => ?_
     refine region ?_
     refine s0 moveA rfl ?_
     refine s0 moveA rfl ?_
     obtain ⟨x15, gx15, hE⟩ := bindO_some hE
     refine s0 (idxMn (f := TInput.c) (n := s6_7) (TK rfl) rfl (TK rfl) rfl rfl rfl gx15) rfl ?_
     refine s0 (fieldVA (TK rfl) rfl rfl (TK rfl) rfl rfl) rfl ?_
     refine s0 (loadV (TK rfl) rfl rfl rfl) rfl ?_
     refine s0 moveA rfl ?_
     refine s0 (binS rfl rfl rfl) rfl ?_
     refine nil ?_
     refine hK14 _ ?_
     clear hK14 K14
     refine condE hE rfl (fun hc16 hE => ?_) (fun hc16 hE => ?_)
     ·refine seqK fun K17 hK17 => ?_
      refine region ?_
      refine s0 moveA rfl ?_
      refine s0 moveA rfl ?_
      obtain ⟨x18, gx18, hE⟩ := bindO_some hE
      refine s0 (idxMn (f := TInput.c) (n := s6_7) (TK rfl) rfl (TK rfl) rfl rfl rfl gx18) rfl ?_
      refine s0 (loadV (TK rfl) rfl rfl rfl) rfl ?_
      refine sLn (storeLFA (TK rfl) rfl rfl rfl rfl rfl) ?_
      refine s0 assignA rfl ?_
      refine nil ?_
      refine hK17 _ ?_
      clear hK17 K17
      refine AWp.ret ?_
      repeat (first | refine xBlock_ret ?_ | refine xThen_ret ?_)
      obtain rfl := Option.some.inj hE
      refine retQ.retF H rfl ⟨rfl, rfl⟩ ?_
      exact (fun _ _ h => h)
     refine AWp.skip ?_
     refine hK13 _ ?_
     clear hK13 K13
     refine region ?_
     refine s0 moveA rfl ?_
     refine s0 (addIA rfl rfl) rfl ?_
     refine s0 assignA rfl ?_
     refine nil ?_
     exact hK6 _ (n6, (s6_7 + 1), y8_l0) Weak.toA hE (Nat.lt_succ_self _)
    refine AWp.exit ?_
    exact hK2 _ y8_l0 Weak.toA hE
 rintro y3_l0 hE
 try dsimp only at hE
 unfold Z52_j2 at hE
 refine seqK fun K4 hK4 => ?_
 refine region ?_
 refine s0 (build Tryz.tab_ok rfl rfl rfl rfl rfl rfl) rfl ?_
 refine sLn (storeLFA (TK rfl) rfl rfl rfl rfl rfl) ?_
 refine s0 assignA rfl ?_
 refine nil ?_
 refine hK4 _ ?_
 clear hK4 K4
 refine AWp.ret ?_
 repeat (first | refine xBlock_ret ?_ | refine xThen_ret ?_)
 obtain rfl := Option.some.inj hE
 refine retQ.retF H rfl ⟨rfl, rfl⟩ ?_
 exact (fun _ _ h => h)
def Z59_j2   : Option Bool := some false
def Z59_l5 (a0 : (Sl TInput)) (a1 : Int)  : Nat → Int → Option Bool
 | 0, _ => none
 | n5 + 1, s5_6 => bif (decide (s5_6 < a1)) then ((idxC a0.l s5_6).bind fun x12 => (idxC a0.l a1).bind fun x13 => bif ((x12.FName == x13.FName)) then (some true) else ((addC s5_6 (1 : Int)).bind fun x16 => (Z59_l5 a0 a1 n5) x16)) else (Z59_j2   )
def Z59 (a0 : (Sl TInput)) (a1 : Int) : Option Bool := Z59_l5 a0 a1 F0 (0 : Int)
theorem Z59_walk {a0 : (Sl TInput)} {a1 : Int} {w0 : Option Nat}  {r : Bool} (hE : Z59 a0 a1 = some r) (H : Heap)  : ACalls Tryz.prog 44 [.d (Sl.d 10 TInput.c w0 a0), .d (.int .i64 a1)] H fun v h' => v = .a (.d (.bool r)) ∧ h' = H := by
 unfold Z59 at hE
 refine ACalls.of_wp (fn := Tryz.f44) (c := _) Tryz.tab_ok (fun _ _ => Tryz.call44 _ _) Tryz.func44 rfl (n := 22) rfl (rs := [.tmp 4]) rfl rfl ?_
 refine seqK fun K1 hK1 => ?_
 refine region ?_
 refine s0 assignA rfl ?_
 refine nil ?_
 refine hK1 _ ?_
 clear hK1 K1
 refine seqJH KeepsT.nil (fun (z : Unit) => []) (fun z => H) (fun z => Z59_j2  = some r) ?_ ?_
 ·intro K2 hK2
  refine seqK fun K4 hK4 => ?_
  refine region ?_
  refine s0 assignA rfl ?_
  refine nil ?_
  refine hK4 _ ?_
  clear hK4 K4
  refine block ?_
  refine loopH (KeepsT.A (k := 0) (KeepsT.A (k := 1) KeepsT.nil)) (fun (z : Nat × Int) => [(5, .a (.d (.int .i64 z.2)))]) (fun z => H) (fun z => z.1) (fun z => Z59_l5 a0 a1 z.1 z.2 = some r) (F0, (0 : Int)) hE Weak.toA ?_
  rintro ⟨n5, s5_6⟩ hE K5 hK5
  try dsimp only at hE
  cases n5 with
  | zero => cases hE
  | succ n5 =>
    rw [Z59_l5] at hE
    refine seqK fun K7 hK7 => ?_
    refine seqK fun K8 hK8 => ?_
    refine region ?_
    refine s0 moveA rfl ?_
    refine s0 moveA rfl ?_
    refine s0 (binI rfl rfl rfl) rfl ?_
    refine nil ?_
    refine hK8 _ ?_
    clear hK8 K8
    refine condE hE rfl (fun hc9 hE => ?_) (fun hc9 hE => ?_)
    ·refine AWp.skip ?_
     refine hK7 _ ?_
     clear hK7 K7
     refine seqK fun K10 hK10 => ?_
     refine block ?_
     refine seqK fun K11 hK11 => ?_
     refine AWp.draw rfl ?_
     refine DOps.s0 moveA rfl ?_
     refine DOps.s0 moveA rfl ?_
     obtain ⟨x12, gx12, hE⟩ := bindO_some hE
     refine DOps.s0 (idxM (f := TInput.c) (TK rfl) rfl (TK rfl) rfl rfl rfl gx12) rfl ?_
     refine DOps.s0 (fieldVA (TK rfl) rfl rfl (TK rfl) rfl rfl) rfl ?_
     refine DOps.s0 (loadV (TK rfl) rfl rfl rfl) rfl ?_
     refine DOps.s0 moveA rfl ?_
     refine DOps.s0 moveA rfl ?_
     obtain ⟨x13, gx13, hE⟩ := bindO_some hE
     refine DOps.s0 (idxM (f := TInput.c) (TK rfl) rfl (TK rfl) rfl rfl rfl gx13) rfl ?_
     refine DOps.s0 (fieldVA (TK rfl) rfl rfl (TK rfl) rfl rfl) rfl ?_
     refine DOps.s0 (loadV (TK rfl) rfl rfl rfl) rfl ?_
     refine DOps.s0 (binS rfl rfl rfl) rfl ?_
     refine DOps.nil (by decide +kernel) ?_
     refine hK11 _ ?_
     clear hK11 K11
     refine condE hE rfl (fun hc14 hE => ?_) (fun hc14 hE => ?_)
     ·refine seqK fun K15 hK15 => ?_
      refine region ?_
      refine s0 assignA rfl ?_
      refine nil ?_
      refine hK15 _ ?_
      clear hK15 K15
      refine AWp.ret ?_
      repeat (first | refine xBlock_ret ?_ | refine xThen_ret ?_)
      obtain rfl := Option.some.inj hE
      refine retQ.retF H rfl ⟨rfl, rfl⟩ ?_
      exact (fun _ _ h => h)
     refine AWp.skip ?_
     refine hK10 _ ?_
     clear hK10 K10
     refine region ?_
     refine s0 moveA rfl ?_
     obtain ⟨x16, gx16, hE⟩ := bindO_some hE
     refine s0 (addM rfl rfl gx16) rfl ?_
     refine s0 assignA rfl ?_
     refine nil ?_
     exact hK5 _ (n5, x16) Weak.toA hE (Nat.lt_succ_self _)
    refine AWp.exit ?_
    exact hK2 _ () Weak.toA hE
 rintro _ hE
 try dsimp only at hE
 unfold Z59_j2 at hE
 refine seqK fun K3 hK3 => ?_
 refine region ?_
 refine s0 assignA rfl ?_
 refine nil ?_
 refine hK3 _ ?_
 clear hK3 K3
 refine AWp.ret ?_
 repeat (first | refine xBlock_ret ?_ | refine xThen_ret ?_)
 obtain rfl := Option.some.inj hE
 refine retQ.retF H rfl ⟨rfl, rfl⟩ ?_
 exact (fun _ _ h => h)
end Go.Proofs
