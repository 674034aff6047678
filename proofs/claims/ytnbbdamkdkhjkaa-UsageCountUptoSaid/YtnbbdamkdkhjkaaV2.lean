import Derived.Test.YtnbbdamkdkhjkaaV1
set_option maxRecDepth 100000
set_option maxHeartbeats 2000000
set_option linter.unusedVariables false
set_option linter.unusedSimpArgs false
namespace Go.Proofs
open Go Go.Ab
open AOps Cert AWp
def Z18 (a0 : TDoc) (a1 : Bs) : Option Bool := (Z24 a0 a1).bind fun x3 => (Z23 a1).bind fun x5 => some ((!x5) && (((decide (x3 = (1 : Int))) || (decide (x3 = (2 : Int)))) || (decide (x3 = (3 : Int)))))
theorem Z18_walk {a0 : TDoc} {a1 : Bs}   {r : Bool} (hE : Z18 a0 a1 = some r) (H : Heap)  : ACalls Try.prog 36 [.agg (TDoc.c a0), .d (.str a1)] H fun v h' => v = .a (.d (.bool r)) ∧ h' = H := by
 unfold Z18 at hE
 refine ACalls.of_wp (fn := Try.f36) (c := _) Try.tab_ok (fun _ _ => Try.call36 _ _) Try.func36 rfl (n := 24) rfl (rs := [.tmp 4]) rfl rfl ?_
 refine seqK fun K1 hK1 => ?_
 refine region ?_
 refine s0 (boxV rfl) rfl ?_
 refine s0 assignA rfl ?_
 refine nil ?_
 refine hK1 _ ?_
 clear hK1 K1
 refine seqK fun K2 hK2 => ?_
 refine region ?_
 refine s0 (loadV (TK rfl) rfl rfl rfl) rfl ?_
 refine s0 moveA rfl ?_
 obtain ⟨x3, gx3, hE⟩ := bindO_some hE
 refine s0 (callP rfl rfl (fun H => Z24_walk gx3 H)) rfl ?_
 refine s0 assignA rfl ?_
 refine nil ?_
 refine hK2 _ ?_
 clear hK2 K2
 refine seqK fun K4 hK4 => ?_
 refine region ?_
 refine s0 moveA rfl ?_
 obtain ⟨x5, gx5, hE⟩ := bindO_some hE
 refine s0 (callP rfl rfl (fun H => Z23_walk gx5 H)) rfl ?_
 refine s0 (notB rfl) rfl ?_
 refine s0 moveA rfl ?_
 refine gC rfl rfl (fun hC => moveA) rfl ?_
 refine gC rfl rfl (fun hC => ungdA (k := 13) rfl (binI rfl rfl rfl)) rfl ?_
 refine gC rfl rfl (fun hC => ungdA (k := 14) rfl moveA) rfl ?_
 refine gC rfl rfl (fun hC => moveA) rfl ?_
 refine gC rfl rfl (fun hC => ungdA (k := 16) rfl (binI rfl rfl rfl)) rfl ?_
 refine gC rfl rfl (fun hC => ungdA (k := 15) rfl (pickOrA rfl rfl rfl)) rfl ?_
 refine gC rfl rfl (fun hC => ungdA (k := 18) rfl moveA) rfl ?_
 refine gC rfl rfl (fun hC => moveA) rfl ?_
 refine gC rfl rfl (fun hC => ungdA (k := 20) rfl (binI rfl rfl rfl)) rfl ?_
 refine gC rfl rfl (fun hC => ungdA (k := 19) rfl (pickOrA rfl rfl rfl)) rfl ?_
 refine s0 (pickAndA rfl rfl rfl) rfl ?_
 refine s0 assignA rfl ?_
 refine nil ?_
 refine hK4 _ ?_
 clear hK4 K4
 refine AWp.ret ?_
 repeat (first | refine xBlock_ret ?_ | refine xThen_ret ?_)
 obtain rfl := Option.some.inj hE
 refine retQ.retF H rfl ⟨rfl, rfl⟩ ?_
 exact (fun _ _ h => h)
def Z46 (a0 : Usage_recorder) (a1 : Bs) (a2 : Bs) (a3 : Bs) : Option Usage_recorder := (appC 56 a0.Fout (⟨false, [(TUse.mk a1 a2 a3 (1 : Int))]⟩ : Sl TUse)).bind fun x1 => some (Usage_recorder.mk a0.Fd a0.Fq x1)
theorem Z46_walk {a0 : Usage_recorder} {a1 : Bs} {a2 : Bs} {a3 : Bs}  {c0 : Nat} {c0_2 : Nat} {r : Usage_recorder} (hE : Z46 a0 a1 a2 a3 = some r) (H : Heap) (hc0 : H c0 = some (.cells (Usage_recorder.cg (some c0_2) a0))) (ht0_2 : H c0_2 = some (.tok 4 a0.Fout.l.length)) : ACalls Try.prog 37 [.d (.ptr c0 0), .d (.str a1), .d (.str a2), .d (.str a3)] H fun v h' => v = .tup [] ∧ h' = ((H.set c0_2 (some (.tok 4 r.Fout.l.length))).set c0 (some (.cells (Usage_recorder.cg (some c0_2) r)))) := by
 unfold Z46 at hE
 refine ACalls.of_wp (fn := Try.f37) (c := _) Try.tab_ok (fun _ _ => Try.call37 _ _) Try.func37 rfl (n := 21) rfl (rs := []) rfl rfl ?_
 have ne_c0_c0_2 : c0 ≠ c0_2 := fun e_ => by subst e_; simp_all
 refine AWp.heqA (h' := ((H.set c0_2 (some (.tok 4 a0.Fout.l.length))).set c0 (some (.cells (Usage_recorder.cg (some c0_2) a0))))) (by funext n_; simp only [Heap.set]; (repeat' split) <;> simp_all) ?_
 refine region ?_
 refine s0 moveA rfl ?_
 refine s0 moveA rfl ?_
 refine s0 (nilP rfl) rfl ?_
 refine s0 (fieldP (TK rfl) rfl rfl (TK rfl) rfl rfl) rfl ?_
 refine s0 (loadP (TK rfl) rfl rfl hpG rfl) rfl ?_
 refine s0 moveA rfl ?_
 refine s0 moveA rfl ?_
 refine s0 moveA rfl ?_
 refine s0 (build Try.tab_ok rfl rfl rfl rfl rfl rfl) rfl ?_
 refine s0 (buildSlice (TK rfl) rfl (TK rfl) rfl rfl rfl rfl rfl rfl) rfl ?_
 obtain ⟨x1, gx1, hE⟩ := bindO_some hE
 refine sH (appM (f := TUse.c) (TK rfl) rfl (TK rfl) (TK rfl) ⟨_, rfl⟩ rfl rfl (by decide) rfl rfl rfl rfl hpG rfl gx1) rfl ?_
 refine AOps.heq (h' := ((H.set c0_2 (some (.tok 4 x1.l.length))).set c0 (some (.cells (Usage_recorder.cg (some c0_2) a0))))) (by first | rfl | (rw [Heap.set_set]; rfl) | (funext n_; simp only [Heap.set]; (repeat' split) <;> first | rfl | (exfalso; simp_all; done) | (simp_all; done))) ?_
 refine s0 (nilP rfl) rfl ?_
 refine s0 (fieldP (TK rfl) rfl rfl (TK rfl) rfl rfl) rfl ?_
 refine sHn (storeP1 (TK rfl) rfl rfl hpG rfl (by repeat (first | exact SetAt.zero | apply SetAt.succ))) rfl rfl ?_
 refine AOps.heq (h' := ((H.set c0_2 (some (.tok 4 x1.l.length))).set c0 (some (.cells (Usage_recorder.cg (some c0_2) (Usage_recorder.mk a0.Fd a0.Fq x1)))))) (by first | rfl | (rw [Heap.set_set]; rfl) | (funext n_; simp only [Heap.set]; (repeat' split) <;> first | rfl | (exfalso; simp_all; done) | (simp_all; done))) ?_
 refine nil ?_
 repeat (first | refine xBlock_normal ?_ | refine xThen_exit ?_ | refine xBlock_exit ?_)
 obtain rfl := Option.some.inj hE
 refine retQ.normalF ((H.set c0_2 (some (.tok 4 x1.l.length))).set c0 (some (.cells (Usage_recorder.cg (some c0_2) (Usage_recorder.mk a0.Fd a0.Fq x1))))) (xs := []) rfl ⟨rfl, rfl⟩ ?_
 exact (fun _ _ h => h)
def Z43 (a0 : Usage_recorder) (a1 : Bs) : Option Usage_recorder := (Z18 a0.Fd a1).bind fun x2 => bif x2 then ((Z46 a0 a1 ([] : Bs) ([] : Bs)).bind fun x4 => some x4) else (some a0)
theorem Z43_walk {a0 : Usage_recorder} {a1 : Bs}  {c0 : Nat} {c0_2 : Nat} {r : Usage_recorder} (hE : Z43 a0 a1 = some r) (H : Heap) (hc0 : H c0 = some (.cells (Usage_recorder.cg (some c0_2) a0))) (ht0_2 : H c0_2 = some (.tok 4 a0.Fout.l.length)) : ACalls Try.prog 26 [.d (.ptr c0 0), .d (.str a1)] H fun v h' => v = .tup [] ∧ h' = ((H.set c0_2 (some (.tok 4 r.Fout.l.length))).set c0 (some (.cells (Usage_recorder.cg (some c0_2) r)))) := by
 unfold Z43 at hE
 refine ACalls.of_wp (fn := Try.f26) (c := _) Try.tab_ok (fun _ _ => Try.call26 _ _) Try.func26 rfl (n := 13) rfl (rs := []) rfl rfl ?_
 have ne_c0_c0_2 : c0 ≠ c0_2 := fun e_ => by subst e_; simp_all
 refine AWp.heqA (h' := ((H.set c0_2 (some (.tok 4 a0.Fout.l.length))).set c0 (some (.cells (Usage_recorder.cg (some c0_2) a0))))) (by funext n_; simp only [Heap.set]; (repeat' split) <;> simp_all) ?_
 refine seqK fun K1 hK1 => ?_
 refine region ?_
 refine s0 moveA rfl ?_
 refine s0 (nilP rfl) rfl ?_
 refine s0 (fieldP (TK rfl) rfl rfl (TK rfl) rfl rfl) rfl ?_
 refine s0 (loadP (TK rfl) rfl rfl hpG rfl) rfl ?_
 refine s0 moveA rfl ?_
 obtain ⟨x2, gx2, hE⟩ := bindO_some hE
 refine s0 (callP rfl rfl (fun H => Z18_walk gx2 H)) rfl ?_
 refine nil ?_
 refine hK1 _ ?_
 clear hK1 K1
 refine condE hE rfl (fun hc3 hE => ?_) (fun hc3 hE => ?_)
 ·refine region ?_
  refine s0 moveA rfl ?_
  refine s0 moveA rfl ?_
  obtain ⟨x4, gx4, hE⟩ := bindO_some hE
  refine sH (callH rfl rfl (Z46_walk gx4 _ hpG hpG)) rfl ?_
  refine AOps.heq (h' := ((H.set c0_2 (some (.tok 4 x4.Fout.l.length))).set c0 (some (.cells (Usage_recorder.cg (some c0_2) x4))))) (by first | rfl | (rw [Heap.set_set]; rfl) | (funext n_; simp only [Heap.set]; (repeat' split) <;> first | rfl | (exfalso; simp_all; done) | (simp_all; done))) ?_
  refine nil ?_
  repeat (first | refine xBlock_normal ?_ | refine xThen_exit ?_ | refine xBlock_exit ?_)
  obtain rfl := Option.some.inj hE
  refine retQ.normalF ((H.set c0_2 (some (.tok 4 x4.Fout.l.length))).set c0 (some (.cells (Usage_recorder.cg (some c0_2) x4)))) (xs := []) rfl ⟨rfl, rfl⟩ ?_
  exact (fun _ _ h => h)
 refine AWp.skip ?_
 repeat (first | refine xBlock_normal ?_ | refine xThen_exit ?_ | refine xBlock_exit ?_)
 obtain rfl := Option.some.inj hE
 refine retQ.normalF ((H.set c0_2 (some (.tok 4 a0.Fout.l.length))).set c0 (some (.cells (Usage_recorder.cg (some c0_2) a0)))) (xs := []) rfl ⟨rfl, rfl⟩ ?_
 exact (fun _ _ h => h)
def Z26 (a0 : (Sl Int)) : Option (Sl Int) := bif a0.nl then (some (Sl.nil : Sl Int)) else ((appC 8 (⟨false, []⟩ : Sl Int) a0).bind fun x7 => some x7)
theorem Z26_walk {a0 : (Sl Int)} {w0 : Option Nat}  {r : (Sl Int)} (hE : Z26 a0 = some r) (H : Heap)  : ACalls Try.prog 65 [.d (Sl.d 1 (intE .i64) w0 a0)] H fun v h' => v = .a (.d (Sl.d 1 (intE .i64) none r)) ∧ h' = H := by
 unfold Z26 at hE
 refine ACalls.of_wp (fn := Try.f65) (c := _) Try.tab_ok (fun _ _ => Try.call65 _ _) Try.func65 rfl (n := 8) rfl (rs := [.tmp 2]) rfl rfl ?_
 refine seqK fun K1 hK1 => ?_
 refine region ?_
 refine s0 (assignNil (k' := 1) rfl) rfl ?_
 refine nil ?_
 refine hK1 _ ?_
 clear hK1 K1
 refine seqK fun K2 hK2 => ?_
 refine seqK fun K3 hK3 => ?_
 refine region ?_
 refine s0 moveA rfl ?_
 refine s0 (eqNil (TK rfl) rfl rfl) rfl ?_
 refine nil ?_
 refine hK3 _ ?_
 clear hK3 K3
 refine condE hE rfl (fun hc4 hE => ?_) (fun hc4 hE => ?_)
 ·refine seqK fun K5 hK5 => ?_
  refine region ?_
  refine s0 (assignNil (k' := 1) rfl) rfl ?_
  refine nil ?_
  refine hK5 _ ?_
  clear hK5 K5
  refine AWp.ret ?_
  repeat (first | refine xBlock_ret ?_ | refine xThen_ret ?_)
  obtain rfl := Option.some.inj hE
  refine retQ.retF H rfl ⟨rfl, rfl⟩ ?_
  exact (fun _ _ h => h)
 refine AWp.skip ?_
 refine hK2 _ ?_
 clear hK2 K2
 refine seqK fun K6 hK6 => ?_
 refine region ?_
 refine s0 (buildSliceF (TK rfl) rfl (TK rfl) rfl rfl rfl rfl rfl rfl) rfl ?_
 refine s0 moveA rfl ?_
 obtain ⟨x7, gx7, hE⟩ := bindO_some hE
 refine s0 (appFM (f := (intE .i64)) (TK rfl) rfl (TK rfl) (TK rfl) ⟨_, rfl⟩ rfl rfl (by decide) rfl rfl rfl (by intro q h; cases h <;> decide) rfl rfl gx7) rfl ?_
 refine s0 assignA rfl ?_
 refine nil ?_
 refine hK6 _ ?_
 clear hK6 K6
 refine AWp.ret ?_
 repeat (first | refine xBlock_ret ?_ | refine xThen_ret ?_)
 obtain rfl := Option.some.inj hE
 refine retQ.retF H rfl ⟨rfl, rfl⟩ ?_
 exact (fun _ _ h => h)
def Z34 (a0 : TRef) : Option Bool := guardO ((decide ((0 : Int) < ((a0.FWraps.l.length : Nat) : Int)))) (a0.FWraps.l[0]?) (0 : Int) fun x4 => some ((decide ((0 : Int) < ((a0.FWraps.l.length : Nat) : Int))) && (decide (x4 = (1 : Int))))
theorem Z34_walk {a0 : TRef}   {r : Bool} (hE : Z34 a0 = some r) (H : Heap)  : ACalls Try.prog 67 [.agg (TRef.c a0)] H fun v h' => v = .a (.d (.bool r)) ∧ h' = H := by
 unfold Z34 at hE
 refine ACalls.of_wp (fn := Try.f67) (c := _) Try.tab_ok (fun _ _ => Try.call67 _ _) Try.func67 rfl (n := 14) rfl (rs := [.tmp 2]) rfl rfl ?_
 refine seqK fun K1 hK1 => ?_
 refine region ?_
 refine s0 (boxV rfl) rfl ?_
 refine s0 assignA rfl ?_
 refine nil ?_
 refine hK1 _ ?_
 clear hK1 K1
 refine seqK fun K2 hK2 => ?_
 refine region ?_
 refine s0 (fieldVA (TK rfl) rfl rfl (TK rfl) rfl rfl) rfl ?_
 refine s0 (loadV (TK rfl) rfl rfl rfl) rfl ?_
 refine sLen (f := (intE .i64)) (s := a0.FWraps) (TK rfl) rfl rfl rfl rfl fun hL3 => ?_
 refine s0 (binI rfl rfl rfl) rfl ?_
 refine s0 moveA rfl ?_
 refine gC rfl rfl (fun hC => fieldVA (TK rfl) rfl rfl (TK rfl) rfl rfl) rfl ?_
 refine gC rfl rfl (fun hC => ungdA (k := 8) rfl (loadV (TK rfl) rfl rfl rfl)) rfl ?_
 obtain ⟨x4, gx4, hE⟩ := guardO_some hE
 refine gC rfl rfl (fun hC => ungdA (k := 9) rfl (idxMn (f := (intE .i64)) (n := 0) (TK rfl) rfl (TK rfl) rfl rfl rfl (gx4 hC))) rfl ?_
 refine gC rfl rfl (fun hC => ungdA (k := 10) rfl (loadV (TK rfl) rfl rfl rfl)) rfl ?_
 refine gC rfl rfl (fun hC => ungdA (k := 11) rfl (binI rfl rfl rfl)) rfl ?_
 refine s0 (pickAndA rfl rfl rfl) rfl ?_
 refine s0 assignA rfl ?_
 refine nil ?_
 refine hK2 _ ?_
 clear hK2 K2
 refine AWp.ret ?_
 repeat (first | refine xBlock_ret ?_ | refine xThen_ret ?_)
 obtain rfl := Option.some.inj hE
 refine retQ.retF H rfl ⟨rfl, rfl⟩ ?_
 exact (fun _ _ h => h)
def Z37_j3 (a0 : TRef)  (s3_4 : (Sl Int)) : Option TRef := (Z26 s3_4).bind fun x6 => some (TRef.mk a0.FName x6)
def Z37 (a0 : TRef) : Option TRef := (Z34 a0).bind fun x8 => bif x8 then ((partC a0.FWraps (some (1 : Int)) none).bind fun x10 => Z37_j3 a0  x10) else (Z37_j3 a0  a0.FWraps)
theorem Z37_walk {a0 : TRef}   {r : TRef} (hE : Z37 a0 = some r) (H : Heap)  : ACalls Try.prog 57 [.agg (TRef.c a0)] H fun v h' => v = .a (.agg (TRef.c r)) ∧ h' = H := by
 unfold Z37 at hE
 refine ACalls.of_wp (fn := Try.f57) (c := _) Try.tab_ok (fun _ _ => Try.call57 _ _) Try.func57 rfl (n := 15) rfl (rs := [.cell 2 49]) rfl rfl ?_
 refine seqK fun K1 hK1 => ?_
 refine region ?_
 refine s0 (boxV rfl) rfl ?_
 refine sL (allocLA (TK rfl) rfl) rfl ?_
 refine nil ?_
 refine hK1 _ ?_
 clear hK1 K1
 refine seqK fun K2 hK2 => ?_
 refine region ?_
 refine s0 (fieldVA (TK rfl) rfl rfl (TK rfl) rfl rfl) rfl ?_
 refine s0 (loadV (TK rfl) rfl rfl rfl) rfl ?_
 refine s0 assignA rfl ?_
 refine nil ?_
 refine hK2 _ ?_
 clear hK2 K2
 refine seqJH (KeepsT.A (k := 1) (KeepsT.A (k := 2) KeepsT.nil)) (fun (z : (Sl Int)) => [(3, .a (.d (Sl.d 1 (intE .i64) none z)))]) (fun z => H) (fun z => Z37_j3 a0 z = some r) ?_ ?_
 ·intro K3 hK3
  refine seqK fun K7 hK7 => ?_
  refine region ?_
  refine s0 (loadV (TK rfl) rfl rfl rfl) rfl ?_
  obtain ⟨x8, gx8, hE⟩ := bindO_some hE
  refine s0 (callP rfl rfl (fun H => Z34_walk gx8 H)) rfl ?_
  refine nil ?_
  refine hK7 _ ?_
  clear hK7 K7
  refine condE hE rfl (fun hc9 hE => ?_) (fun hc9 hE => ?_)
  ·refine region ?_
   refine s0 moveA rfl ?_
   obtain ⟨x10, gx10, hE⟩ := bindO_some hE
   refine s0 (partM (f := (intE .i64)) (l := (some (1 : Int))) (r := none) (TK rfl) rfl (TK rfl) rfl rfl rfl trivial gx10) rfl ?_
   refine s0 assignA rfl ?_
   refine nil ?_
   exact hK3 _ x10 Weak.toA hE
  refine AWp.skip ?_
  exact hK3 _ a0.FWraps Weak.toA hE
 rintro s3_4 hE
 try dsimp only at hE
 unfold Z37_j3 at hE
 refine seqK fun K5 hK5 => ?_
 refine AWp.draw rfl ?_
 refine DOps.s0 (fieldVA (TK rfl) rfl rfl (TK rfl) rfl rfl) rfl ?_
 refine DOps.s0 (loadV (TK rfl) rfl rfl rfl) rfl ?_
 refine DOps.s0 moveA rfl ?_
 obtain ⟨x6, gx6, hE⟩ := bindO_some hE
 refine DOps.s0 (callP rfl rfl (fun H => Z26_walk gx6 H)) rfl ?_
 refine DOps.s0 (build Try.tab_ok rfl rfl rfl rfl rfl rfl) rfl ?_
 refine DOps.sLn (storeLFA (TK rfl) rfl rfl rfl rfl rfl) ?_
 refine DOps.nil (by decide +kernel) ?_
 refine hK5 _ ?_
 clear hK5 K5
 refine AWp.ret ?_
 repeat (first | refine xBlock_ret ?_ | refine xThen_ret ?_)
 obtain rfl := Option.some.inj hE
 refine retQ.retF H rfl ⟨rfl, rfl⟩ ?_
 exact (fun _ _ h => h)
def Z33 (a0 : TRef) : Option Bool := (Z37 a0).bind fun x3 => guardO ((decide ((0 : Int) < ((x3.FWraps.l.length : Nat) : Int)))) (x3.FWraps.l[0]?) (0 : Int) fun x6 => some ((decide ((0 : Int) < ((x3.FWraps.l.length : Nat) : Int))) && (decide (x6 = (2 : Int))))
theorem Z33_walk {a0 : TRef}   {r : Bool} (hE : Z33 a0 = some r) (H : Heap)  : ACalls Try.prog 56 [.agg (TRef.c a0)] H fun v h' => v = .a (.d (.bool r)) ∧ h' = H := by
 unfold Z33 at hE
 refine ACalls.of_wp (fn := Try.f56) (c := _) Try.tab_ok (fun _ _ => Try.call56 _ _) Try.func56 rfl (n := 16) rfl (rs := [.tmp 2]) rfl rfl ?_
 refine seqK fun K1 hK1 => ?_
 refine region ?_
 refine sL (boxL rfl (by repeat (first | exact Snoc.nil | apply Snoc.cons))) rfl ?_
 refine s0 assignA rfl ?_
 refine nil ?_
 refine hK1 _ ?_
 clear hK1 K1
 refine seqK fun K2 hK2 => ?_
 refine region ?_
 refine s0 (loadL (TK rfl) rfl rfl rfl rfl) rfl ?_
 obtain ⟨x3, gx3, hE⟩ := bindO_some hE
 refine s0 (callP rfl rfl (fun H => Z37_walk gx3 H)) rfl ?_
 refine sLn (storeLFA (TK rfl) rfl rfl rfl rfl rfl) ?_
 refine nil ?_
 refine hK2 _ ?_
 clear hK2 K2
 refine seqK fun K4 hK4 => ?_
 refine region ?_
 refine s0 (fieldL (TK rfl) rfl rfl (TK rfl) rfl rfl) rfl ?_
 refine s0 (loadL (TK rfl) rfl rfl rfl rfl) rfl ?_
 refine sLen (f := (intE .i64)) (s := x3.FWraps) (TK rfl) rfl rfl rfl rfl fun hL5 => ?_
 refine s0 (binI rfl rfl rfl) rfl ?_
 refine s0 moveA rfl ?_
 refine gC rfl rfl (fun hC => fieldL (TK rfl) rfl rfl (TK rfl) rfl rfl) rfl ?_
 refine gC rfl rfl (fun hC => ungdLA (k := 10) rfl (loadL (TK rfl) rfl rfl rfl rfl)) rfl ?_
 obtain ⟨x6, gx6, hE⟩ := guardO_some hE
 refine gC rfl rfl (fun hC => ungdA (k := 11) rfl (idxMn (f := (intE .i64)) (n := 0) (TK rfl) rfl (TK rfl) rfl rfl rfl (gx6 hC))) rfl ?_
 refine gC rfl rfl (fun hC => ungdA (k := 12) rfl (loadV (TK rfl) rfl rfl rfl)) rfl ?_
 refine gC rfl rfl (fun hC => ungdA (k := 13) rfl (binI rfl rfl rfl)) rfl ?_
 refine s0 (pickAndA rfl rfl rfl) rfl ?_
 refine s0 assignA rfl ?_
 refine nil ?_
 refine hK4 _ ?_
 clear hK4 K4
 refine AWp.ret ?_
 repeat (first | refine xBlock_ret ?_ | refine xThen_ret ?_)
 obtain rfl := Option.some.inj hE
 refine retQ.retF H rfl ⟨rfl, rfl⟩ ?_
 exact (fun _ _ h => h)
def Z32 (a0 : TRef) : Option (TRef × Bool) := (Z33 a0).bind fun x4 => bif (!x4) then (some ((TRef.mk ([] : Bs) (Sl.nil : Sl Int)), false)) else ((Z37 a0).bind fun x8 => (partC x8.FWraps (some (1 : Int)) none).bind fun x10 => some ((TRef.mk x8.FName x10), true))
theorem Z32_walk {a0 : TRef}   {r : (TRef × Bool)} (hE : Z32 a0 = some r) (H : Heap)  : ACalls Try.prog 38 [.agg (TRef.c a0)] H fun v h' => v = .tup [.agg (TRef.c r.1), .d (.bool r.2)] ∧ h' = H := by
 unfold Z32 at hE
 refine ACalls.of_wp (fn := Try.f38) (c := _) Try.tab_ok (fun _ _ => Try.call38 _ _) Try.func38 rfl (n := 15) rfl (rs := [.cell 2 49, .tmp 3]) rfl rfl ?_
 refine seqK fun K1 hK1 => ?_
 refine region ?_
 refine sL (boxL rfl (by repeat (first | exact Snoc.nil | apply Snoc.cons))) rfl ?_
 refine sL (allocLA (TK rfl) rfl) rfl ?_
 refine s0 assignA rfl ?_
 refine nil ?_
 refine hK1 _ ?_
 clear hK1 K1
 refine seqK fun K2 hK2 => ?_
 refine seqK fun K3 hK3 => ?_
 refine region ?_
 refine s0 (loadL (TK rfl) rfl rfl rfl rfl) rfl ?_
 obtain ⟨x4, gx4, hE⟩ := bindO_some hE
 refine s0 (callP rfl rfl (fun H => Z33_walk gx4 H)) rfl ?_
 refine s0 (notB rfl) rfl ?_
 refine nil ?_
 refine hK3 _ ?_
 clear hK3 K3
 refine condE hE rfl (fun hc5 hE => ?_) (fun hc5 hE => ?_)
 ·refine seqK fun K6 hK6 => ?_
  refine region ?_
  refine s0 (build Try.tab_ok rfl rfl rfl rfl rfl rfl) rfl ?_
  refine sLn (storeLFA (TK rfl) rfl rfl rfl rfl rfl) ?_
  refine s0 assignA rfl ?_
  refine nil ?_
  refine hK6 _ ?_
  clear hK6 K6
  refine AWp.ret ?_
  repeat (first | refine xBlock_ret ?_ | refine xThen_ret ?_)
  obtain rfl := Option.some.inj hE
  refine retQ.retF H rfl ⟨rfl, rfl⟩ ?_
  exact (fun _ _ h => h)
 refine AWp.skip ?_
 refine hK2 _ ?_
 clear hK2 K2
 refine seqK fun K7 hK7 => ?_
 refine region ?_
 refine s0 (loadL (TK rfl) rfl rfl rfl rfl) rfl ?_
 obtain ⟨x8, gx8, hE⟩ := bindO_some hE
 refine s0 (callP rfl rfl (fun H => Z37_walk gx8 H)) rfl ?_
 refine sLn (storeLFA (TK rfl) rfl rfl rfl rfl rfl) ?_
 refine nil ?_
 refine hK7 _ ?_
 clear hK7 K7
 refine seqK fun K9 hK9 => ?_
 refine region ?_
 refine s0 (fieldL (TK rfl) rfl rfl (TK rfl) rfl rfl) rfl ?_
 refine s0 (loadL (TK rfl) rfl rfl rfl rfl) rfl ?_
 obtain ⟨x10, gx10, hE⟩ := bindO_some hE
 refine s0 (partM (f := (intE .i64)) (l := (some (1 : Int))) (r := none) (TK rfl) rfl (TK rfl) rfl rfl rfl trivial gx10) rfl ?_
 refine s0 (fieldL (TK rfl) rfl rfl (TK rfl) rfl rfl) rfl ?_
 refine sLn (storeL1 (TK rfl) rfl rfl rfl rfl (by repeat (first | exact SetAt.zero | apply SetAt.succ)) (by repeat (first | exact SetAt.zero | apply SetAt.succ))) ?_
 refine nil ?_
 refine hK9 _ ?_
 clear hK9 K9
 refine seqK fun K11 hK11 => ?_
 refine region ?_
 refine s0 (loadL (TK rfl) rfl rfl rfl rfl) rfl ?_
 refine sLn (storeLFA (TK rfl) rfl rfl rfl rfl rfl) ?_
 refine s0 assignA rfl ?_
 refine nil ?_
 refine hK11 _ ?_
 clear hK11 K11
 refine AWp.ret ?_
 repeat (first | refine xBlock_ret ?_ | refine xThen_ret ?_)
 obtain rfl := Option.some.inj hE
 refine retQ.retF H rfl ⟨rfl, rfl⟩ ?_
 exact (fun _ _ h => h)
def Z21_j2  (y3_l0 : TInput) : Option (TInput × Bool) := some ((TInput.mk ([] : Bs) TRef.zero false TValue.zero (Sl.nil : Sl TDir)), false)
def Z21_l7 (a0 : (Sl TInput)) (a1 : Bs)  : Nat → Nat → TInput → Option (TInput × Bool)
 | 0, _, _ => none
 | n7 + 1, s10_8, y9_l0 => bif (decide (((s10_8 : Nat) : Int) < ((a0.l.length : Nat) : Int))) then ((a0.l[s10_8]?).bind fun x15 => bif ((x15.FName == a1)) then (some (x15, true)) else ((Z21_l7 a0 a1 n7) (s10_8 + 1) y9_l0)) else (Z21_j2   y9_l0)
def Z21 (a0 : (Sl TInput)) (a1 : Bs) : Option (TInput × Bool) := Z21_l7 a0 a1 (a0.l.length + 1) 0 TInput.zero
theorem Z21_walk {a0 : (Sl TInput)} {a1 : Bs} {w0 : Option Nat}  {r : (TInput × Bool)} (hE : Z21 a0 a1 = some r) (H : Heap)  : ACalls Try.prog 41 [.d (Sl.d 10 TInput.c w0 a0), .d (.str a1)] H fun v h' => v = .tup [.agg (TInput.c r.1), .d (.bool r.2)] ∧ h' = H := by
 unfold Z21 at hE
 refine ACalls.of_wp (fn := Try.f41) (c := _) Try.tab_ok (fun _ _ => Try.call41 _ _) Try.func41 rfl (n := 21) rfl (rs := [.cell 4 56, .tmp 5]) rfl rfl ?_
 refine seqK fun K1 hK1 => ?_
 refine region ?_
 refine sL (allocLA (TK rfl) rfl) rfl ?_
 refine s0 assignA rfl ?_
 refine nil ?_
 refine hK1 _ ?_
 clear hK1 K1
 refine seqJ (KeepsT.A (k := 4) KeepsT.nil) (fun (z : TInput) => []) (fun z => [TInput.c z]) (fun z => H) (fun z => Z21_j2 z = some r) ?_ ?_
 ·intro K2 hK2
  refine seqK fun K5 hK5 => ?_
  refine region ?_
  refine s0 moveA rfl ?_
  refine sLen (f := TInput.c) (s := a0) (TK rfl) rfl rfl rfl rfl fun hL6 => ?_
  refine s0 moveA rfl ?_
  refine nil ?_
  refine hK5 _ ?_
  clear hK5 K5
  refine block ?_
  refine loopO (KeepsT.A (k := 1) (KeepsT.A (k := 4) (KeepsT.A (k := 8) (KeepsT.A (k := 9) KeepsT.nil)))) (fun (z : Nat × Nat × TInput) => [(10, .a (.d (.int .i64 ((z.2.1 : Nat) : Int))))]) (fun z => [TInput.c z.2.2]) (fun z => H) (fun z => z.1) (fun z => Z21_l7 a0 a1 z.1 z.2.1 z.2.2 = some r) ((a0.l.length + 1), 0, TInput.zero) hE Weak.toA ?_
  rintro ⟨n7, s10_8, y9_l0⟩ hE K7 hK7
  try dsimp only at hE
  cases n7 with
  | zero => cases hE
  | succ n7 =>
    rw [Z21_l7] at hE
    refine seqK fun K10 hK10 => ?_
    refine region ?_
    refine s0 (binI rfl rfl rfl) rfl ?_
    refine nil ?_
    refine hK10 _ ?_
    clear hK10 K10
    refine seqK fun K11 hK11 => ?_
    refine condE hE rfl (fun hc12 hE => ?_) (fun hc12 hE => ?_)
    ·try dsimp only at hc12
     have hf12 := of_decide_eq_true hc12
     refine AWp.skip ?_
     refine hK11 _ ?_
     clear hK11 K11
     refine seqK fun K13 hK13 => ?_
     refine block ?_
     refine seqK fun K14 hK14 => ?_
     refine region ?_
     obtain ⟨x15, gx15, hE⟩ := bindO_some hE
     refine s0 (idxMn (f := TInput.c) (n := s10_8) (TK rfl) rfl (TK rfl) rfl rfl rfl gx15) rfl ?_
     refine s0 (loadV (TK rfl) rfl rfl rfl) rfl ?_
     refine sL (allocLA (TK rfl) rfl) rfl ?_
     refine sLn (storeLFA (TK rfl) rfl rfl rfl rfl rfl) ?_
     refine nil ?_
     refine hK14 _ ?_
     clear hK14 K14
     refine freezeA 7 _ rfl (Keeps.c (k := 1) (by conv => lhs; whnf) (by rfl) (Keeps.c (k := 4) (by conv => lhs; whnf) (by rfl) (Keeps.c (k := 8) (by conv => lhs; whnf) (by rfl) (Keeps.c (k := 9) (by conv => lhs; whnf) (by rfl) (Keeps.c (k := 10) (by conv => lhs; whnf) (by rfl) Keeps.nil))))) ?_
     refine seqK fun K16 hK16 => ?_
     refine region ?_
     refine s0 (fieldVA (TK rfl) rfl rfl (TK rfl) rfl rfl) rfl ?_
     refine s0 (loadV (TK rfl) rfl rfl rfl) rfl ?_
     refine s0 moveA rfl ?_
     refine s0 (binS rfl rfl rfl) rfl ?_
     refine nil ?_
     refine hK16 _ ?_
     clear hK16 K16
     refine condE hE rfl (fun hc17 hE => ?_) (fun hc17 hE => ?_)
     ·refine seqK fun K18 hK18 => ?_
      refine region ?_
      refine s0 (loadV (TK rfl) rfl rfl rfl) rfl ?_
      refine sLn (storeLFA (TK rfl) rfl rfl rfl rfl rfl) ?_
      refine s0 assignA rfl ?_
      refine nil ?_
      refine hK18 _ ?_
      clear hK18 K18
      refine AWp.ret ?_
      repeat (first | refine xBlock_ret ?_ | refine xThen_ret ?_)
      obtain rfl := Option.some.inj hE
      refine retQ.retF H rfl ⟨rfl, rfl⟩ ?_
      exact (fun _ _ h => h)
     refine AWp.skip ?_
     refine hK13 _ ?_
     clear hK13 K13
     refine region ?_
     refine s0 (addIA rfl rfl) rfl ?_
     refine s0 moveA rfl ?_
     refine nil ?_
     exact hK7 _ (n7, (s10_8 + 1), y9_l0) Weak.toA hE (Nat.lt_succ_self _)
    refine AWp.exit ?_
    exact hK2 _ y9_l0 Weak.toA hE
 rintro y3_l0 hE
 try dsimp only at hE
 unfold Z21_j2 at hE
 refine seqK fun K4 hK4 => ?_
 refine region ?_
 refine s0 (build Try.tab_ok rfl rfl rfl rfl rfl rfl) rfl ?_
 refine sLn (storeLFA (TK rfl) rfl rfl rfl rfl rfl) ?_
 refine s0 assignA rfl ?_
 refine nil ?_
 refine hK4 _ ?_
 clear hK4 K4
 refine AWp.ret ?_
 repeat (first | refine xBlock_ret ?_ | refine xThen_ret ?_)
 obtain rfl := Option.some.inj hE
 refine retQ.retF H rfl ⟨rfl, rfl⟩ ?_
 exact (fun _ _ h => h)
def Z47_j5  (y6_c0 : Usage_recorder) : Option Usage_recorder := some y6_c0
def Z47_l13 (a1 : TValue) (x8 : (TRef × Bool)) (k_rec_27 : Usage_recorder → TValue → TRef → Option Usage_recorder) : Nat → Nat → Usage_recorder → Option Usage_recorder
 | 0, _, _ => none
 | n13 + 1, s27_14, y15_c0 => bif (decide (((s27_14 : Nat) : Int) < ((a1.FItems.l.length : Nat) : Int))) then ((a1.FItems.l[s27_14]?).bind fun x21 => (k_rec_27 y15_c0 x21 x8.1).bind fun x22 => (Z47_l13 a1 x8 k_rec_27 n13) (s27_14 + 1) x22) else (Z47_j5   y15_c0)
def Z47_j41 (s89_36 : Int) (k_next_35 : Int → Usage_recorder → Option Usage_recorder) (y42_c0 : Usage_recorder) : Option Usage_recorder := (addC s89_36 (1 : Int)).bind fun x43 => k_next_35 x43 y42_c0
def Z47_l35 (a1 : TValue) (x24 : (TDef × Bool)) (k_rec_27 : Usage_recorder → TValue → TRef → Option Usage_recorder) : Nat → Int → Usage_recorder → Option Usage_recorder
 | 0, _, _ => none
 | n35 + 1, s89_36, y37_c0 => bif (decide (s89_36 < (if ((a1.FItems.l.length : Nat) : Int) < ((a1.FKeys.l.length : Nat) : Int) then ((a1.FItems.l.length : Nat) : Int) else ((a1.FKeys.l.length : Nat) : Int)))) then ((idxC a1.FKeys.l s89_36).bind fun x46 => (Z21 x24.1.FInputs x46).bind fun x47 => bif x47.2 then ((idxC a1.FItems.l s89_36).bind fun x50 => (k_rec_27 y37_c0 x50 x47.1.FType).bind fun x51 => Z47_j41 s89_36 ((Z47_l35 a1 x24 k_rec_27 n35)) x51) else (Z47_j41 s89_36 ((Z47_l35 a1 x24 k_rec_27 n35)) y37_c0)) else (some y37_c0)
def Z47_n : Nat → Usage_recorder → TValue → TRef → Option Usage_recorder
 | 0, _, _, _ => none
 | n + 1, a0, a1, a2 => bif (decide (a1.FKind = (5 : Int))) then ((Z32 a2).bind fun x8 => bif x8.2 then (Z47_l13 a1 x8 (Z47_n n) (a1.FItems.l.length + 1) 0 a0) else (Z47_j5   a0)) else ((Z20 a0.Fd a2.FName).bind fun x24 => guardO (((decide (a1.FKind = (4 : Int))) && (decide (x24.1.FKind = (4 : Int))))) (Z23 a2.FName) false fun x26 => bif (((decide (a1.FKind = (4 : Int))) && (decide (x24.1.FKind = (4 : Int)))) && (!x26)) then ((Z46 a0 a2.FName a1.FText ([] : Bs)).bind fun x28 => some x28) else (guardO (((decide (a1.FKind = (6 : Int))) && (decide (x24.1.FKind = (5 : Int))))) (Z23 a2.FName) false fun x30 => bif (((decide (a1.FKind = (6 : Int))) && (decide (x24.1.FKind = (5 : Int)))) && (!x30)) then (Z47_l35 a1 x24 (Z47_n n) F0 (0 : Int) a0) else (some a0)))
theorem Z47_step (n : Nat) (ih_27 : ∀ {a0 : Usage_recorder} {a1 : TValue} {a2 : TRef}  {c0 : Nat} {c0_2 : Nat} {r : Usage_recorder}, Z47_n n a0 a1 a2 = some r → ∀ (H : Heap) (hc0 : H c0 = some (.cells (Usage_recorder.cg (some c0_2) a0))) (ht0_2 : H c0_2 = some (.tok 4 a0.Fout.l.length)), ACalls Try.prog 27 [.d (.ptr c0 0), .agg (TValue.c a1), .agg (TRef.c a2)] H fun v h' => v = .tup [] ∧ h' = ((H.set c0_2 (some (.tok 4 r.Fout.l.length))).set c0 (some (.cells (Usage_recorder.cg (some c0_2) r))))) : ∀ {a0 : Usage_recorder} {a1 : TValue} {a2 : TRef}  {c0 : Nat} {c0_2 : Nat} {r : Usage_recorder}, Z47_n (n + 1) a0 a1 a2 = some r → ∀ (H : Heap) (hc0 : H c0 = some (.cells (Usage_recorder.cg (some c0_2) a0))) (ht0_2 : H c0_2 = some (.tok 4 a0.Fout.l.length)), ACalls Try.prog 27 [.d (.ptr c0 0), .agg (TValue.c a1), .agg (TRef.c a2)] H fun v h' => v = .tup [] ∧ h' = ((H.set c0_2 (some (.tok 4 r.Fout.l.length))).set c0 (some (.cells (Usage_recorder.cg (some c0_2) r)))) := by
 intro a0 a1 a2  c0 c0_2 r hE H hc0 ht0_2
 rw [Z47_n] at hE
 refine ACalls.of_wp (fn := Try.f27) (c := _) Try.tab_ok (fun _ _ => Try.call27 _ _) Try.func27 rfl (n := 114) rfl (rs := []) rfl rfl ?_
 have ne_c0_c0_2 : c0 ≠ c0_2 := fun e_ => by subst e_; simp_all
 refine AWp.heqA (h' := ((H.set c0_2 (some (.tok 4 a0.Fout.l.length))).set c0 (some (.cells (Usage_recorder.cg (some c0_2) a0))))) (by funext n_; simp only [Heap.set]; (repeat' split) <;> simp_all) ?_
 refine seqK fun K1 hK1 => ?_
 refine region ?_
 refine s0 (boxV rfl) rfl ?_
 refine s0 (boxV rfl) rfl ?_
 refine nil ?_
 refine hK1 _ ?_
 clear hK1 K1
 refine seqK fun K2 hK2 => ?_
 refine seqK fun K3 hK3 => ?_
 refine region ?_
 refine s0 (fieldVA (TK rfl) rfl rfl (TK rfl) rfl rfl) rfl ?_
 refine s0 (loadV (TK rfl) rfl rfl rfl) rfl ?_
 refine s0 (binI rfl rfl rfl) rfl ?_
 refine nil ?_
 refine hK3 _ ?_
 clear hK3 K3
 refine condE hE rfl (fun hc4 hE => ?_) (fun hc4 hE => ?_)
 ·refine seqJH KeepsT.nil (fun (z : Usage_recorder) => []) (fun z => ((H.set c0_2 (some (.tok 4 z.Fout.l.length))).set c0 (some (.cells (Usage_recorder.cg (some c0_2) z))))) (fun z => Z47_j5 z = some r) ?_ ?_
  ·intro K5 hK5
   refine seqK fun K7 hK7 => ?_
   refine region ?_
   refine s0 (loadV (TK rfl) rfl rfl rfl) rfl ?_
   obtain ⟨x8, gx8, hE⟩ := bindO_some hE
   refine s0 (callP rfl rfl (fun H => Z32_walk gx8 H)) rfl ?_
   refine s0 moveA rfl ?_
   refine s0 (extract rfl rfl) rfl ?_
   refine s0 (extract rfl rfl) rfl ?_
   refine sL (allocLA (TK rfl) rfl) rfl ?_
   refine sLn (storeLFA (TK rfl) rfl rfl rfl rfl rfl) ?_
   refine s0 assignA rfl ?_
   refine nil ?_
   refine hK7 _ ?_
   clear hK7 K7
   refine freezeA 6 _ rfl (Keeps.c (k := 0) (by conv => lhs; whnf) (by rfl) (Keeps.c (k := 4) (by conv => lhs; whnf) (by rfl) (Keeps.c (k := 7) (by conv => lhs; whnf) (by rfl) Keeps.nil))) ?_
   refine seqK fun K9 hK9 => ?_
   refine region ?_
   refine s0 moveA rfl ?_
   refine nil ?_
   refine hK9 _ ?_
   clear hK9 K9
   refine condE hE rfl (fun hc10 hE => ?_) (fun hc10 hE => ?_)
   ·refine seqK fun K11 hK11 => ?_
    refine region ?_
    refine s0 (fieldVA (TK rfl) rfl rfl (TK rfl) rfl rfl) rfl ?_
    refine s0 (loadV (TK rfl) rfl rfl (congrArg (fun x => some (A.d x)) (TValue.FItemsD_eq _))) rfl ?_
    refine sLen (f := TValue.c) (s := a1.FItems) (TK rfl) rfl rfl rfl rfl fun hL12 => ?_
    refine s0 moveA rfl ?_
    refine nil ?_
    refine hK11 _ ?_
    clear hK11 K11
    refine block ?_
    refine loopH (KeepsT.A (k := 0) (KeepsT.A (k := 6) (KeepsT.A (k := 25) (KeepsT.A (k := 26) KeepsT.nil)))) (fun (z : Nat × Nat × Usage_recorder) => [(27, .a (.d (.int .i64 ((z.2.1 : Nat) : Int))))]) (fun z => ((H.set c0_2 (some (.tok 4 z.2.2.Fout.l.length))).set c0 (some (.cells (Usage_recorder.cg (some c0_2) z.2.2))))) (fun z => z.1) (fun z => Z47_l13 a1 x8 (Z47_n n) z.1 z.2.1 z.2.2 = some r) ((a1.FItems.l.length + 1), 0, a0) hE Weak.toA ?_
    rintro ⟨n13, s27_14, y15_c0⟩ hE K13 hK13
    try dsimp only at hE
    cases n13 with
    | zero => cases hE
    | succ n13 =>
      rw [Z47_l13] at hE
      refine seqK fun K16 hK16 => ?_
      refine region ?_
      refine s0 (binI rfl rfl rfl) rfl ?_
      refine nil ?_
      refine hK16 _ ?_
      clear hK16 K16
      refine seqK fun K17 hK17 => ?_
      refine condE hE rfl (fun hc18 hE => ?_) (fun hc18 hE => ?_)
      ·try dsimp only at hc18
       have hf18 := of_decide_eq_true hc18
       refine AWp.skip ?_
       refine hK17 _ ?_
       clear hK17 K17
       refine seqK fun K19 hK19 => ?_
       refine block ?_
       refine seqK fun K20 hK20 => ?_
       refine region ?_
       obtain ⟨x21, gx21, hE⟩ := bindO_some hE
       refine s0 (idxMn (f := TValue.c) (n := s27_14) (TK rfl) rfl (TK rfl) rfl rfl rfl gx21) rfl ?_
       refine s0 (loadV (TK rfl) rfl rfl rfl) rfl ?_
       refine sL (allocLA (TK rfl) rfl) rfl ?_
       refine sLn (storeLFA (TK rfl) rfl rfl rfl rfl rfl) ?_
       refine nil ?_
       refine hK20 _ ?_
       clear hK20 K20
       refine freezeA 9 _ rfl (Keeps.c (k := 0) (by conv => lhs; whnf) (by rfl) (Keeps.c (k := 6) (by conv => lhs; whnf) (by rfl) (Keeps.c (k := 25) (by conv => lhs; whnf) (by rfl) (Keeps.c (k := 26) (by conv => lhs; whnf) (by rfl) (Keeps.c (k := 27) (by conv => lhs; whnf) (by rfl) Keeps.nil))))) ?_
       refine region ?_
       refine s0 moveA rfl ?_
       refine s0 (loadV (TK rfl) rfl rfl rfl) rfl ?_
       refine s0 (loadV (TK rfl) rfl rfl rfl) rfl ?_
       obtain ⟨x22, gx22, hE⟩ := bindO_some hE
       refine sH (callH rfl rfl (ih_27 gx22 _ hpG hpG)) rfl ?_
       refine AOps.heq (h' := ((H.set c0_2 (some (.tok 4 x22.Fout.l.length))).set c0 (some (.cells (Usage_recorder.cg (some c0_2) x22))))) (by first | rfl | (rw [Heap.set_set]; rfl) | (funext n_; simp only [Heap.set]; (repeat' split) <;> first | rfl | (exfalso; simp_all; done) | (simp_all; done))) ?_
       refine nil ?_
       refine hK19 _ ?_
       clear hK19 K19
       refine region ?_
       refine s0 (addIA rfl rfl) rfl ?_
       refine s0 moveA rfl ?_
       refine nil ?_
       exact hK13 _ (n13, (s27_14 + 1), x22) Weak.toA hE (Nat.lt_succ_self _)
      refine AWp.exit ?_
      exact hK5 _ y15_c0 Weak.toA hE
   refine AWp.skip ?_
   exact hK5 _ a0 Weak.toA hE
  rintro y6_c0 hE
  try dsimp only at hE
  unfold Z47_j5 at hE
  refine AWp.ret ?_
  repeat (first | refine xBlock_ret ?_ | refine xThen_ret ?_)
  obtain rfl := Option.some.inj hE
  refine retQ.retF ((H.set c0_2 (some (.tok 4 y6_c0.Fout.l.length))).set c0 (some (.cells (Usage_recorder.cg (some c0_2) y6_c0)))) (xs := []) rfl ⟨rfl, rfl⟩ ?_
  exact (fun _ _ h => h)
 refine AWp.skip ?_
 refine hK2 _ ?_
 clear hK2 K2
 refine seqK fun K23 hK23 => ?_
 refine AWp.draw rfl ?_
 refine DOps.s0 moveA rfl ?_
 refine DOps.s0 (nilP rfl) rfl ?_
 refine DOps.s0 (fieldP (TK rfl) rfl rfl (TK rfl) rfl rfl) rfl ?_
 refine DOps.s0 (loadP (TK rfl) rfl rfl hpG rfl) rfl ?_
 refine DOps.s0 (fieldVA (TK rfl) rfl rfl (TK rfl) rfl rfl) rfl ?_
 refine DOps.s0 (loadV (TK rfl) rfl rfl rfl) rfl ?_
 obtain ⟨x24, gx24, hE⟩ := bindO_some hE
 refine DOps.s0 (callP rfl rfl (fun H => Z20_walk gx24 H)) rfl ?_
 refine DOps.s0 moveA rfl ?_
 refine DOps.s0 (extract rfl rfl) rfl ?_
 refine DOps.s0 (extract rfl rfl) rfl ?_
 refine DOps.sL (allocLA (TK rfl) rfl) rfl ?_
 refine DOps.sLn (storeLFA (TK rfl) rfl rfl rfl rfl rfl) ?_
 refine DOps.s0 assignA rfl ?_
 refine DOps.nil (by decide +kernel) ?_
 refine hK23 _ ?_
 clear hK23 K23
 refine freezeA 10 _ rfl (Keeps.c (k := 0) (by conv => lhs; whnf) (by rfl) (Keeps.c (k := 4) (by conv => lhs; whnf) (by rfl) (Keeps.c (k := 5) (by conv => lhs; whnf) (by rfl) Keeps.nil))) ?_
 refine block ?_
 refine seqK fun K25 hK25 => ?_
 refine region ?_
 refine s0 (fieldVA (TK rfl) rfl rfl (TK rfl) rfl rfl) rfl ?_
 refine s0 (loadV (TK rfl) rfl rfl rfl) rfl ?_
 refine s0 (binI rfl rfl rfl) rfl ?_
 refine s0 moveA rfl ?_
 refine gC rfl rfl (fun hC => fieldVA (TK rfl) rfl rfl (TK rfl) rfl rfl) rfl ?_
 refine gC rfl rfl (fun hC => ungdA (k := 51) rfl (loadV (TK rfl) rfl rfl rfl)) rfl ?_
 refine gC rfl rfl (fun hC => ungdA (k := 52) rfl (binI rfl rfl rfl)) rfl ?_
 refine s0 (pickAndA rfl rfl rfl) rfl ?_
 refine s0 moveA rfl ?_
 refine gC rfl rfl (fun hC => fieldVA (TK rfl) rfl rfl (TK rfl) rfl rfl) rfl ?_
 refine gC rfl rfl (fun hC => ungdA (k := 56) rfl (loadV (TK rfl) rfl rfl rfl)) rfl ?_
 obtain ⟨x26, gx26, hE⟩ := guardO_some hE
 refine gC rfl rfl (fun hC => ungdA (k := 57) rfl (callP rfl rfl (fun H => Z23_walk (gx26 hC) H))) rfl ?_
 refine gC rfl rfl (fun hC => ungdA (k := 58) rfl (notB rfl)) rfl ?_
 refine s0 (pickAndA rfl rfl rfl) rfl ?_
 refine s0 assignA rfl ?_
 refine nil ?_
 refine hK25 _ ?_
 clear hK25 K25
 refine condE hE rfl (fun hc27 hE => ?_) (fun hc27 hE => ?_)
 ·refine region ?_
  refine s0 moveA rfl ?_
  refine s0 (fieldVA (TK rfl) rfl rfl (TK rfl) rfl rfl) rfl ?_
  refine s0 (loadV (TK rfl) rfl rfl rfl) rfl ?_
  refine s0 (fieldVA (TK rfl) rfl rfl (TK rfl) rfl rfl) rfl ?_
  refine s0 (loadV (TK rfl) rfl rfl rfl) rfl ?_
  obtain ⟨x28, gx28, hE⟩ := bindO_some hE
  refine sH (callH rfl rfl (Z46_walk gx28 _ hpG hpG)) rfl ?_
  refine AOps.heq (h' := ((H.set c0_2 (some (.tok 4 x28.Fout.l.length))).set c0 (some (.cells (Usage_recorder.cg (some c0_2) x28))))) (by first | rfl | (rw [Heap.set_set]; rfl) | (funext n_; simp only [Heap.set]; (repeat' split) <;> first | rfl | (exfalso; simp_all; done) | (simp_all; done))) ?_
  refine nil ?_
  repeat (first | refine xBlock_normal ?_ | refine xThen_exit ?_ | refine xBlock_exit ?_)
  obtain rfl := Option.some.inj hE
  refine retQ.normalF ((H.set c0_2 (some (.tok 4 x28.Fout.l.length))).set c0 (some (.cells (Usage_recorder.cg (some c0_2) x28)))) (xs := []) rfl ⟨rfl, rfl⟩ ?_
  exact (fun _ _ h => h)
 refine seqK fun K29 hK29 => ?_
 refine region ?_
 refine s0 (fieldVA (TK rfl) rfl rfl (TK rfl) rfl rfl) rfl ?_
 refine s0 (loadV (TK rfl) rfl rfl rfl) rfl ?_
 refine s0 (binI rfl rfl rfl) rfl ?_
 refine s0 moveA rfl ?_
 refine gC rfl rfl (fun hC => fieldVA (TK rfl) rfl rfl (TK rfl) rfl rfl) rfl ?_
 refine gC rfl rfl (fun hC => ungdA (k := 72) rfl (loadV (TK rfl) rfl rfl rfl)) rfl ?_
 refine gC rfl rfl (fun hC => ungdA (k := 73) rfl (binI rfl rfl rfl)) rfl ?_
 refine s0 (pickAndA rfl rfl rfl) rfl ?_
 refine s0 moveA rfl ?_
 refine gC rfl rfl (fun hC => fieldVA (TK rfl) rfl rfl (TK rfl) rfl rfl) rfl ?_
 refine gC rfl rfl (fun hC => ungdA (k := 77) rfl (loadV (TK rfl) rfl rfl rfl)) rfl ?_
 obtain ⟨x30, gx30, hE⟩ := guardO_some hE
 refine gC rfl rfl (fun hC => ungdA (k := 78) rfl (callP rfl rfl (fun H => Z23_walk (gx30 hC) H))) rfl ?_
 refine gC rfl rfl (fun hC => ungdA (k := 79) rfl (notB rfl)) rfl ?_
 refine s0 (pickAndA rfl rfl rfl) rfl ?_
 refine s0 assignA rfl ?_
 refine nil ?_
 refine hK29 _ ?_
 clear hK29 K29
 refine condE hE rfl (fun hc31 hE => ?_) (fun hc31 hE => ?_)
 ·refine seqK fun K32 hK32 => ?_
  refine region ?_
  refine s0 (fieldVA (TK rfl) rfl rfl (TK rfl) rfl rfl) rfl ?_
  refine s0 (loadV (TK rfl) rfl rfl rfl) rfl ?_
  refine sLen (f := strE) (s := a1.FKeys) (TK rfl) rfl rfl rfl rfl fun hL33 => ?_
  refine s0 (fieldVA (TK rfl) rfl rfl (TK rfl) rfl rfl) rfl ?_
  refine s0 (loadV (TK rfl) rfl rfl (congrArg (fun x => some (A.d x)) (TValue.FItemsD_eq _))) rfl ?_
  refine sLen (f := TValue.c) (s := a1.FItems) (TK rfl) rfl rfl rfl rfl fun hL34 => ?_
  refine s0 (minM rfl rfl) rfl ?_
  refine s0 moveA rfl ?_
  refine nil ?_
  refine hK32 _ ?_
  clear hK32 K32
  refine block ?_
  refine loopH (KeepsT.A (k := 0) (KeepsT.A (k := 4) (KeepsT.A (k := 10) (KeepsT.A (k := 88) KeepsT.nil)))) (fun (z : Nat × Int × Usage_recorder) => [(89, .a (.d (.int .i64 z.2.1)))]) (fun z => ((H.set c0_2 (some (.tok 4 z.2.2.Fout.l.length))).set c0 (some (.cells (Usage_recorder.cg (some c0_2) z.2.2))))) (fun z => z.1) (fun z => Z47_l35 a1 x24 (Z47_n n) z.1 z.2.1 z.2.2 = some r) (F0, (0 : Int), a0) hE Weak.toA ?_
  rintro ⟨n35, s89_36, y37_c0⟩ hE K35 hK35
  try dsimp only at hE
  cases n35 with
  | zero => cases hE
  | succ n35 =>
    rw [Z47_l35] at hE
    refine seqK fun K38 hK38 => ?_
    refine region ?_
    refine s0 (binI rfl rfl rfl) rfl ?_
    refine nil ?_
    refine hK38 _ ?_
    clear hK38 K38
    refine seqK fun K39 hK39 => ?_
    refine condE hE rfl (fun hc40 hE => ?_) (fun hc40 hE => ?_)
    ·refine AWp.skip ?_
     refine hK39 _ ?_
     clear hK39 K39
     refine seqJH (KeepsT.A (k := 0) (KeepsT.A (k := 4) (KeepsT.A (k := 10) (KeepsT.A (k := 88) (KeepsT.A (k := 89) KeepsT.nil))))) (fun (z : Usage_recorder) => []) (fun z => ((H.set c0_2 (some (.tok 4 z.Fout.l.length))).set c0 (some (.cells (Usage_recorder.cg (some c0_2) z))))) (fun z => Z47_j41 s89_36 ((Z47_l35 a1 x24 (Z47_n n) n35)) z = some r) ?_ ?_
     ·intro K41 hK41
      refine block ?_
      refine seqK fun K44 hK44 => ?_
      refine region ?_
      refine s0 moveA rfl ?_
      refine s0 assignA rfl ?_
      refine nil ?_
      refine hK44 _ ?_
      clear hK44 K44
      refine seqK fun K45 hK45 => ?_
      refine AWp.draw rfl ?_
      refine DOps.s0 (fieldVA (TK rfl) rfl rfl (TK rfl) rfl rfl) rfl ?_
      refine DOps.s0 (loadV (TK rfl) rfl rfl rfl) rfl ?_
      refine DOps.s0 (fieldVA (TK rfl) rfl rfl (TK rfl) rfl rfl) rfl ?_
      refine DOps.s0 (loadV (TK rfl) rfl rfl rfl) rfl ?_
      refine DOps.s0 moveA rfl ?_
      obtain ⟨x46, gx46, hE⟩ := bindO_some hE
      refine DOps.s0 (idxM (f := strE) (TK rfl) rfl (TK rfl) rfl rfl rfl gx46) rfl ?_
      refine DOps.s0 (loadV (TK rfl) rfl rfl rfl) rfl ?_
      obtain ⟨x47, gx47, hE⟩ := bindO_some hE
      refine DOps.s0 (callP rfl rfl (fun H => Z21_walk gx47 H)) rfl ?_
      refine DOps.s0 moveA rfl ?_
      refine DOps.s0 (extract rfl rfl) rfl ?_
      refine DOps.s0 (extract rfl rfl) rfl ?_
      refine DOps.sL (allocLA (TK rfl) rfl) rfl ?_
      refine DOps.sLn (storeLFA (TK rfl) rfl rfl rfl rfl rfl) ?_
      refine DOps.s0 assignA rfl ?_
      refine DOps.nil (by decide +kernel) ?_
      refine hK45 _ ?_
      clear hK45 K45
      refine freezeA 13 _ rfl (Keeps.c (k := 0) (by conv => lhs; whnf) (by rfl) (Keeps.c (k := 4) (by conv => lhs; whnf) (by rfl) (Keeps.c (k := 10) (by conv => lhs; whnf) (by rfl) (Keeps.c (k := 12) (by conv => lhs; whnf) (by rfl) (Keeps.c (k := 14) (by conv => lhs; whnf) (by rfl) (Keeps.c (k := 88) (by conv => lhs; whnf) (by rfl) (Keeps.c (k := 89) (by conv => lhs; whnf) (by rfl) Keeps.nil))))))) ?_
      refine seqK fun K48 hK48 => ?_
      refine region ?_
      refine s0 moveA rfl ?_
      refine nil ?_
      refine hK48 _ ?_
      clear hK48 K48
      refine condE hE rfl (fun hc49 hE => ?_) (fun hc49 hE => ?_)
      ·refine AWp.draw rfl ?_
       refine DOps.s0 moveA rfl ?_
       refine DOps.s0 (fieldVA (TK rfl) rfl rfl (TK rfl) rfl rfl) rfl ?_
       refine DOps.s0 (loadV (TK rfl) rfl rfl (congrArg (fun x => some (A.d x)) (TValue.FItemsD_eq _))) rfl ?_
       refine DOps.s0 moveA rfl ?_
       obtain ⟨x50, gx50, hE⟩ := bindO_some hE
       refine DOps.s0 (idxM (f := TValue.c) (TK rfl) rfl (TK rfl) rfl rfl rfl gx50) rfl ?_
       refine DOps.s0 (loadV (TK rfl) rfl rfl rfl) rfl ?_
       refine DOps.s0 (fieldVA (TK rfl) rfl rfl (TK rfl) rfl rfl) rfl ?_
       refine DOps.s0 (loadV (TK rfl) rfl rfl rfl) rfl ?_
       obtain ⟨x51, gx51, hE⟩ := bindO_some hE
       refine DOps.sH (callH rfl rfl (ih_27 gx51 _ hpG hpG)) rfl ?_
       refine DOps.heq (h' := ((H.set c0_2 (some (.tok 4 x51.Fout.l.length))).set c0 (some (.cells (Usage_recorder.cg (some c0_2) x51))))) (by first | rfl | (rw [Heap.set_set]; rfl) | (funext n_; simp only [Heap.set]; (repeat' split) <;> first | rfl | (exfalso; simp_all; done) | (simp_all; done))) ?_
       refine DOps.nil (by decide +kernel) ?_
       exact hK41 _ x51 Weak.toA hE
      refine AWp.skip ?_
      exact hK41 _ y37_c0 Weak.toA hE
     rintro y42_c0 hE
     try dsimp only at hE
     unfold Z47_j41 at hE
     refine region ?_
     obtain ⟨x43, gx43, hE⟩ := bindO_some hE
     refine s0 (addM rfl rfl gx43) rfl ?_
     refine s0 moveA rfl ?_
     refine nil ?_
     exact hK35 _ (n35, x43, y42_c0) Weak.toA hE (Nat.lt_succ_self _)
    refine AWp.exit ?_
    repeat (first | refine xBlock_normal ?_ | refine xThen_exit ?_ | refine xBlock_exit ?_)
    obtain rfl := Option.some.inj hE
    refine retQ.normalF ((H.set c0_2 (some (.tok 4 y37_c0.Fout.l.length))).set c0 (some (.cells (Usage_recorder.cg (some c0_2) y37_c0)))) (xs := []) rfl ⟨rfl, rfl⟩ ?_
    exact (fun _ _ h => h)
 refine AWp.skip ?_
 repeat (first | refine xBlock_normal ?_ | refine xThen_exit ?_ | refine xBlock_exit ?_)
 obtain rfl := Option.some.inj hE
 refine retQ.normalF ((H.set c0_2 (some (.tok 4 a0.Fout.l.length))).set c0 (some (.cells (Usage_recorder.cg (some c0_2) a0)))) (xs := []) rfl ⟨rfl, rfl⟩ ?_
 exact (fun _ _ h => h)
theorem Z47_all : ∀ (n : Nat), (∀ {a0 : Usage_recorder} {a1 : TValue} {a2 : TRef}  {c0 : Nat} {c0_2 : Nat} {r : Usage_recorder}, Z47_n n a0 a1 a2 = some r → ∀ (H : Heap) (hc0 : H c0 = some (.cells (Usage_recorder.cg (some c0_2) a0))) (ht0_2 : H c0_2 = some (.tok 4 a0.Fout.l.length)), ACalls Try.prog 27 [.d (.ptr c0 0), .agg (TValue.c a1), .agg (TRef.c a2)] H fun v h' => v = .tup [] ∧ h' = ((H.set c0_2 (some (.tok 4 r.Fout.l.length))).set c0 (some (.cells (Usage_recorder.cg (some c0_2) r)))))
 | 0 => fun hE => by first | cases hE | (rw [Z47_n] at hE; cases hE)
 | n + 1 => Z47_step n (Z47_all n)
def Z47 (a0 : Usage_recorder) (a1 : TValue) (a2 : TRef) : Option Usage_recorder := Z47_n F0 a0 a1 a2
theorem Z47_walk {a0 : Usage_recorder} {a1 : TValue} {a2 : TRef}  {c0 : Nat} {c0_2 : Nat} {r : Usage_recorder} (hE : Z47 a0 a1 a2 = some r) (H : Heap) (hc0 : H c0 = some (.cells (Usage_recorder.cg (some c0_2) a0))) (ht0_2 : H c0_2 = some (.tok 4 a0.Fout.l.length)) : ACalls Try.prog 27 [.d (.ptr c0 0), .agg (TValue.c a1), .agg (TRef.c a2)] H fun v h' => v = .tup [] ∧ h' = ((H.set c0_2 (some (.tok 4 r.Fout.l.length))).set c0 (some (.cells (Usage_recorder.cg (some c0_2) r)))) := (Z47_all F0) hE H hc0 ht0_2
end Go.Proofs

namespace Go.Proofs
open Go Go.Ab
open AOps Cert AWp
def Z19_j2  (y3_l0 : TField) : Option (TField × Bool) := some ((TField.mk ([] : Bs) (Sl.nil : Sl TInput) TRef.zero (Sl.nil : Sl TDir)), false)
def Z19_l7 (a0 : TDef) (a1 : Bs)  : Nat → Nat → TField → Option (TField × Bool)
 | 0, _, _ => none
 | n7 + 1, s11_8, y9_l0 => bif (decide (((s11_8 : Nat) : Int) < ((a0.FFields.l.length : Nat) : Int))) then ((a0.FFields.l[s11_8]?).bind fun x15 => bif ((x15.FName == a1)) then (some (x15, true)) else ((Z19_l7 a0 a1 n7) (s11_8 + 1) y9_l0)) else (Z19_j2   y9_l0)
def Z19 (a0 : TDef) (a1 : Bs) : Option (TField × Bool) := Z19_l7 a0 a1 (a0.FFields.l.length + 1) 0 TField.zero
theorem Z19_walk {a0 : TDef} {a1 : Bs}   {r : (TField × Bool)} (hE : Z19 a0 a1 = some r) (H : Heap)  : ACalls Try.prog 53 [.agg (TDef.c a0), .d (.str a1)] H fun v h' => v = .tup [.agg (TField.c r.1), .d (.bool r.2)] ∧ h' = H := by
 unfold Z19 at hE
 refine ACalls.of_wp (fn := Try.f53) (c := _) Try.tab_ok (fun _ _ => Try.call53 _ _) Try.func53 rfl (n := 22) rfl (rs := [.cell 4 59, .tmp 5]) rfl rfl ?_
 refine seqK fun K1 hK1 => ?_
 refine region ?_
 refine s0 (boxV rfl) rfl ?_
 refine sL (allocLA (TK rfl) rfl) rfl ?_
 refine s0 assignA rfl ?_
 refine nil ?_
 refine hK1 _ ?_
 clear hK1 K1
 refine seqJ (KeepsT.A (k := 4) KeepsT.nil) (fun (z : TField) => []) (fun z => [TField.c z]) (fun z => H) (fun z => Z19_j2 z = some r) ?_ ?_
 ·intro K2 hK2
  refine seqK fun K5 hK5 => ?_
  refine region ?_
  refine s0 (fieldVA (TK rfl) rfl rfl (TK rfl) rfl rfl) rfl ?_
  refine s0 (loadV (TK rfl) rfl rfl rfl) rfl ?_
  refine sLen (f := TField.c) (s := a0.FFields) (TK rfl) rfl rfl rfl rfl fun hL6 => ?_
  refine s0 moveA rfl ?_
  refine nil ?_
  refine hK5 _ ?_
  clear hK5 K5
  refine block ?_
  refine loopO (KeepsT.A (k := 1) (KeepsT.A (k := 4) (KeepsT.A (k := 9) (KeepsT.A (k := 10) KeepsT.nil)))) (fun (z : Nat × Nat × TField) => [(11, .a (.d (.int .i64 ((z.2.1 : Nat) : Int))))]) (fun z => [TField.c z.2.2]) (fun z => H) (fun z => z.1) (fun z => Z19_l7 a0 a1 z.1 z.2.1 z.2.2 = some r) ((a0.FFields.l.length + 1), 0, TField.zero) hE Weak.toA ?_
  rintro ⟨n7, s11_8, y9_l0⟩ hE K7 hK7
  try dsimp only at hE
  cases n7 with
  | zero => cases hE
  | succ n7 =>
    rw [Z19_l7] at hE
    refine seqK fun K10 hK10 => ?_
    refine region ?_
    refine s0 (binI rfl rfl rfl) rfl ?_
    refine nil ?_
    refine hK10 _ ?_
    clear hK10 K10
    refine seqK fun K11 hK11 => ?_
    refine condE hE rfl (fun hc12 hE => ?_) (fun hc12 hE => ?_)
    ·try dsimp only at hc12
     have hf12 := of_decide_eq_true hc12
     refine AWp.skip ?_
     refine hK11 _ ?_
     clear hK11 K11
     refine seqK fun K13 hK13 => ?_
     refine block ?_
     refine seqK fun K14 hK14 => ?_
     refine region ?_
     obtain ⟨x15, gx15, hE⟩ := bindO_some hE
     refine s0 (idxMn (f := TField.c) (n := s11_8) (TK rfl) rfl (TK rfl) rfl rfl rfl gx15) rfl ?_
     refine s0 (loadV (TK rfl) rfl rfl rfl) rfl ?_
     refine sL (allocLA (TK rfl) rfl) rfl ?_
     refine sLn (storeLFA (TK rfl) rfl rfl rfl rfl rfl) ?_
     refine nil ?_
     refine hK14 _ ?_
     clear hK14 K14
     refine freezeA 7 _ rfl (Keeps.c (k := 1) (by conv => lhs; whnf) (by rfl) (Keeps.c (k := 4) (by conv => lhs; whnf) (by rfl) (Keeps.c (k := 9) (by conv => lhs; whnf) (by rfl) (Keeps.c (k := 10) (by conv => lhs; whnf) (by rfl) (Keeps.c (k := 11) (by conv => lhs; whnf) (by rfl) Keeps.nil))))) ?_
     refine seqK fun K16 hK16 => ?_
     refine region ?_
     refine s0 (fieldVA (TK rfl) rfl rfl (TK rfl) rfl rfl) rfl ?_
     refine s0 (loadV (TK rfl) rfl rfl rfl) rfl ?_
     refine s0 moveA rfl ?_
     refine s0 (binS rfl rfl rfl) rfl ?_
     refine nil ?_
     refine hK16 _ ?_
     clear hK16 K16
     refine condE hE rfl (fun hc17 hE => ?_) (fun hc17 hE => ?_)
     ·refine seqK fun K18 hK18 => ?_
      refine region ?_
      refine s0 (loadV (TK rfl) rfl rfl rfl) rfl ?_
      refine sLn (storeLFA (TK rfl) rfl rfl rfl rfl rfl) ?_
      refine s0 assignA rfl ?_
      refine nil ?_
      refine hK18 _ ?_
      clear hK18 K18
      refine AWp.ret ?_
      repeat (first | refine xBlock_ret ?_ | refine xThen_ret ?_)
      obtain rfl := Option.some.inj hE
      refine retQ.retF H rfl ⟨rfl, rfl⟩ ?_
      exact (fun _ _ h => h)
     refine AWp.skip ?_
     refine hK13 _ ?_
     clear hK13 K13
     refine region ?_
     refine s0 (addIA rfl rfl) rfl ?_
     refine s0 moveA rfl ?_
     refine nil ?_
     exact hK7 _ (n7, (s11_8 + 1), y9_l0) Weak.toA hE (Nat.lt_succ_self _)
    refine AWp.exit ?_
    exact hK2 _ y9_l0 Weak.toA hE
 rintro y3_l0 hE
 try dsimp only at hE
 unfold Z19_j2 at hE
 refine seqK fun K4 hK4 => ?_
 refine region ?_
 refine s0 (build Try.tab_ok rfl rfl rfl rfl rfl rfl) rfl ?_
 refine sLn (storeLFA (TK rfl) rfl rfl rfl rfl rfl) ?_
 refine s0 assignA rfl ?_
 refine nil ?_
 refine hK4 _ ?_
 clear hK4 K4
 refine AWp.ret ?_
 repeat (first | refine xBlock_ret ?_ | refine xThen_ret ?_)
 obtain rfl := Option.some.inj hE
 refine retQ.retF H rfl ⟨rfl, rfl⟩ ?_
 exact (fun _ _ h => h)
def Z36 (a0 : TRef) : Option TRef := (Z34 a0).bind fun x4 => bif x4 then ((Z26 a0.FWraps).bind fun x7 => some (TRef.mk a0.FName x7)) else ((appC 8 (⟨false, [(1 : Int)]⟩ : Sl Int) a0.FWraps).bind fun x9 => some (TRef.mk a0.FName x9))
theorem Z36_walk {a0 : TRef}   {r : TRef} (hE : Z36 a0 = some r) (H : Heap)  : ACalls Try.prog 63 [.agg (TRef.c a0)] H fun v h' => v = .a (.agg (TRef.c r)) ∧ h' = H := by
 unfold Z36 at hE
 refine ACalls.of_wp (fn := Try.f63) (c := _) Try.tab_ok (fun _ _ => Try.call63 _ _) Try.func63 rfl (n := 18) rfl (rs := [.cell 2 49]) rfl rfl ?_
 refine seqK fun K1 hK1 => ?_
 refine region ?_
 refine s0 (boxV rfl) rfl ?_
 refine sL (allocLA (TK rfl) rfl) rfl ?_
 refine nil ?_
 refine hK1 _ ?_
 clear hK1 K1
 refine seqK fun K2 hK2 => ?_
 refine seqK fun K3 hK3 => ?_
 refine region ?_
 refine s0 (loadV (TK rfl) rfl rfl rfl) rfl ?_
 obtain ⟨x4, gx4, hE⟩ := bindO_some hE
 refine s0 (callP rfl rfl (fun H => Z34_walk gx4 H)) rfl ?_
 refine nil ?_
 refine hK3 _ ?_
 clear hK3 K3
 refine condE hE rfl (fun hc5 hE => ?_) (fun hc5 hE => ?_)
 ·refine seqK fun K6 hK6 => ?_
  refine AWp.draw rfl ?_
  refine DOps.s0 (fieldVA (TK rfl) rfl rfl (TK rfl) rfl rfl) rfl ?_
  refine DOps.s0 (loadV (TK rfl) rfl rfl rfl) rfl ?_
  refine DOps.s0 (fieldVA (TK rfl) rfl rfl (TK rfl) rfl rfl) rfl ?_
  refine DOps.s0 (loadV (TK rfl) rfl rfl rfl) rfl ?_
  obtain ⟨x7, gx7, hE⟩ := bindO_some hE
  refine DOps.s0 (callP rfl rfl (fun H => Z26_walk gx7 H)) rfl ?_
  refine DOps.s0 (build Try.tab_ok rfl rfl rfl rfl rfl rfl) rfl ?_
  refine DOps.sLn (storeLFA (TK rfl) rfl rfl rfl rfl rfl) ?_
  refine DOps.nil (by decide +kernel) ?_
  refine hK6 _ ?_
  clear hK6 K6
  refine AWp.ret ?_
  repeat (first | refine xBlock_ret ?_ | refine xThen_ret ?_)
  obtain rfl := Option.some.inj hE
  refine retQ.retF H rfl ⟨rfl, rfl⟩ ?_
  exact (fun _ _ h => h)
 refine AWp.skip ?_
 refine hK2 _ ?_
 clear hK2 K2
 refine seqK fun K8 hK8 => ?_
 refine AWp.draw rfl ?_
 refine DOps.s0 (fieldVA (TK rfl) rfl rfl (TK rfl) rfl rfl) rfl ?_
 refine DOps.s0 (loadV (TK rfl) rfl rfl rfl) rfl ?_
 refine DOps.s0 (buildSliceF (TK rfl) rfl (TK rfl) rfl rfl rfl rfl rfl rfl) rfl ?_
 refine DOps.s0 (fieldVA (TK rfl) rfl rfl (TK rfl) rfl rfl) rfl ?_
 refine DOps.s0 (loadV (TK rfl) rfl rfl rfl) rfl ?_
 obtain ⟨x9, gx9, hE⟩ := bindO_some hE
 refine DOps.s0 (appFM (f := (intE .i64)) (TK rfl) rfl (TK rfl) (TK rfl) ⟨_, rfl⟩ rfl rfl (by decide) rfl rfl rfl (by intro q h; cases h <;> decide) rfl rfl gx9) rfl ?_
 refine DOps.s0 (build Try.tab_ok rfl rfl rfl rfl rfl rfl) rfl ?_
 refine DOps.sLn (storeLFA (TK rfl) rfl rfl rfl rfl rfl) ?_
 refine DOps.nil (by decide +kernel) ?_
 refine hK8 _ ?_
 clear hK8 K8
 refine AWp.ret ?_
 repeat (first | refine xBlock_ret ?_ | refine xThen_ret ?_)
 obtain rfl := Option.some.inj hE
 refine retQ.retF H rfl ⟨rfl, rfl⟩ ?_
 exact (fun _ _ h => h)
def Z35 (a0 : Bs) : Option TRef := some (TRef.mk a0 (Sl.nil : Sl Int))
theorem Z35_walk {a0 : Bs}   {r : TRef} (hE : Z35 a0 = some r) (H : Heap)  : ACalls Try.prog 64 [.d (.str a0)] H fun v h' => v = .a (.agg (TRef.c r)) ∧ h' = H := by
 unfold Z35 at hE
 refine ACalls.of_wp (fn := Try.f64) (c := _) Try.tab_ok (fun _ _ => Try.call64 _ _) Try.func64 rfl (n := 5) rfl (rs := [.cell 2 49]) rfl rfl ?_
 refine seqK fun K1 hK1 => ?_
 refine region ?_
 refine sL (allocLA (TK rfl) rfl) rfl ?_
 refine nil ?_
 refine hK1 _ ?_
 clear hK1 K1
 refine seqK fun K2 hK2 => ?_
 refine region ?_
 refine s0 moveA rfl ?_
 refine s0 (build Try.tab_ok rfl rfl rfl rfl rfl rfl) rfl ?_
 refine sLn (storeLFA (TK rfl) rfl rfl rfl rfl rfl) ?_
 refine nil ?_
 refine hK2 _ ?_
 clear hK2 K2
 refine AWp.ret ?_
 repeat (first | refine xBlock_ret ?_ | refine xThen_ret ?_)
 obtain rfl := Option.some.inj hE
 refine retQ.retF H rfl ⟨rfl, rfl⟩ ?_
 exact (fun _ _ h => h)
def Z3 (a0 : TDoc) (a1 : Bs) (a2 : Bs) : Option (TRef × Bool) := (Z18 a0 a1).bind fun x4 => bif (!x4) then (some ((TRef.mk ([] : Bs) (Sl.nil : Sl Int)), false)) else (bif ((a2 == ([95, 95, 116, 121, 112, 101, 110, 97, 109, 101] : Bs))) then ((Z35 ([83, 116, 114, 105, 110, 103] : Bs)).bind fun x11 => (Z36 x11).bind fun x12 => some (x12, true)) else ((Z20 a0 a1).bind fun x14 => (Z19 x14.1 a2).bind fun x16 => bif (!x16.2) then (some ((TRef.mk ([] : Bs) (Sl.nil : Sl Int)), false)) else ((Z26 x16.1.FType.FWraps).bind fun x22 => some ((TRef.mk x16.1.FType.FName x22), true))))
theorem Z3_walk {a0 : TDoc} {a1 : Bs} {a2 : Bs}   {r : (TRef × Bool)} (hE : Z3 a0 a1 a2 = some r) (H : Heap)  : ACalls Try.prog 52 [.agg (TDoc.c a0), .d (.str a1), .d (.str a2)] H fun v h' => v = .tup [.agg (TRef.c r.1), .d (.bool r.2)] ∧ h' = H := by
 unfold Z3 at hE
 refine ACalls.of_wp (fn := Try.f52) (c := _) Try.tab_ok (fun _ _ => Try.call52 _ _) Try.func52 rfl (n := 44) rfl (rs := [.cell 6 49, .tmp 7]) rfl rfl ?_
 refine seqK fun K1 hK1 => ?_
 refine region ?_
 refine s0 (boxV rfl) rfl ?_
 refine sL (allocLA (TK rfl) rfl) rfl ?_
 refine s0 assignA rfl ?_
 refine nil ?_
 refine hK1 _ ?_
 clear hK1 K1
 refine seqK fun K2 hK2 => ?_
 refine seqK fun K3 hK3 => ?_
 refine region ?_
 refine s0 (loadV (TK rfl) rfl rfl rfl) rfl ?_
 refine s0 moveA rfl ?_
 obtain ⟨x4, gx4, hE⟩ := bindO_some hE
 refine s0 (callP rfl rfl (fun H => Z18_walk gx4 H)) rfl ?_
 refine s0 (notB rfl) rfl ?_
 refine nil ?_
 refine hK3 _ ?_
 clear hK3 K3
 refine condE hE rfl (fun hc5 hE => ?_) (fun hc5 hE => ?_)
 ·refine seqK fun K6 hK6 => ?_
  refine region ?_
  refine s0 (build Try.tab_ok rfl rfl rfl rfl rfl rfl) rfl ?_
  refine sLn (storeLFA (TK rfl) rfl rfl rfl rfl rfl) ?_
  refine s0 assignA rfl ?_
  refine nil ?_
  refine hK6 _ ?_
  clear hK6 K6
  refine AWp.ret ?_
  repeat (first | refine xBlock_ret ?_ | refine xThen_ret ?_)
  obtain rfl := Option.some.inj hE
  refine retQ.retF H rfl ⟨rfl, rfl⟩ ?_
  exact (fun _ _ h => h)
 refine AWp.skip ?_
 refine hK2 _ ?_
 clear hK2 K2
 refine seqK fun K7 hK7 => ?_
 refine seqK fun K8 hK8 => ?_
 refine region ?_
 refine s0 moveA rfl ?_
 refine s0 (binS rfl rfl rfl) rfl ?_
 refine nil ?_
 refine hK8 _ ?_
 clear hK8 K8
 refine condE hE rfl (fun hc9 hE => ?_) (fun hc9 hE => ?_)
 ·refine seqK fun K10 hK10 => ?_
  refine region ?_
  obtain ⟨x11, gx11, hE⟩ := bindO_some hE
  refine s0 (callP rfl rfl (fun H => Z35_walk gx11 H)) rfl ?_
  obtain ⟨x12, gx12, hE⟩ := bindO_some hE
  refine s0 (callP rfl rfl (fun H => Z36_walk gx12 H)) rfl ?_
  refine sLn (storeLFA (TK rfl) rfl rfl rfl rfl rfl) ?_
  refine s0 assignA rfl ?_
  refine nil ?_
  refine hK10 _ ?_
  clear hK10 K10
  refine AWp.ret ?_
  repeat (first | refine xBlock_ret ?_ | refine xThen_ret ?_)
  obtain rfl := Option.some.inj hE
  refine retQ.retF H rfl ⟨rfl, rfl⟩ ?_
  exact (fun _ _ h => h)
 refine AWp.skip ?_
 refine hK7 _ ?_
 clear hK7 K7
 refine seqK fun K13 hK13 => ?_
 refine region ?_
 refine s0 (loadV (TK rfl) rfl rfl rfl) rfl ?_
 refine s0 moveA rfl ?_
 obtain ⟨x14, gx14, hE⟩ := bindO_some hE
 refine s0 (callP rfl rfl (fun H => Z20_walk gx14 H)) rfl ?_
 refine s0 moveA rfl ?_
 refine s0 (extract rfl rfl) rfl ?_
 refine s0 (extract rfl rfl) rfl ?_
 refine sL (allocLA (TK rfl) rfl) rfl ?_
 refine sLn (storeLFA (TK rfl) rfl rfl rfl rfl rfl) ?_
 refine s0 assignA rfl ?_
 refine nil ?_
 refine hK13 _ ?_
 clear hK13 K13
 refine freezeA 8 _ rfl (Keeps.c (k := 2) (by conv => lhs; whnf) (by rfl) (Keeps.c (k := 6) (by conv => lhs; whnf) (by rfl) Keeps.nil)) ?_
 refine seqK fun K15 hK15 => ?_
 refine region ?_
 refine s0 (loadV (TK rfl) rfl rfl rfl) rfl ?_
 refine s0 moveA rfl ?_
 obtain ⟨x16, gx16, hE⟩ := bindO_some hE
 refine s0 (callP rfl rfl (fun H => Z19_walk gx16 H)) rfl ?_
 refine s0 moveA rfl ?_
 refine s0 (extract rfl rfl) rfl ?_
 refine s0 (extract rfl rfl) rfl ?_
 refine sL (allocLA (TK rfl) rfl) rfl ?_
 refine sLn (storeLFA (TK rfl) rfl rfl rfl rfl rfl) ?_
 refine s0 assignA rfl ?_
 refine nil ?_
 refine hK15 _ ?_
 clear hK15 K15
 refine freezeA 10 _ rfl (Keeps.c (k := 6) (by conv => lhs; whnf) (by rfl) (Keeps.c (k := 11) (by conv => lhs; whnf) (by rfl) Keeps.nil)) ?_
 refine seqK fun K17 hK17 => ?_
 refine seqK fun K18 hK18 => ?_
 refine region ?_
 refine s0 moveA rfl ?_
 refine s0 (notB rfl) rfl ?_
 refine nil ?_
 refine hK18 _ ?_
 clear hK18 K18
 refine condE hE rfl (fun hc19 hE => ?_) (fun hc19 hE => ?_)
 ·refine seqK fun K20 hK20 => ?_
  refine region ?_
  refine s0 (build Try.tab_ok rfl rfl rfl rfl rfl rfl) rfl ?_
  refine sLn (storeLFA (TK rfl) rfl rfl rfl rfl rfl) ?_
  refine s0 assignA rfl ?_
  refine nil ?_
  refine hK20 _ ?_
  clear hK20 K20
  refine AWp.ret ?_
  repeat (first | refine xBlock_ret ?_ | refine xThen_ret ?_)
  obtain rfl := Option.some.inj hE
  refine retQ.retF H rfl ⟨rfl, rfl⟩ ?_
  exact (fun _ _ h => h)
 refine AWp.skip ?_
 refine hK17 _ ?_
 clear hK17 K17
 refine seqK fun K21 hK21 => ?_
 refine AWp.draw rfl ?_
 refine DOps.s0 (fieldVA (TK rfl) rfl rfl (TK rfl) rfl rfl) rfl ?_
 refine DOps.s0 (fieldVA (TK rfl) rfl rfl (TK rfl) rfl rfl) rfl ?_
 refine DOps.s0 (loadV (TK rfl) rfl rfl rfl) rfl ?_
 refine DOps.s0 (fieldVA (TK rfl) rfl rfl (TK rfl) rfl rfl) rfl ?_
 refine DOps.s0 (fieldVA (TK rfl) rfl rfl (TK rfl) rfl rfl) rfl ?_
 refine DOps.s0 (loadV (TK rfl) rfl rfl rfl) rfl ?_
 obtain ⟨x22, gx22, hE⟩ := bindO_some hE
 refine DOps.s0 (callP rfl rfl (fun H => Z26_walk gx22 H)) rfl ?_
 refine DOps.s0 (build Try.tab_ok rfl rfl rfl rfl rfl rfl) rfl ?_
 refine DOps.sLn (storeLFA (TK rfl) rfl rfl rfl rfl rfl) ?_
 refine DOps.s0 assignA rfl ?_
 refine DOps.nil (by decide +kernel) ?_
 refine hK21 _ ?_
 clear hK21 K21
 refine AWp.ret ?_
 repeat (first | refine xBlock_ret ?_ | refine xThen_ret ?_)
 obtain rfl := Option.some.inj hE
 refine retQ.retF H rfl ⟨rfl, rfl⟩ ?_
 exact (fun _ _ h => h)
def Z44_j14 (x3 : (TRef × Bool))  (y15_c0 : Usage_recorder) : Option (Bs × Usage_recorder) := some (x3.1.FName, y15_c0)
def Z44_j25 (s54_20 : Nat) (k_next_19 : Nat → Usage_recorder → Option (Bs × Usage_recorder)) (y26_c0 : Usage_recorder) : Option (Bs × Usage_recorder) := k_next_19 (s54_20 + 1) y26_c0
def Z44_l19 (a1 : TSel) (a2 : Bs) (x3 : (TRef × Bool)) (x13 : (TField × Bool))  : Nat → Nat → Usage_recorder → Option (Bs × Usage_recorder)
 | 0, _, _ => none
 | n19 + 1, s54_20, y21_c0 => bif (decide (((s54_20 : Nat) : Int) < ((a1.FArgs.l.length : Nat) : Int))) then ((a1.FArgs.l[s54_20]?).bind fun x28 => (Z21 x13.1.FArgs x28.FName).bind fun x30 => bif x30.2 then ((Z46 y21_c0 a2 a1.FName x28.FName).bind fun x34 => (Z47 x34 x28.FValue x30.1.FType).bind fun x35 => Z44_j25 s54_20 ((Z44_l19 a1 a2 x3 x13 n19)) x35) else (Z44_j25 s54_20 ((Z44_l19 a1 a2 x3 x13 n19)) y21_c0)) else (Z44_j14 x3  y21_c0)
def Z44 (a0 : Usage_recorder) (a1 : TSel) (a2 : Bs) : Option (Bs × Usage_recorder) := (Z3 a0.Fd a2 a1.FName).bind fun x3 => bif (!x3.2) then (some (([] : Bs), a0)) else ((Z46 a0 a2 a1.FName ([] : Bs)).bind fun x9 => (Z20 x9.Fd a2).bind fun x11 => (Z19 x11.1 a1.FName).bind fun x13 => Z44_l19 a1 a2 x3 x13 (a1.FArgs.l.length + 1) 0 x9)
theorem Z44_walk {a0 : Usage_recorder} {a1 : TSel} {a2 : Bs}  {c0 : Nat} {c0_2 : Nat} {r : (Bs × Usage_recorder)} (hE : Z44 a0 a1 a2 = some r) (H : Heap) (hc0 : H c0 = some (.cells (Usage_recorder.cg (some c0_2) a0))) (ht0_2 : H c0_2 = some (.tok 4 a0.Fout.l.length)) : ACalls Try.prog 33 [.d (.ptr c0 0), .agg (TSel.c a1), .d (.str a2)] H fun v h' => v = .a (.d (.str r.1)) ∧ h' = ((H.set c0_2 (some (.tok 4 r.2.Fout.l.length))).set c0 (some (.cells (Usage_recorder.cg (some c0_2) r.2)))) := by
 unfold Z44 at hE
 refine ACalls.of_wp (fn := Try.f33) (c := _) Try.tab_ok (fun _ _ => Try.call33 _ _) Try.func33 rfl (n := 83) rfl (rs := [.tmp 6]) rfl rfl ?_
 have ne_c0_c0_2 : c0 ≠ c0_2 := fun e_ => by subst e_; simp_all
 refine AWp.heqA (h' := ((H.set c0_2 (some (.tok 4 a0.Fout.l.length))).set c0 (some (.cells (Usage_recorder.cg (some c0_2) a0))))) (by funext n_; simp only [Heap.set]; (repeat' split) <;> simp_all) ?_
 refine seqK fun K1 hK1 => ?_
 refine region ?_
 refine s0 (boxV rfl) rfl ?_
 refine s0 assignA rfl ?_
 refine nil ?_
 refine hK1 _ ?_
 clear hK1 K1
 refine seqK fun K2 hK2 => ?_
 refine AWp.draw rfl ?_
 refine DOps.s0 moveA rfl ?_
 refine DOps.s0 (nilP rfl) rfl ?_
 refine DOps.s0 (fieldP (TK rfl) rfl rfl (TK rfl) rfl rfl) rfl ?_
 refine DOps.s0 (loadP (TK rfl) rfl rfl hpG rfl) rfl ?_
 refine DOps.s0 moveA rfl ?_
 refine DOps.s0 (fieldVA (TK rfl) rfl rfl (TK rfl) rfl rfl) rfl ?_
 refine DOps.s0 (loadV (TK rfl) rfl rfl rfl) rfl ?_
 obtain ⟨x3, gx3, hE⟩ := bindO_some hE
 refine DOps.s0 (callP rfl rfl (fun H => Z3_walk gx3 H)) rfl ?_
 refine DOps.s0 moveA rfl ?_
 refine DOps.s0 (extract rfl rfl) rfl ?_
 refine DOps.s0 (extract rfl rfl) rfl ?_
 refine DOps.sL (allocLA (TK rfl) rfl) rfl ?_
 refine DOps.sLn (storeLFA (TK rfl) rfl rfl rfl rfl rfl) ?_
 refine DOps.s0 assignA rfl ?_
 refine DOps.nil (by decide +kernel) ?_
 refine hK2 _ ?_
 clear hK2 K2
 refine freezeA 7 _ rfl (Keeps.c (k := 0) (by conv => lhs; whnf) (by rfl) (Keeps.c (k := 2) (by conv => lhs; whnf) (by rfl) (Keeps.c (k := 4) (by conv => lhs; whnf) (by rfl) (Keeps.c (k := 8) (by conv => lhs; whnf) (by rfl) Keeps.nil)))) ?_
 refine seqK fun K4 hK4 => ?_
 refine seqK fun K5 hK5 => ?_
 refine region ?_
 refine s0 moveA rfl ?_
 refine s0 (notB rfl) rfl ?_
 refine nil ?_
 refine hK5 _ ?_
 clear hK5 K5
 refine condE hE rfl (fun hc6 hE => ?_) (fun hc6 hE => ?_)
 ·refine seqK fun K7 hK7 => ?_
  refine region ?_
  refine s0 assignA rfl ?_
  refine nil ?_
  refine hK7 _ ?_
  clear hK7 K7
  refine AWp.ret ?_
  repeat (first | refine xBlock_ret ?_ | refine xThen_ret ?_)
  obtain rfl := Option.some.inj hE
  refine retQ.retF ((H.set c0_2 (some (.tok 4 a0.Fout.l.length))).set c0 (some (.cells (Usage_recorder.cg (some c0_2) a0)))) rfl ⟨rfl, rfl⟩ ?_
  exact (fun _ _ h => h)
 refine AWp.skip ?_
 refine hK4 _ ?_
 clear hK4 K4
 refine seqK fun K8 hK8 => ?_
 refine region ?_
 refine s0 moveA rfl ?_
 refine s0 moveA rfl ?_
 refine s0 (fieldVA (TK rfl) rfl rfl (TK rfl) rfl rfl) rfl ?_
 refine s0 (loadV (TK rfl) rfl rfl rfl) rfl ?_
 obtain ⟨x9, gx9, hE⟩ := bindO_some hE
 refine sH (callH rfl rfl (Z46_walk gx9 _ hpG hpG)) rfl ?_
 refine AOps.heq (h' := ((H.set c0_2 (some (.tok 4 x9.Fout.l.length))).set c0 (some (.cells (Usage_recorder.cg (some c0_2) x9))))) (by first | rfl | (rw [Heap.set_set]; rfl) | (funext n_; simp only [Heap.set]; (repeat' split) <;> first | rfl | (exfalso; simp_all; done) | (simp_all; done))) ?_
 refine nil ?_
 refine hK8 _ ?_
 clear hK8 K8
 refine seqK fun K10 hK10 => ?_
 refine region ?_
 refine s0 moveA rfl ?_
 refine s0 (nilP rfl) rfl ?_
 refine s0 (fieldP (TK rfl) rfl rfl (TK rfl) rfl rfl) rfl ?_
 refine s0 (loadP (TK rfl) rfl rfl hpG rfl) rfl ?_
 refine s0 moveA rfl ?_
 obtain ⟨x11, gx11, hE⟩ := bindO_some hE
 refine s0 (callP rfl rfl (fun H => Z20_walk gx11 H)) rfl ?_
 refine s0 moveA rfl ?_
 refine s0 (extract rfl rfl) rfl ?_
 refine s0 (extract rfl rfl) rfl ?_
 refine sL (allocLA (TK rfl) rfl) rfl ?_
 refine sLn (storeLFA (TK rfl) rfl rfl rfl rfl rfl) ?_
 refine s0 assignA rfl ?_
 refine nil ?_
 refine hK10 _ ?_
 clear hK10 K10
 refine freezeA 9 _ rfl (Keeps.c (k := 0) (by conv => lhs; whnf) (by rfl) (Keeps.c (k := 2) (by conv => lhs; whnf) (by rfl) (Keeps.c (k := 4) (by conv => lhs; whnf) (by rfl) (Keeps.c (k := 7) (by conv => lhs; whnf) (by rfl) Keeps.nil)))) ?_
 refine seqK fun K12 hK12 => ?_
 refine region ?_
 refine s0 (loadV (TK rfl) rfl rfl rfl) rfl ?_
 refine s0 (fieldVA (TK rfl) rfl rfl (TK rfl) rfl rfl) rfl ?_
 refine s0 (loadV (TK rfl) rfl rfl rfl) rfl ?_
 obtain ⟨x13, gx13, hE⟩ := bindO_some hE
 refine s0 (callP rfl rfl (fun H => Z19_walk gx13 H)) rfl ?_
 refine s0 moveA rfl ?_
 refine s0 (extract rfl rfl) rfl ?_
 refine s0 (extract rfl rfl) rfl ?_
 refine sL (allocLA (TK rfl) rfl) rfl ?_
 refine sLn (storeLFA (TK rfl) rfl rfl rfl rfl rfl) ?_
 refine s0 assignA rfl ?_
 refine nil ?_
 refine hK12 _ ?_
 clear hK12 K12
 refine freezeA 11 _ rfl (Keeps.c (k := 0) (by conv => lhs; whnf) (by rfl) (Keeps.c (k := 2) (by conv => lhs; whnf) (by rfl) (Keeps.c (k := 4) (by conv => lhs; whnf) (by rfl) (Keeps.c (k := 7) (by conv => lhs; whnf) (by rfl) Keeps.nil)))) ?_
 refine seqJH (KeepsT.A (k := 7) KeepsT.nil) (fun (z : Usage_recorder) => []) (fun z => ((H.set c0_2 (some (.tok 4 z.Fout.l.length))).set c0 (some (.cells (Usage_recorder.cg (some c0_2) z))))) (fun z => Z44_j14 x3 z = some r) ?_ ?_
 ·intro K14 hK14
  refine seqK fun K17 hK17 => ?_
  refine region ?_
  refine s0 (fieldVA (TK rfl) rfl rfl (TK rfl) rfl rfl) rfl ?_
  refine s0 (loadV (TK rfl) rfl rfl rfl) rfl ?_
  refine sLen (f := TArg.c) (s := a1.FArgs) (TK rfl) rfl rfl rfl rfl fun hL18 => ?_
  refine s0 moveA rfl ?_
  refine nil ?_
  refine hK17 _ ?_
  clear hK17 K17
  refine block ?_
  refine loopH (KeepsT.A (k := 0) (KeepsT.A (k := 2) (KeepsT.A (k := 4) (KeepsT.A (k := 7) (KeepsT.A (k := 11) (KeepsT.A (k := 52) (KeepsT.A (k := 53) KeepsT.nil))))))) (fun (z : Nat × Nat × Usage_recorder) => [(54, .a (.d (.int .i64 ((z.2.1 : Nat) : Int))))]) (fun z => ((H.set c0_2 (some (.tok 4 z.2.2.Fout.l.length))).set c0 (some (.cells (Usage_recorder.cg (some c0_2) z.2.2))))) (fun z => z.1) (fun z => Z44_l19 a1 a2 x3 x13 z.1 z.2.1 z.2.2 = some r) ((a1.FArgs.l.length + 1), 0, x9) hE Weak.toA ?_
  rintro ⟨n19, s54_20, y21_c0⟩ hE K19 hK19
  try dsimp only at hE
  cases n19 with
  | zero => cases hE
  | succ n19 =>
    rw [Z44_l19] at hE
    refine seqK fun K22 hK22 => ?_
    refine region ?_
    refine s0 (binI rfl rfl rfl) rfl ?_
    refine nil ?_
    refine hK22 _ ?_
    clear hK22 K22
    refine seqK fun K23 hK23 => ?_
    refine condE hE rfl (fun hc24 hE => ?_) (fun hc24 hE => ?_)
    ·try dsimp only at hc24
     have hf24 := of_decide_eq_true hc24
     refine AWp.skip ?_
     refine hK23 _ ?_
     clear hK23 K23
     refine seqJH (KeepsT.A (k := 0) (KeepsT.A (k := 2) (KeepsT.A (k := 4) (KeepsT.A (k := 7) (KeepsT.A (k := 11) (KeepsT.A (k := 52) (KeepsT.A (k := 53) (KeepsT.A (k := 54) KeepsT.nil)))))))) (fun (z : Usage_recorder) => []) (fun z => ((H.set c0_2 (some (.tok 4 z.Fout.l.length))).set c0 (some (.cells (Usage_recorder.cg (some c0_2) z))))) (fun z => Z44_j25 s54_20 ((Z44_l19 a1 a2 x3 x13 n19)) z = some r) ?_ ?_
     ·intro K25 hK25
      refine block ?_
      refine seqK fun K27 hK27 => ?_
      refine region ?_
      obtain ⟨x28, gx28, hE⟩ := bindO_some hE
      refine s0 (idxMn (f := TArg.c) (n := s54_20) (TK rfl) rfl (TK rfl) rfl rfl rfl gx28) rfl ?_
      refine s0 (loadV (TK rfl) rfl rfl rfl) rfl ?_
      refine sL (allocLA (TK rfl) rfl) rfl ?_
      refine sLn (storeLFA (TK rfl) rfl rfl rfl rfl rfl) ?_
      refine nil ?_
      refine hK27 _ ?_
      clear hK27 K27
      refine freezeA 14 _ rfl (Keeps.c (k := 0) (by conv => lhs; whnf) (by rfl) (Keeps.c (k := 2) (by conv => lhs; whnf) (by rfl) (Keeps.c (k := 4) (by conv => lhs; whnf) (by rfl) (Keeps.c (k := 7) (by conv => lhs; whnf) (by rfl) (Keeps.c (k := 11) (by conv => lhs; whnf) (by rfl) (Keeps.c (k := 52) (by conv => lhs; whnf) (by rfl) (Keeps.c (k := 53) (by conv => lhs; whnf) (by rfl) (Keeps.c (k := 54) (by conv => lhs; whnf) (by rfl) Keeps.nil)))))))) ?_
      refine seqK fun K29 hK29 => ?_
      refine region ?_
      refine s0 (fieldVA (TK rfl) rfl rfl (TK rfl) rfl rfl) rfl ?_
      refine s0 (loadV (TK rfl) rfl rfl rfl) rfl ?_
      refine s0 (fieldVA (TK rfl) rfl rfl (TK rfl) rfl rfl) rfl ?_
      refine s0 (loadV (TK rfl) rfl rfl rfl) rfl ?_
      obtain ⟨x30, gx30, hE⟩ := bindO_some hE
      refine s0 (callP rfl rfl (fun H => Z21_walk gx30 H)) rfl ?_
      refine s0 moveA rfl ?_
      refine s0 (extract rfl rfl) rfl ?_
      refine s0 (extract rfl rfl) rfl ?_
      refine sL (allocLA (TK rfl) rfl) rfl ?_
      refine sLn (storeLFA (TK rfl) rfl rfl rfl rfl rfl) ?_
      refine s0 assignA rfl ?_
      refine nil ?_
      refine hK29 _ ?_
      clear hK29 K29
      refine freezeA 15 _ rfl (Keeps.c (k := 0) (by conv => lhs; whnf) (by rfl) (Keeps.c (k := 2) (by conv => lhs; whnf) (by rfl) (Keeps.c (k := 4) (by conv => lhs; whnf) (by rfl) (Keeps.c (k := 7) (by conv => lhs; whnf) (by rfl) (Keeps.c (k := 11) (by conv => lhs; whnf) (by rfl) (Keeps.c (k := 14) (by conv => lhs; whnf) (by rfl) (Keeps.c (k := 16) (by conv => lhs; whnf) (by rfl) (Keeps.c (k := 52) (by conv => lhs; whnf) (by rfl) (Keeps.c (k := 53) (by conv => lhs; whnf) (by rfl) (Keeps.c (k := 54) (by conv => lhs; whnf) (by rfl) Keeps.nil)))))))))) ?_
      refine seqK fun K31 hK31 => ?_
      refine region ?_
      refine s0 moveA rfl ?_
      refine nil ?_
      refine hK31 _ ?_
      clear hK31 K31
      refine condE hE rfl (fun hc32 hE => ?_) (fun hc32 hE => ?_)
      ·refine seqK fun K33 hK33 => ?_
       refine region ?_
       refine s0 moveA rfl ?_
       refine s0 moveA rfl ?_
       refine s0 (fieldVA (TK rfl) rfl rfl (TK rfl) rfl rfl) rfl ?_
       refine s0 (loadV (TK rfl) rfl rfl rfl) rfl ?_
       refine s0 (fieldVA (TK rfl) rfl rfl (TK rfl) rfl rfl) rfl ?_
       refine s0 (loadV (TK rfl) rfl rfl rfl) rfl ?_
       obtain ⟨x34, gx34, hE⟩ := bindO_some hE
       refine sH (callH rfl rfl (Z46_walk gx34 _ hpG hpG)) rfl ?_
       refine AOps.heq (h' := ((H.set c0_2 (some (.tok 4 x34.Fout.l.length))).set c0 (some (.cells (Usage_recorder.cg (some c0_2) x34))))) (by first | rfl | (rw [Heap.set_set]; rfl) | (funext n_; simp only [Heap.set]; (repeat' split) <;> first | rfl | (exfalso; simp_all; done) | (simp_all; done))) ?_
       refine nil ?_
       refine hK33 _ ?_
       clear hK33 K33
       refine region ?_
       refine s0 moveA rfl ?_
       refine s0 (fieldVA (TK rfl) rfl rfl (TK rfl) rfl rfl) rfl ?_
       refine s0 (loadV (TK rfl) rfl rfl rfl) rfl ?_
       refine s0 (fieldVA (TK rfl) rfl rfl (TK rfl) rfl rfl) rfl ?_
       refine s0 (loadV (TK rfl) rfl rfl rfl) rfl ?_
       obtain ⟨x35, gx35, hE⟩ := bindO_some hE
       refine sH (callH rfl rfl (Z47_walk gx35 _ hpG hpG)) rfl ?_
       refine AOps.heq (h' := ((H.set c0_2 (some (.tok 4 x35.Fout.l.length))).set c0 (some (.cells (Usage_recorder.cg (some c0_2) x35))))) (by first | rfl | (rw [Heap.set_set]; rfl) | (funext n_; simp only [Heap.set]; (repeat' split) <;> first | rfl | (exfalso; simp_all; done) | (simp_all; done))) ?_
       refine nil ?_
       exact hK25 _ x35 Weak.toA hE
      refine AWp.skip ?_
      exact hK25 _ y21_c0 Weak.toA hE
     rintro y26_c0 hE
     try dsimp only at hE
     unfold Z44_j25 at hE
     refine region ?_
     refine s0 (addIA rfl rfl) rfl ?_
     refine s0 moveA rfl ?_
     refine nil ?_
     exact hK19 _ (n19, (s54_20 + 1), y26_c0) Weak.toA hE (Nat.lt_succ_self _)
    refine AWp.exit ?_
    exact hK14 _ y21_c0 Weak.toA hE
 rintro y15_c0 hE
 try dsimp only at hE
 unfold Z44_j14 at hE
 refine seqK fun K16 hK16 => ?_
 refine region ?_
 refine s0 (fieldVA (TK rfl) rfl rfl (TK rfl) rfl rfl) rfl ?_
 refine s0 (loadV (TK rfl) rfl rfl rfl) rfl ?_
 refine s0 assignA rfl ?_
 refine nil ?_
 refine hK16 _ ?_
 clear hK16 K16
 refine AWp.ret ?_
 repeat (first | refine xBlock_ret ?_ | refine xThen_ret ?_)
 obtain rfl := Option.some.inj hE
 refine retQ.retF ((H.set c0_2 (some (.tok 4 y15_c0.Fout.l.length))).set c0 (some (.cells (Usage_recorder.cg (some c0_2) y15_c0)))) rfl ⟨rfl, rfl⟩ ?_
 exact (fun _ _ h => h)
def Z45_j9 (s11_4 : Nat) (k_next_3 : Nat → Usage_recorder → Option Usage_recorder) (y10_c0 : Usage_recorder) : Option Usage_recorder := k_next_3 (s11_4 + 1) y10_c0
def Z45_j19 (s11_4 : Nat) (x12 : TSel) (k_next_3 : Nat → Usage_recorder → Option Usage_recorder) (k_rec_22 : Usage_recorder → (Sl TSel) → Bs → Option Usage_recorder) (s8_20 : Bs) (y21_c0 : Usage_recorder) : Option Usage_recorder := (k_rec_22 y21_c0 x12.FSels s8_20).bind fun x22 => Z45_j9 s11_4 k_next_3 x22
def Z45_l3 (a1 : (Sl TSel)) (a2 : Bs) (k_rec_22 : Usage_recorder → (Sl TSel) → Bs → Option Usage_recorder) : Nat → Nat → Usage_recorder → Option Usage_recorder
 | 0, _, _ => none
 | n3 + 1, s11_4, y5_c0 => bif (decide (((s11_4 : Nat) : Int) < ((a1.l.length : Nat) : Int))) then ((a1.l[s11_4]?).bind fun x12 => bif (decide (x12.FKind = (2 : Int))) then (Z45_j9 s11_4 ((Z45_l3 a1 a2 k_rec_22 n3)) y5_c0) else (bif (decide (x12.FKind = (3 : Int))) then (bif (!(x12.FOn == ([] : Bs))) then ((Z43 y5_c0 x12.FOn).bind fun x26 => Z45_j19 s11_4 x12 ((Z45_l3 a1 a2 k_rec_22 n3)) k_rec_22 x12.FOn x26) else (Z45_j19 s11_4 x12 ((Z45_l3 a1 a2 k_rec_22 n3)) k_rec_22 a2 y5_c0)) else ((Z44 y5_c0 x12 a2).bind fun x27 => (k_rec_22 x27.2 x12.FSels x27.1).bind fun x28 => Z45_j9 s11_4 ((Z45_l3 a1 a2 k_rec_22 n3)) x28))) else (some y5_c0)
def Z45_n : Nat → Usage_recorder → (Sl TSel) → Bs → Option Usage_recorder
 | 0, _, _, _ => none
 | n + 1, a0, a1, a2 => Z45_l3 a1 a2 (Z45_n n) (a1.l.length + 1) 0 a0
theorem Z45_step (n : Nat) (ih_22 : ∀ {a0 : Usage_recorder} {a1 : (Sl TSel)} {a2 : Bs} {w1 : Option Nat} {c0 : Nat} {c0_2 : Nat} {r : Usage_recorder}, Z45_n n a0 a1 a2 = some r → ∀ (H : Heap) (hc0 : H c0 = some (.cells (Usage_recorder.cg (some c0_2) a0))) (ht0_2 : H c0_2 = some (.tok 4 a0.Fout.l.length)), ACalls Try.prog 22 [.d (.ptr c0 0), .d (Sl.d 7 TSel.c w1 a1), .d (.str a2)] H fun v h' => v = .tup [] ∧ h' = ((H.set c0_2 (some (.tok 4 r.Fout.l.length))).set c0 (some (.cells (Usage_recorder.cg (some c0_2) r))))) : ∀ {a0 : Usage_recorder} {a1 : (Sl TSel)} {a2 : Bs} {w1 : Option Nat} {c0 : Nat} {c0_2 : Nat} {r : Usage_recorder}, Z45_n (n + 1) a0 a1 a2 = some r → ∀ (H : Heap) (hc0 : H c0 = some (.cells (Usage_recorder.cg (some c0_2) a0))) (ht0_2 : H c0_2 = some (.tok 4 a0.Fout.l.length)), ACalls Try.prog 22 [.d (.ptr c0 0), .d (Sl.d 7 TSel.c w1 a1), .d (.str a2)] H fun v h' => v = .tup [] ∧ h' = ((H.set c0_2 (some (.tok 4 r.Fout.l.length))).set c0 (some (.cells (Usage_recorder.cg (some c0_2) r)))) := by
 intro a0 a1 a2 w1 c0 c0_2 r hE H hc0 ht0_2
 rw [Z45_n] at hE
 refine ACalls.of_wp (fn := Try.f22) (c := _) Try.tab_ok (fun _ _ => Try.call22 _ _) Try.func22 rfl (n := 45) rfl (rs := []) rfl rfl ?_
 have ne_c0_c0_2 : c0 ≠ c0_2 := fun e_ => by subst e_; simp_all
 refine AWp.heqA (h' := ((H.set c0_2 (some (.tok 4 a0.Fout.l.length))).set c0 (some (.cells (Usage_recorder.cg (some c0_2) a0))))) (by funext n_; simp only [Heap.set]; (repeat' split) <;> simp_all) ?_
 refine seqK fun K1 hK1 => ?_
 refine region ?_
 refine s0 moveA rfl ?_
 refine sLen (f := TSel.c) (s := a1) (TK rfl) rfl rfl rfl rfl fun hL2 => ?_
 refine s0 moveA rfl ?_
 refine nil ?_
 refine hK1 _ ?_
 clear hK1 K1
 refine block ?_
 refine loopH (KeepsT.A (k := 0) (KeepsT.A (k := 2) (KeepsT.A (k := 9) (KeepsT.A (k := 10) KeepsT.nil)))) (fun (z : Nat × Nat × Usage_recorder) => [(11, .a (.d (.int .i64 ((z.2.1 : Nat) : Int))))]) (fun z => ((H.set c0_2 (some (.tok 4 z.2.2.Fout.l.length))).set c0 (some (.cells (Usage_recorder.cg (some c0_2) z.2.2))))) (fun z => z.1) (fun z => Z45_l3 a1 a2 (Z45_n n) z.1 z.2.1 z.2.2 = some r) ((a1.l.length + 1), 0, a0) hE Weak.toA ?_
 rintro ⟨n3, s11_4, y5_c0⟩ hE K3 hK3
 try dsimp only at hE
 cases n3 with
 | zero => cases hE
 | succ n3 =>
   rw [Z45_l3] at hE
   refine seqK fun K6 hK6 => ?_
   refine region ?_
   refine s0 (binI rfl rfl rfl) rfl ?_
   refine nil ?_
   refine hK6 _ ?_
   clear hK6 K6
   refine seqK fun K7 hK7 => ?_
   refine condE hE rfl (fun hc8 hE => ?_) (fun hc8 hE => ?_)
   ·try dsimp only at hc8
    have hf8 := of_decide_eq_true hc8
    refine AWp.skip ?_
    refine hK7 _ ?_
    clear hK7 K7
    refine seqJH (KeepsT.A (k := 0) (KeepsT.A (k := 2) (KeepsT.A (k := 9) (KeepsT.A (k := 10) (KeepsT.A (k := 11) KeepsT.nil))))) (fun (z : Usage_recorder) => []) (fun z => ((H.set c0_2 (some (.tok 4 z.Fout.l.length))).set c0 (some (.cells (Usage_recorder.cg (some c0_2) z))))) (fun z => Z45_j9 s11_4 ((Z45_l3 a1 a2 (Z45_n n) n3)) z = some r) ?_ ?_
    ·intro K9 hK9
     refine block ?_
     refine seqK fun K11 hK11 => ?_
     refine region ?_
     obtain ⟨x12, gx12, hE⟩ := bindO_some hE
     refine s0 (idxMn (f := TSel.c) (n := s11_4) (TK rfl) rfl (TK rfl) rfl rfl rfl gx12) rfl ?_
     refine s0 (loadV (TK rfl) rfl rfl rfl) rfl ?_
     refine sL (allocLA (TK rfl) rfl) rfl ?_
     refine sLn (storeLFA (TK rfl) rfl rfl rfl rfl rfl) ?_
     refine nil ?_
     refine hK11 _ ?_
     clear hK11 K11
     refine freezeA 7 _ rfl (Keeps.c (k := 0) (by conv => lhs; whnf) (by rfl) (Keeps.c (k := 2) (by conv => lhs; whnf) (by rfl) (Keeps.c (k := 9) (by conv => lhs; whnf) (by rfl) (Keeps.c (k := 10) (by conv => lhs; whnf) (by rfl) (Keeps.c (k := 11) (by conv => lhs; whnf) (by rfl) Keeps.nil))))) ?_
     refine seqK fun K13 hK13 => ?_
     refine region ?_
     refine s0 (fieldVA (TK rfl) rfl rfl (TK rfl) rfl rfl) rfl ?_
     refine s0 (loadV (TK rfl) rfl rfl rfl) rfl ?_
     refine nil ?_
     refine hK13 _ ?_
     clear hK13 K13
     refine block ?_
     refine seqK fun K14 hK14 => ?_
     refine region ?_
     refine s0 (binI rfl rfl rfl) rfl ?_
     refine s0 assignA rfl ?_
     refine nil ?_
     refine hK14 _ ?_
     clear hK14 K14
     refine condE hE rfl (fun hc15 hE => ?_) (fun hc15 hE => ?_)
     ·refine AWp.skip ?_
      exact hK9 _ y5_c0 Weak.toA hE
     refine seqK fun K16 hK16 => ?_
     refine region ?_
     refine s0 (binI rfl rfl rfl) rfl ?_
     refine s0 assignA rfl ?_
     refine nil ?_
     refine hK16 _ ?_
     clear hK16 K16
     refine condE hE rfl (fun hc17 hE => ?_) (fun hc17 hE => ?_)
     ·refine seqK fun K18 hK18 => ?_
      refine region ?_
      refine s0 moveA rfl ?_
      refine s0 assignA rfl ?_
      refine nil ?_
      refine hK18 _ ?_
      clear hK18 K18
      refine seqJH (KeepsT.A (k := 0) (KeepsT.A (k := 2) (KeepsT.A (k := 7) (KeepsT.A (k := 9) (KeepsT.A (k := 10) (KeepsT.A (k := 11) KeepsT.nil)))))) (fun (z : Bs × Usage_recorder) => [(8, .a (.d (.str z.1)))]) (fun z => ((H.set c0_2 (some (.tok 4 z.2.Fout.l.length))).set c0 (some (.cells (Usage_recorder.cg (some c0_2) z.2))))) (fun z => Z45_j19 s11_4 x12 ((Z45_l3 a1 a2 (Z45_n n) n3)) (Z45_n n) z.1 z.2 = some r) ?_ ?_
      ·intro K19 hK19
       refine seqK fun K23 hK23 => ?_
       refine region ?_
       refine s0 (fieldVA (TK rfl) rfl rfl (TK rfl) rfl rfl) rfl ?_
       refine s0 (loadV (TK rfl) rfl rfl rfl) rfl ?_
       refine s0 (binS rfl rfl rfl) rfl ?_
       refine nil ?_
       refine hK23 _ ?_
       clear hK23 K23
       refine condE hE rfl (fun hc24 hE => ?_) (fun hc24 hE => ?_)
       ·refine seqK fun K25 hK25 => ?_
        refine region ?_
        refine s0 (fieldVA (TK rfl) rfl rfl (TK rfl) rfl rfl) rfl ?_
        refine s0 (loadV (TK rfl) rfl rfl rfl) rfl ?_
        refine s0 assignA rfl ?_
        refine nil ?_
        refine hK25 _ ?_
        clear hK25 K25
        refine region ?_
        refine s0 moveA rfl ?_
        refine s0 (fieldVA (TK rfl) rfl rfl (TK rfl) rfl rfl) rfl ?_
        refine s0 (loadV (TK rfl) rfl rfl rfl) rfl ?_
        obtain ⟨x26, gx26, hE⟩ := bindO_some hE
        refine sH (callH rfl rfl (Z43_walk gx26 _ hpG hpG)) rfl ?_
        refine AOps.heq (h' := ((H.set c0_2 (some (.tok 4 x26.Fout.l.length))).set c0 (some (.cells (Usage_recorder.cg (some c0_2) x26))))) (by first | rfl | (rw [Heap.set_set]; rfl) | (funext n_; simp only [Heap.set]; (repeat' split) <;> first | rfl | (exfalso; simp_all; done) | (simp_all; done))) ?_
        refine nil ?_
        exact hK19 _ (x12.FOn, x26) Weak.toA hE
       refine AWp.skip ?_
       exact hK19 _ (a2, y5_c0) Weak.toA hE
      rintro ⟨s8_20, y21_c0⟩ hE
      try dsimp only at hE
      unfold Z45_j19 at hE
      refine region ?_
      refine s0 moveA rfl ?_
      refine s0 (fieldVA (TK rfl) rfl rfl (TK rfl) rfl rfl) rfl ?_
      refine s0 (loadV (TK rfl) rfl rfl (congrArg (fun x => some (A.d x)) (TSel.FSelsD_eq _))) rfl ?_
      refine s0 moveA rfl ?_
      obtain ⟨x22, gx22, hE⟩ := bindO_some hE
      refine sH (callH rfl rfl (ih_22 gx22 _ hpG hpG)) rfl ?_
      refine AOps.heq (h' := ((H.set c0_2 (some (.tok 4 x22.Fout.l.length))).set c0 (some (.cells (Usage_recorder.cg (some c0_2) x22))))) (by first | rfl | (rw [Heap.set_set]; rfl) | (funext n_; simp only [Heap.set]; (repeat' split) <;> first | rfl | (exfalso; simp_all; done) | (simp_all; done))) ?_
      refine nil ?_
      exact hK9 _ x22 Weak.toA hE
     refine AWp.draw rfl ?_
     refine DOps.s0 moveA rfl ?_
     refine DOps.s0 (fieldVA (TK rfl) rfl rfl (TK rfl) rfl rfl) rfl ?_
     refine DOps.s0 (loadV (TK rfl) rfl rfl (congrArg (fun x => some (A.d x)) (TSel.FSelsD_eq _))) rfl ?_
     refine DOps.s0 moveA rfl ?_
     refine DOps.s0 (loadV (TK rfl) rfl rfl rfl) rfl ?_
     refine DOps.s0 moveA rfl ?_
     obtain ⟨x27, gx27, hE⟩ := bindO_some hE
     refine DOps.sH (callH rfl rfl (Z44_walk gx27 _ hpG hpG)) rfl ?_
     refine DOps.heq (h' := ((H.set c0_2 (some (.tok 4 x27.2.Fout.l.length))).set c0 (some (.cells (Usage_recorder.cg (some c0_2) x27.2))))) (by first | rfl | (rw [Heap.set_set]; rfl) | (funext n_; simp only [Heap.set]; (repeat' split) <;> first | rfl | (exfalso; simp_all; done) | (simp_all; done))) ?_
     obtain ⟨x28, gx28, hE⟩ := bindO_some hE
     refine DOps.sH (callH rfl rfl (ih_22 gx28 _ hpG hpG)) rfl ?_
     refine DOps.heq (h' := ((H.set c0_2 (some (.tok 4 x28.Fout.l.length))).set c0 (some (.cells (Usage_recorder.cg (some c0_2) x28))))) (by first | rfl | (rw [Heap.set_set]; rfl) | (funext n_; simp only [Heap.set]; (repeat' split) <;> first | rfl | (exfalso; simp_all; done) | (simp_all; done))) ?_
     refine DOps.nil (by decide +kernel) ?_
     exact hK9 _ x28 Weak.toA hE
    rintro y10_c0 hE
    try dsimp only at hE
    unfold Z45_j9 at hE
    refine region ?_
    refine s0 (addIA rfl rfl) rfl ?_
    refine s0 moveA rfl ?_
    refine nil ?_
    exact hK3 _ (n3, (s11_4 + 1), y10_c0) Weak.toA hE (Nat.lt_succ_self _)
   refine AWp.exit ?_
   repeat (first | refine xBlock_normal ?_ | refine xThen_exit ?_ | refine xBlock_exit ?_)
   obtain rfl := Option.some.inj hE
   refine retQ.normalF ((H.set c0_2 (some (.tok 4 y5_c0.Fout.l.length))).set c0 (some (.cells (Usage_recorder.cg (some c0_2) y5_c0)))) (xs := []) rfl ⟨rfl, rfl⟩ ?_
   exact (fun _ _ h => h)
theorem Z45_all : ∀ (n : Nat), (∀ {a0 : Usage_recorder} {a1 : (Sl TSel)} {a2 : Bs} {w1 : Option Nat} {c0 : Nat} {c0_2 : Nat} {r : Usage_recorder}, Z45_n n a0 a1 a2 = some r → ∀ (H : Heap) (hc0 : H c0 = some (.cells (Usage_recorder.cg (some c0_2) a0))) (ht0_2 : H c0_2 = some (.tok 4 a0.Fout.l.length)), ACalls Try.prog 22 [.d (.ptr c0 0), .d (Sl.d 7 TSel.c w1 a1), .d (.str a2)] H fun v h' => v = .tup [] ∧ h' = ((H.set c0_2 (some (.tok 4 r.Fout.l.length))).set c0 (some (.cells (Usage_recorder.cg (some c0_2) r)))))
 | 0 => fun hE => by first | cases hE | (rw [Z45_n] at hE; cases hE)
 | n + 1 => Z45_step n (Z45_all n)
def Z45 (a0 : Usage_recorder) (a1 : (Sl TSel)) (a2 : Bs) : Option Usage_recorder := Z45_n F0 a0 a1 a2
theorem Z45_walk {a0 : Usage_recorder} {a1 : (Sl TSel)} {a2 : Bs} {w1 : Option Nat} {c0 : Nat} {c0_2 : Nat} {r : Usage_recorder} (hE : Z45 a0 a1 a2 = some r) (H : Heap) (hc0 : H c0 = some (.cells (Usage_recorder.cg (some c0_2) a0))) (ht0_2 : H c0_2 = some (.tok 4 a0.Fout.l.length)) : ACalls Try.prog 22 [.d (.ptr c0 0), .d (Sl.d 7 TSel.c w1 a1), .d (.str a2)] H fun v h' => v = .tup [] ∧ h' = ((H.set c0_2 (some (.tok 4 r.Fout.l.length))).set c0 (some (.cells (Usage_recorder.cg (some c0_2) r)))) := (Z45_all F0) hE H hc0 ht0_2
def Z22 (a0 : Int) : Option Bs := bif (decide (a0 = (1 : Int))) then (some ([81, 117, 101, 114, 121] : Bs)) else (bif (decide (a0 = (2 : Int))) then (some ([77, 117, 116, 97, 116, 105, 111, 110] : Bs)) else (bif (decide (a0 = (3 : Int))) then (some ([83, 117, 98, 115, 99, 114, 105, 112, 116, 105, 111, 110] : Bs)) else (some ([] : Bs))))
theorem Z22_walk {a0 : Int}   {r : Bs} (hE : Z22 a0 = some r) (H : Heap)  : ACalls Try.prog 23 [.d (.int .i64 a0)] H fun v h' => v = .a (.d (.str r)) ∧ h' = H := by
 unfold Z22 at hE
 refine ACalls.of_wp (fn := Try.f23) (c := _) Try.tab_ok (fun _ _ => Try.call23 _ _) Try.func23 rfl (n := 10) rfl (rs := [.tmp 2]) rfl rfl ?_
 refine seqK fun K1 hK1 => ?_
 refine region ?_
 refine s0 assignA rfl ?_
 refine nil ?_
 refine hK1 _ ?_
 clear hK1 K1
 refine seqK fun K2 hK2 => ?_
 refine seqK fun K3 hK3 => ?_
 refine region ?_
 refine s0 moveA rfl ?_
 refine nil ?_
 refine hK3 _ ?_
 clear hK3 K3
 refine block ?_
 refine seqK fun K4 hK4 => ?_
 refine region ?_
 refine s0 (binI rfl rfl rfl) rfl ?_
 refine s0 assignA rfl ?_
 refine nil ?_
 refine hK4 _ ?_
 clear hK4 K4
 refine condE hE rfl (fun hc5 hE => ?_) (fun hc5 hE => ?_)
 ·refine seqK fun K6 hK6 => ?_
  refine region ?_
  refine s0 assignA rfl ?_
  refine nil ?_
  refine hK6 _ ?_
  clear hK6 K6
  refine AWp.ret ?_
  repeat (first | refine xBlock_ret ?_ | refine xThen_ret ?_)
  obtain rfl := Option.some.inj hE
  refine retQ.retF H rfl ⟨rfl, rfl⟩ ?_
  exact (fun _ _ h => h)
 refine seqK fun K7 hK7 => ?_
 refine region ?_
 refine s0 (binI rfl rfl rfl) rfl ?_
 refine s0 assignA rfl ?_
 refine nil ?_
 refine hK7 _ ?_
 clear hK7 K7
 refine condE hE rfl (fun hc8 hE => ?_) (fun hc8 hE => ?_)
 ·refine seqK fun K9 hK9 => ?_
  refine region ?_
  refine s0 assignA rfl ?_
  refine nil ?_
  refine hK9 _ ?_
  clear hK9 K9
  refine AWp.ret ?_
  repeat (first | refine xBlock_ret ?_ | refine xThen_ret ?_)
  obtain rfl := Option.some.inj hE
  refine retQ.retF H rfl ⟨rfl, rfl⟩ ?_
  exact (fun _ _ h => h)
 refine seqK fun K10 hK10 => ?_
 refine region ?_
 refine s0 (binI rfl rfl rfl) rfl ?_
 refine s0 assignA rfl ?_
 refine nil ?_
 refine hK10 _ ?_
 clear hK10 K10
 refine condE hE rfl (fun hc11 hE => ?_) (fun hc11 hE => ?_)
 ·refine seqK fun K12 hK12 => ?_
  refine region ?_
  refine s0 assignA rfl ?_
  refine nil ?_
  refine hK12 _ ?_
  clear hK12 K12
  refine AWp.ret ?_
  repeat (first | refine xBlock_ret ?_ | refine xThen_ret ?_)
  obtain rfl := Option.some.inj hE
  refine retQ.retF H rfl ⟨rfl, rfl⟩ ?_
  exact (fun _ _ h => h)
 refine AWp.skip ?_
 refine hK2 _ ?_
 clear hK2 K2
 refine seqK fun K13 hK13 => ?_
 refine region ?_
 refine s0 assignA rfl ?_
 refine nil ?_
 refine hK13 _ ?_
 clear hK13 K13
 refine AWp.ret ?_
 repeat (first | refine xBlock_ret ?_ | refine xThen_ret ?_)
 obtain rfl := Option.some.inj hE
 refine retQ.retF H rfl ⟨rfl, rfl⟩ ?_
 exact (fun _ _ h => h)
end Go.Proofs
