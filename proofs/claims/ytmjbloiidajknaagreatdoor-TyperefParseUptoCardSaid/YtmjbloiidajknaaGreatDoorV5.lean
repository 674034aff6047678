import Derived.Test.YtmjbloiidajknaaGreatDoorV4
set_option maxRecDepth 100000
set_option maxHeartbeats 2000000
set_option linter.unusedVariables false
set_option linter.unusedSimpArgs false
namespace Go.Proofs
open Go Go.Ab
open AOps Cert AWp
variable {lou : Lou}
def Z10_j10 (a0 : Bs)  (s5_11 : (Sl R04_Token)) : Option ((Sl R04_Token) × Int × Int) := (appC 32 s5_11 (⟨false, [(R04_Token.mk (5 : Int) ([] : Bs) ((a0.length : Nat) : Int))]⟩ : Sl R04_Token)).bind fun x14 => some (x14, (0 : Int), (0 : Int))
def Z10_l16 (a0 : Bs)  : Nat → (Sl R04_Token) → Int → Option ((Sl R04_Token) × Int × Int)
 | 0, _, _ => none
 | n16 + 1, s5_17, s6_18 => bif (decide (s6_18 < ((a0.length : Nat) : Int))) then ((Z14 a0 s6_18).bind fun x24 => bif (!decide (x24.2.2 = (0 : Int))) then (some ((Sl.nil : Sl R04_Token), s6_18, x24.2.2)) else ((appC 32 s5_17 (⟨false, [x24.1]⟩ : Sl R04_Token)).bind fun x30 => (Z16 a0 x24.2.1).bind fun x31 => (Z10_l16 a0 n16) x30 x31)) else (Z10_j10 a0  s5_17)
def Z10 (a0 : Bs) : Option ((Sl R04_Token) × Int × Int) := bif (decide ((65536 : Int) < ((a0.length : Nat) : Int))) then (some ((Sl.nil : Sl R04_Token), (65536 : Int), (4 : Int))) else ((Z16 a0 (0 : Int)).bind fun x9 => Z10_l16 a0 F0 (Sl.nil : Sl R04_Token) x9)
theorem Z10_walk {a0 : Bs}   {r : ((Sl R04_Token) × Int × Int)} (hE : Z10 a0 = some r) (H : Heap)  : ACalls Tryz.prog 46 [.d (.str a0)] H fun v h' => v = .tup [.d (Sl.d 3 R04_Token.c none r.1), .d (.int .i64 r.2.1), .d (.int .i64 r.2.2)] ∧ h' = H := by
 unfold Z10 at hE
 refine ACalls.of_wp (fn := Tryz.f46) (c := _) Tryz.tab_ok (fun _ _ => Tryz.call46 _ _) Tryz.func46 rfl (n := 44) rfl (rs := [.tmp 2, .tmp 3, .tmp 4]) rfl rfl ?_
 refine AWp.tok 3 fun tk1 htk1 => ?_
 refine seqK fun K1 hK1 => ?_
 refine region ?_
 refine s0 (assignNil (k' := 3) rfl) rfl ?_
 refine s0 assignA rfl ?_
 refine s0 assignA rfl ?_
 refine nil ?_
 refine hK1 _ ?_
 clear hK1 K1
 refine seqK fun K2 hK2 => ?_
 refine seqK fun K3 hK3 => ?_
 refine region ?_
 refine s0 moveA rfl ?_
 refine sLenS (TK rfl) rfl rfl rfl rfl fun hL4 => ?_
 refine s0 (binI rfl rfl rfl) rfl ?_
 refine nil ?_
 refine hK3 _ ?_
 clear hK3 K3
 refine condE hE rfl (fun hc5 hE => ?_) (fun hc5 hE => ?_)
 ·refine seqK fun K6 hK6 => ?_
  refine region ?_
  refine s0 (assignNil (k' := 3) rfl) rfl ?_
  refine s0 assignA rfl ?_
  refine s0 assignA rfl ?_
  refine nil ?_
  refine hK6 _ ?_
  clear hK6 K6
  refine AWp.ret ?_
  repeat (first | refine xBlock_ret ?_ | refine xThen_ret ?_)
  obtain rfl := Option.some.inj hE
  refine retQ.retF H rfl ⟨rfl, rfl⟩ ?_
  first | exact Heap.sub_set htk1 | (simp only [Heap.set_set]; exact Heap.sub_set htk1)
 refine AWp.skip ?_
 refine hK2 _ ?_
 clear hK2 K2
 refine seqK fun K7 hK7 => ?_
 refine region ?_
 refine s0 assignA rfl ?_
 refine nil ?_
 refine hK7 _ ?_
 clear hK7 K7
 refine AWp.nilTok 5 3 tk1 rfl hpG ?_
 refine seqK fun K8 hK8 => ?_
 refine region ?_
 refine s0 moveA rfl ?_
 obtain ⟨x9, gx9, hE⟩ := bindO_some hE
 refine s0 (callP rfl rfl (fun H => Z16_walk gx9 H)) rfl ?_
 refine s0 assignA rfl ?_
 refine nil ?_
 refine hK8 _ ?_
 clear hK8 K8
 refine seqJH (KeepsT.A (k := 0) KeepsT.nil) (fun (z : (Sl R04_Token)) => [(5, .a (.d (Sl.d 3 R04_Token.c (some tk1) z)))]) (fun z => (H.set tk1 (some (.tok 3 z.l.length)))) (fun z => Z10_j10 a0 z = some r) ?_ ?_
 ·intro K10 hK10
  refine block ?_
  refine loopH (KeepsT.A (k := 0) KeepsT.nil) (fun (z : Nat × (Sl R04_Token) × Int) => [(5, .a (.d (Sl.d 3 R04_Token.c (some tk1) z.2.1))), (6, .a (.d (.int .i64 z.2.2)))]) (fun z => (H.set tk1 (some (.tok 3 z.2.1.l.length)))) (fun z => z.1) (fun z => Z10_l16 a0 z.1 z.2.1 z.2.2 = some r) (F0, (Sl.nil : Sl R04_Token), x9) hE Weak.toA ?_
  rintro ⟨n16, s5_17, s6_18⟩ hE K16 hK16
  try dsimp only at hE
  cases n16 with
  | zero => cases hE
  | succ n16 =>
    rw [Z10_l16] at hE
    refine seqK fun K19 hK19 => ?_
    refine seqK fun K20 hK20 => ?_
    refine region ?_
    refine s0 moveA rfl ?_
    refine s0 moveA rfl ?_
    refine sLenS (TK rfl) rfl rfl rfl rfl fun hL21 => ?_
    refine s0 (binI rfl rfl rfl) rfl ?_
    refine nil ?_
    refine hK20 _ ?_
    clear hK20 K20
    refine condE hE rfl (fun hc22 hE => ?_) (fun hc22 hE => ?_)
    ·refine AWp.skip ?_
     refine hK19 _ ?_
     clear hK19 K19
     refine block ?_
     refine seqK fun K23 hK23 => ?_
     refine region ?_
     refine s0 moveA rfl ?_
     refine s0 moveA rfl ?_
     obtain ⟨x24, gx24, hE⟩ := bindO_some hE
     refine s0 (callP rfl rfl (fun H => Z14_walk gx24 H)) rfl ?_
     refine s0 moveA rfl ?_
     refine s0 (extract rfl rfl) rfl ?_
     refine s0 (extract rfl rfl) rfl ?_
     refine s0 (extract rfl rfl) rfl ?_
     refine sL (allocLA (TK rfl) rfl) rfl ?_
     refine sLn (storeLFA (TK rfl) rfl rfl rfl rfl rfl) ?_
     refine s0 assignA rfl ?_
     refine s0 assignA rfl ?_
     refine nil ?_
     refine hK23 _ ?_
     clear hK23 K23
     refine freezeA 7 _ rfl (Keeps.c (k := 0) (by conv => lhs; whnf) (by rfl) (Keeps.c (k := 5) (by conv => lhs; whnf) (by rfl) (Keeps.c (k := 6) (by conv => lhs; whnf) (by rfl) (Keeps.c (k := 8) (by conv => lhs; whnf) (by rfl) (Keeps.c (k := 9) (by conv => lhs; whnf) (by rfl) Keeps.nil))))) ?_
     refine seqK fun K25 hK25 => ?_
     refine seqK fun K26 hK26 => ?_
     refine region ?_
     refine s0 moveA rfl ?_
     refine s0 (binI rfl rfl rfl) rfl ?_
     refine nil ?_
     refine hK26 _ ?_
     clear hK26 K26
     refine condE hE rfl (fun hc27 hE => ?_) (fun hc27 hE => ?_)
     ·refine seqK fun K28 hK28 => ?_
      refine region ?_
      refine s0 moveA rfl ?_
      refine s0 moveA rfl ?_
      refine s0 (assignNil (k' := 3) rfl) rfl ?_
      refine s0 assignA rfl ?_
      refine s0 assignA rfl ?_
      refine nil ?_
      refine hK28 _ ?_
      clear hK28 K28
      refine AWp.ret ?_
      repeat (first | refine xBlock_ret ?_ | refine xThen_ret ?_)
      obtain rfl := Option.some.inj hE
      refine retQ.retF H rfl ⟨rfl, rfl⟩ ?_
      first | exact Heap.sub_set htk1 | (simp only [Heap.set_set]; exact Heap.sub_set htk1)
     refine AWp.skip ?_
     refine hK25 _ ?_
     clear hK25 K25
     refine seqK fun K29 hK29 => ?_
     refine region ?_
     refine s0 moveA rfl ?_
     refine s0 (loadV (TK rfl) rfl rfl rfl) rfl ?_
     refine s0 (buildSlice (TK rfl) rfl (TK rfl) rfl rfl rfl rfl rfl rfl) rfl ?_
     obtain ⟨x30, gx30, hE⟩ := bindO_some hE
     refine sH (appM (f := R04_Token.c) (TK rfl) rfl (TK rfl) (TK rfl) ⟨_, rfl⟩ rfl rfl (by decide) rfl rfl rfl rfl hpG rfl gx30) rfl ?_
     refine AOps.heq (h' := (H.set tk1 (some (.tok 3 x30.l.length)))) (by first | rfl | (rw [Heap.set_set]; rfl) | (funext n_; simp only [Heap.set]; (repeat' split) <;> first | rfl | (exfalso; simp_all; done) | (simp_all; done))) ?_
     refine s0 assignA rfl ?_
     refine nil ?_
     refine hK29 _ ?_
     clear hK29 K29
     refine region ?_
     refine s0 moveA rfl ?_
     refine s0 moveA rfl ?_
     obtain ⟨x31, gx31, hE⟩ := bindO_some hE
     refine s0 (callP rfl rfl (fun H => Z16_walk gx31 H)) rfl ?_
     refine s0 assignA rfl ?_
     refine nil ?_
     exact hK16 _ (n16, x30, x31) Weak.toA hE (Nat.lt_succ_self _)
    refine AWp.exit ?_
    exact hK10 _ s5_17 Weak.toA hE
 rintro s5_11 hE
 try dsimp only at hE
 unfold Z10_j10 at hE
 refine seqK fun K12 hK12 => ?_
 refine region ?_
 refine s0 moveA rfl ?_
 refine s0 moveA rfl ?_
 refine sLenS (TK rfl) rfl rfl rfl rfl fun hL13 => ?_
 refine s0 (build Tryz.tab_ok rfl rfl rfl rfl rfl rfl) rfl ?_
 refine s0 (buildSlice (TK rfl) rfl (TK rfl) rfl rfl rfl rfl rfl rfl) rfl ?_
 obtain ⟨x14, gx14, hE⟩ := bindO_some hE
 refine sH (appM (f := R04_Token.c) (TK rfl) rfl (TK rfl) (TK rfl) ⟨_, rfl⟩ rfl rfl (by decide) rfl rfl rfl rfl hpG rfl gx14) rfl ?_
 refine AOps.heq (h' := (H.set tk1 (some (.tok 3 x14.l.length)))) (by first | rfl | (rw [Heap.set_set]; rfl) | (funext n_; simp only [Heap.set]; (repeat' split) <;> first | rfl | (exfalso; simp_all; done) | (simp_all; done))) ?_
 refine s0 assignA rfl ?_
 refine nil ?_
 refine hK12 _ ?_
 clear hK12 K12
 refine seqK fun K15 hK15 => ?_
 refine region ?_
 refine s0 moveA rfl ?_
 refine s0 assignA rfl ?_
 refine s0 assignA rfl ?_
 refine s0 assignA rfl ?_
 refine nil ?_
 refine hK15 _ ?_
 clear hK15 K15
 refine AWp.dropTok 2 rfl ?_
 refine AWp.ret ?_
 repeat (first | refine xBlock_ret ?_ | refine xThen_ret ?_)
 obtain rfl := Option.some.inj hE
 refine retQ.retF H rfl ⟨rfl, rfl⟩ ?_
 first | exact Heap.sub_set htk1 | (simp only [Heap.set_set]; exact Heap.sub_set htk1)
def Z19 (a0 : TRef) : Option Bool := guardO ((decide ((0 : Int) < ((a0.FWraps.l.length : Nat) : Int)))) (a0.FWraps.l[0]?) (0 : Int) fun x4 => some ((decide ((0 : Int) < ((a0.FWraps.l.length : Nat) : Int))) && (decide (x4 = (1 : Int))))
theorem Z19_walk {a0 : TRef}   {r : Bool} (hE : Z19 a0 = some r) (H : Heap)  : ACalls Tryz.prog 20 [.agg (TRef.c a0)] H fun v h' => v = .a (.d (.bool r)) ∧ h' = H := by
 unfold Z19 at hE
 refine ACalls.of_wp (fn := Tryz.f20) (c := _) Tryz.tab_ok (fun _ _ => Tryz.call20 _ _) Tryz.func20 rfl (n := 14) rfl (rs := [.tmp 2]) rfl rfl ?_
 refine seqK fun K1 hK1 => ?_
 refine region ?_
 refine s0 (boxV rfl) rfl ?_
 refine s0 assignA rfl ?_
 refine nil ?_
 refine hK1 _ ?_
 clear hK1 K1
 refine seqK fun K2 hK2 => ?_
 refine region ?_
 refine s0 (fieldVA (TK rfl) rfl rfl (TK rfl) rfl rfl) rfl ?_
 refine s0 (loadV (TK rfl) rfl rfl rfl) rfl ?_
 refine sLen (f := (intE .i64)) (s := a0.FWraps) (TK rfl) rfl rfl rfl rfl fun hL3 => ?_
 refine s0 (binI rfl rfl rfl) rfl ?_
 refine s0 moveA rfl ?_
 refine gC rfl rfl (fun hC => fieldVA (TK rfl) rfl rfl (TK rfl) rfl rfl) rfl ?_
 refine gC rfl rfl (fun hC => ungdA (k := 8) rfl (loadV (TK rfl) rfl rfl rfl)) rfl ?_
 obtain ⟨x4, gx4, hE⟩ := guardO_some hE
 refine gC rfl rfl (fun hC => ungdA (k := 9) rfl (idxMn (f := (intE .i64)) (n := 0) (TK rfl) rfl (TK rfl) rfl rfl rfl (gx4 hC))) rfl ?_
 refine gC rfl rfl (fun hC => ungdA (k := 10) rfl (loadV (TK rfl) rfl rfl rfl)) rfl ?_
 refine gC rfl rfl (fun hC => ungdA (k := 11) rfl (binI rfl rfl rfl)) rfl ?_
 refine s0 (pickAndA rfl rfl rfl) rfl ?_
 refine s0 assignA rfl ?_
 refine nil ?_
 refine hK2 _ ?_
 clear hK2 K2
 refine AWp.ret ?_
 repeat (first | refine xBlock_ret ?_ | refine xThen_ret ?_)
 obtain rfl := Option.some.inj hE
 refine retQ.retF H rfl ⟨rfl, rfl⟩ ?_
 exact (fun _ _ h => h)
def Z27 (a0 : Int) (a1 : TRef) : Option TRef := (appC 8 (⟨false, [a0]⟩ : Sl Int) a1.FWraps).bind fun x3 => some (TRef.mk a1.FName x3)
theorem Z27_walk {a0 : Int} {a1 : TRef}   {r : TRef} (hE : Z27 a0 a1 = some r) (H : Heap)  : ACalls Tryz.prog 38 [.d (.int .i64 a0), .agg (TRef.c a1)] H fun v h' => v = .a (.agg (TRef.c r)) ∧ h' = H := by
 unfold Z27 at hE
 refine ACalls.of_wp (fn := Tryz.f38) (c := _) Tryz.tab_ok (fun _ _ => Tryz.call38 _ _) Tryz.func38 rfl (n := 13) rfl (rs := [.cell 4 24]) rfl rfl ?_
 refine seqK fun K1 hK1 => ?_
 refine region ?_
 refine s0 (boxV rfl) rfl ?_
 refine sL (allocLA (TK rfl) rfl) rfl ?_
 refine nil ?_
 refine hK1 _ ?_
 clear hK1 K1
 refine seqK fun K2 hK2 => ?_
 refine AWp.draw rfl ?_
 refine DOps.s0 (fieldVA (TK rfl) rfl rfl (TK rfl) rfl rfl) rfl ?_
 refine DOps.s0 (loadV (TK rfl) rfl rfl rfl) rfl ?_
 refine DOps.s0 moveA rfl ?_
 refine DOps.s0 (buildSliceF (TK rfl) rfl (TK rfl) rfl rfl rfl rfl rfl rfl) rfl ?_
 refine DOps.s0 (fieldVA (TK rfl) rfl rfl (TK rfl) rfl rfl) rfl ?_
 refine DOps.s0 (loadV (TK rfl) rfl rfl rfl) rfl ?_
 obtain ⟨x3, gx3, hE⟩ := bindO_some hE
 refine DOps.s0 (appFM (f := (intE .i64)) (TK rfl) rfl (TK rfl) (TK rfl) ⟨_, rfl⟩ rfl rfl (by decide) rfl rfl rfl (by intro q h; cases h <;> decide) rfl rfl gx3) rfl ?_
 refine DOps.s0 (build Tryz.tab_ok rfl rfl rfl rfl rfl rfl) rfl ?_
 refine DOps.sLn (storeLFA (TK rfl) rfl rfl rfl rfl rfl) ?_
 refine DOps.nil (by decide +kernel) ?_
 refine hK2 _ ?_
 clear hK2 K2
 refine AWp.ret ?_
 repeat (first | refine xBlock_ret ?_ | refine xThen_ret ?_)
 obtain rfl := Option.some.inj hE
 refine retQ.retF H rfl ⟨rfl, rfl⟩ ?_
 exact (fun _ _ h => h)
def Z21 (a0 : TRef) : Option TRef := (Z19 a0).bind fun x4 => bif x4 then ((appC 8 (⟨false, []⟩ : Sl Int) a0.FWraps).bind fun x7 => some (TRef.mk a0.FName x7)) else ((Z27 (1 : Int) a0).bind fun x9 => some x9)
theorem Z21_walk {a0 : TRef}   {r : TRef} (hE : Z21 a0 = some r) (H : Heap)  : ACalls Tryz.prog 14 [.agg (TRef.c a0)] H fun v h' => v = .a (.agg (TRef.c r)) ∧ h' = H := by
 unfold Z21 at hE
 refine ACalls.of_wp (fn := Tryz.f14) (c := _) Tryz.tab_ok (fun _ _ => Tryz.call14 _ _) Tryz.func14 rfl (n := 14) rfl (rs := [.cell 2 24]) rfl rfl ?_
 refine seqK fun K1 hK1 => ?_
 refine region ?_
 refine s0 (boxV rfl) rfl ?_
 refine sL (allocLA (TK rfl) rfl) rfl ?_
 refine nil ?_
 refine hK1 _ ?_
 clear hK1 K1
 refine seqK fun K2 hK2 => ?_
 refine seqK fun K3 hK3 => ?_
 refine region ?_
 refine s0 (loadV (TK rfl) rfl rfl rfl) rfl ?_
 obtain ⟨x4, gx4, hE⟩ := bindO_some hE
 refine s0 (callP rfl rfl (fun H => Z19_walk gx4 H)) rfl ?_
 refine nil ?_
 refine hK3 _ ?_
 clear hK3 K3
 refine condE hE rfl (fun hc5 hE => ?_) (fun hc5 hE => ?_)
 ·refine seqK fun K6 hK6 => ?_
  refine AWp.draw rfl ?_
  refine DOps.s0 (fieldVA (TK rfl) rfl rfl (TK rfl) rfl rfl) rfl ?_
  refine DOps.s0 (loadV (TK rfl) rfl rfl rfl) rfl ?_
  refine DOps.s0 (buildSliceF (TK rfl) rfl (TK rfl) rfl rfl rfl rfl rfl rfl) rfl ?_
  refine DOps.s0 (fieldVA (TK rfl) rfl rfl (TK rfl) rfl rfl) rfl ?_
  refine DOps.s0 (loadV (TK rfl) rfl rfl rfl) rfl ?_
  obtain ⟨x7, gx7, hE⟩ := bindO_some hE
  refine DOps.s0 (appFM (f := (intE .i64)) (TK rfl) rfl (TK rfl) (TK rfl) ⟨_, rfl⟩ rfl rfl (by decide) rfl rfl rfl (by intro q h; cases h <;> decide) rfl rfl gx7) rfl ?_
  refine DOps.s0 (build Tryz.tab_ok rfl rfl rfl rfl rfl rfl) rfl ?_
  refine DOps.sLn (storeLFA (TK rfl) rfl rfl rfl rfl rfl) ?_
  refine DOps.nil (by decide +kernel) ?_
  refine hK6 _ ?_
  clear hK6 K6
  refine AWp.ret ?_
  repeat (first | refine xBlock_ret ?_ | refine xThen_ret ?_)
  obtain rfl := Option.some.inj hE
  refine retQ.retF H rfl ⟨rfl, rfl⟩ ?_
  exact (fun _ _ h => h)
 refine AWp.skip ?_
 refine hK2 _ ?_
 clear hK2 K2
 refine seqK fun K8 hK8 => ?_
 refine region ?_
 refine s0 (loadV (TK rfl) rfl rfl rfl) rfl ?_
 obtain ⟨x9, gx9, hE⟩ := bindO_some hE
 refine s0 (callP rfl rfl (fun H => Z27_walk gx9 H)) rfl ?_
 refine sLn (storeLFA (TK rfl) rfl rfl rfl rfl rfl) ?_
 refine nil ?_
 refine hK8 _ ?_
 clear hK8 K8
 refine AWp.ret ?_
 repeat (first | refine xBlock_ret ?_ | refine xThen_ret ?_)
 obtain rfl := Option.some.inj hE
 refine retQ.retF H rfl ⟨rfl, rfl⟩ ?_
 exact (fun _ _ h => h)
def Z20 (a0 : TRef) : Option TRef := (Z27 (2 : Int) a0).bind fun x3 => some x3
theorem Z20_walk {a0 : TRef}   {r : TRef} (hE : Z20 a0 = some r) (H : Heap)  : ACalls Tryz.prog 16 [.agg (TRef.c a0)] H fun v h' => v = .a (.agg (TRef.c r)) ∧ h' = H := by
 unfold Z20 at hE
 refine ACalls.of_wp (fn := Tryz.f16) (c := _) Tryz.tab_ok (fun _ _ => Tryz.call16 _ _) Tryz.func16 rfl (n := 5) rfl (rs := [.cell 2 24]) rfl rfl ?_
 refine seqK fun K1 hK1 => ?_
 refine region ?_
 refine s0 (boxV rfl) rfl ?_
 refine sL (allocLA (TK rfl) rfl) rfl ?_
 refine nil ?_
 refine hK1 _ ?_
 clear hK1 K1
 refine seqK fun K2 hK2 => ?_
 refine region ?_
 refine s0 (loadV (TK rfl) rfl rfl rfl) rfl ?_
 obtain ⟨x3, gx3, hE⟩ := bindO_some hE
 refine s0 (callP rfl rfl (fun H => Z27_walk gx3 H)) rfl ?_
 refine sLn (storeLFA (TK rfl) rfl rfl rfl rfl rfl) ?_
 refine nil ?_
 refine hK2 _ ?_
 clear hK2 K2
 refine AWp.ret ?_
 repeat (first | refine xBlock_ret ?_ | refine xThen_ret ?_)
 obtain rfl := Option.some.inj hE
 refine retQ.retF H rfl ⟨rfl, rfl⟩ ?_
 exact (fun _ _ h => h)
def Z26 (a0 : (Sl R04_Token)) (a1 : Int) (a2 : Bs) : Option Bool := guardO ((decide (a1 < ((a0.l.length : Nat) : Int)))) (idxC a0.l a1) R04_Token.zero fun x4 => guardO (((decide (a1 < ((a0.l.length : Nat) : Int))) && (decide (x4.FKind = (1 : Int))))) (idxC a0.l a1) R04_Token.zero fun x5 => some (((decide (a1 < ((a0.l.length : Nat) : Int))) && (decide (x4.FKind = (1 : Int)))) && ((x5.FText == a2)))
theorem Z26_walk {a0 : (Sl R04_Token)} {a1 : Int} {a2 : Bs} {w0 : Option Nat}  {r : Bool} (hE : Z26 a0 a1 a2 = some r) (H : Heap)  : ACalls Tryz.prog 58 [.d (Sl.d 3 R04_Token.c w0 a0), .d (.int .i64 a1), .d (.str a2)] H fun v h' => v = .a (.d (.bool r)) ∧ h' = H := by
 unfold Z26 at hE
 refine ACalls.of_wp (fn := Tryz.f58) (c := _) Tryz.tab_ok (fun _ _ => Tryz.call58 _ _) Tryz.func58 rfl (n := 28) rfl (rs := [.tmp 6]) rfl rfl ?_
 refine seqK fun K1 hK1 => ?_
 refine region ?_
 refine s0 assignA rfl ?_
 refine nil ?_
 refine hK1 _ ?_
 clear hK1 K1
 refine seqK fun K2 hK2 => ?_
 refine region ?_
 refine s0 moveA rfl ?_
 refine s0 moveA rfl ?_
 refine sLen (f := R04_Token.c) (s := a0) (TK rfl) rfl rfl rfl rfl fun hL3 => ?_
 refine s0 (binI rfl rfl rfl) rfl ?_
 refine s0 moveA rfl ?_
 refine gC rfl rfl (fun hC => moveA) rfl ?_
 refine gC rfl rfl (fun hC => moveA) rfl ?_
 obtain ⟨x4, gx4, hE⟩ := guardO_some hE
 refine gC rfl rfl (fun hC => ungdA (k := 12) rfl (ungdA (k := 13) rfl (idxM (f := R04_Token.c) (TK rfl) rfl (TK rfl) rfl rfl rfl (gx4 hC)))) rfl ?_
 refine gC rfl rfl (fun hC => ungdA (k := 14) rfl (fieldVA (TK rfl) rfl rfl (TK rfl) rfl rfl)) rfl ?_
 refine gC rfl rfl (fun hC => ungdA (k := 15) rfl (loadV (TK rfl) rfl rfl rfl)) rfl ?_
 refine gC rfl rfl (fun hC => ungdA (k := 16) rfl (binI rfl rfl rfl)) rfl ?_
 refine s0 (pickAndA rfl rfl rfl) rfl ?_
 refine s0 moveA rfl ?_
 refine gC rfl rfl (fun hC => moveA) rfl ?_
 refine gC rfl rfl (fun hC => moveA) rfl ?_
 obtain ⟨x5, gx5, hE⟩ := guardO_some hE
 refine gC rfl rfl (fun hC => ungdA (k := 20) rfl (ungdA (k := 21) rfl (idxM (f := R04_Token.c) (TK rfl) rfl (TK rfl) rfl rfl rfl (gx5 hC)))) rfl ?_
 refine gC rfl rfl (fun hC => ungdA (k := 22) rfl (fieldVA (TK rfl) rfl rfl (TK rfl) rfl rfl)) rfl ?_
 refine gC rfl rfl (fun hC => ungdA (k := 23) rfl (loadV (TK rfl) rfl rfl rfl)) rfl ?_
 refine gC rfl rfl (fun hC => moveA) rfl ?_
 refine gC rfl rfl (fun hC => ungdA (k := 24) rfl (ungdA (k := 25) rfl (binS rfl rfl rfl))) rfl ?_
 refine s0 (pickAndA rfl rfl rfl) rfl ?_
 refine s0 assignA rfl ?_
 refine nil ?_
 refine hK2 _ ?_
 clear hK2 K2
 refine AWp.ret ?_
 repeat (first | refine xBlock_ret ?_ | refine xThen_ret ?_)
 obtain rfl := Option.some.inj hE
 refine retQ.retF H rfl ⟨rfl, rfl⟩ ?_
 exact (fun _ _ h => h)
def Z24_j7  (s1_8 : Int) (y9_l1 : TRef) : Option (TRef × Int × Bool) := some (y9_l1, s1_8, true)
def Z24_j3 (a0 : (Sl R04_Token))  (s1_4 : Int) (y5_l0 : TRef) (y6_l1 : TRef) : Option (TRef × Int × Bool) := (Z26 a0 s1_4 ([33] : Bs)).bind fun x12 => bif x12 then ((Z21 y6_l1).bind fun x15 => (addC s1_4 (1 : Int)).bind fun x16 => Z24_j7   x16 x15) else (Z24_j7   s1_4 y6_l1)
def Z24_n : Nat → (Sl R04_Token) → Int → Option (TRef × Int × Bool)
 | 0, _, _ => none
 | n + 1, a0, a1 => (Z26 a0 a1 ([91] : Bs)).bind fun x18 => bif x18 then ((addC a1 (1 : Int)).bind fun x21 => ((Z24_n n) a0 x21).bind fun x22 => guardO (!(!x22.2.2)) (Z26 a0 x22.2.1 ([93] : Bs)) false fun x25 => bif ((!x22.2.2) || (!x25)) then (some ((TRef.mk ([] : Bs) (Sl.nil : Sl Int)), (0 : Int), false)) else ((Z20 x22.1).bind fun x29 => (addC x22.2.1 (1 : Int)).bind fun x30 => Z24_j3 a0  x30 TRef.zero x29)) else (guardO (!(decide (((a0.l.length : Nat) : Int) ≤ a1))) (idxC a0.l a1) R04_Token.zero fun x34 => bif ((decide (((a0.l.length : Nat) : Int) ≤ a1)) || (!decide (x34.FKind = (2 : Int)))) then (some ((TRef.mk ([] : Bs) (Sl.nil : Sl Int)), (0 : Int), false)) else ((idxC a0.l a1).bind fun x38 => (addC a1 (1 : Int)).bind fun x39 => Z24_j3 a0  x39 TRef.zero (TRef.mk x38.FText ((TRef.mk ([] : Bs) (Sl.nil : Sl Int)).FWraps))))
theorem Z24_step (n : Nat) (ih_47 : ∀ {a0 : (Sl R04_Token)} {a1 : Int} {w0 : Option Nat}  {r : (TRef × Int × Bool)}, Z24_n n a0 a1 = some r → ∀ (H : Heap), ACalls Tryz.prog 47 [.d (Sl.d 3 R04_Token.c w0 a0), .d (.int .i64 a1)] H fun v h' => v = .tup [.agg (TRef.c r.1), .d (.int .i64 r.2.1), .d (.bool r.2.2)] ∧ h' = H) : ∀ {a0 : (Sl R04_Token)} {a1 : Int} {w0 : Option Nat}  {r : (TRef × Int × Bool)}, Z24_n (n + 1) a0 a1 = some r → ∀ (H : Heap), ACalls Tryz.prog 47 [.d (Sl.d 3 R04_Token.c w0 a0), .d (.int .i64 a1)] H fun v h' => v = .tup [.agg (TRef.c r.1), .d (.int .i64 r.2.1), .d (.bool r.2.2)] ∧ h' = H := by
 intro a0 a1 w0  r hE H 
 rw [Z24_n] at hE
 refine ACalls.of_wp (fn := Tryz.f47) (c := _) Tryz.tab_ok (fun _ _ => Tryz.call47 _ _) Tryz.func47 rfl (n := 66) rfl (rs := [.cell 4 24, .tmp 5, .tmp 6]) rfl rfl ?_
 refine seqK fun K1 hK1 => ?_
 refine region ?_
 refine sL (allocLA (TK rfl) rfl) rfl ?_
 refine s0 assignA rfl ?_
 refine s0 assignA rfl ?_
 refine nil ?_
 refine hK1 _ ?_
 clear hK1 K1
 refine seqK fun K2 hK2 => ?_
 refine region ?_
 refine s0 (build Tryz.tab_ok rfl rfl rfl rfl rfl rfl) rfl ?_
 refine sL (allocLA (TK rfl) rfl) rfl ?_
 refine sLn (storeLFA (TK rfl) rfl rfl rfl rfl rfl) ?_
 refine nil ?_
 refine hK2 _ ?_
 clear hK2 K2
 refine seqJ (KeepsT.A (k := 0) (KeepsT.A (k := 4) (KeepsT.A (k := 7) KeepsT.nil))) (fun (z : Int × TRef × TRef) => [(1, .a (.d (.int .i64 z.1)))]) (fun z => [TRef.c z.2.1, TRef.c z.2.2]) (fun z => H) (fun z => Z24_j3 a0 z.1 z.2.1 z.2.2 = some r) ?_ ?_
 ·intro K3 hK3
  refine seqK fun K17 hK17 => ?_
  refine region ?_
  refine s0 moveA rfl ?_
  refine s0 moveA rfl ?_
  obtain ⟨x18, gx18, hE⟩ := bindO_some hE
  refine s0 (callP rfl rfl (fun H => Z26_walk gx18 H)) rfl ?_
  refine nil ?_
  refine hK17 _ ?_
  clear hK17 K17
  refine condE hE rfl (fun hc19 hE => ?_) (fun hc19 hE => ?_)
  ·refine seqK fun K20 hK20 => ?_
   refine region ?_
   refine s0 moveA rfl ?_
   refine s0 moveA rfl ?_
   obtain ⟨x21, gx21, hE⟩ := bindO_some hE
   refine s0 (addM rfl rfl gx21) rfl ?_
   obtain ⟨x22, gx22, hE⟩ := bindO_some hE
   refine s0 (callP rfl rfl (fun H => ih_47 gx22 H)) rfl ?_
   refine s0 moveA rfl ?_
   refine s0 (extract rfl rfl) rfl ?_
   refine s0 (extract rfl rfl) rfl ?_
   refine s0 (extract rfl rfl) rfl ?_
   refine sL (allocLA (TK rfl) rfl) rfl ?_
   refine sLn (storeLFA (TK rfl) rfl rfl rfl rfl rfl) ?_
   refine s0 assignA rfl ?_
   refine s0 assignA rfl ?_
   refine nil ?_
   refine hK20 _ ?_
   clear hK20 K20
   refine freezeA 8 _ rfl (Keeps.c (k := 0) (by conv => lhs; whnf) (by rfl) (Keeps.c (k := 4) (by conv => lhs; whnf) (by rfl) (Keeps.c (k := 7) (by conv => lhs; whnf) (by rfl) (Keeps.c (k := 9) (by conv => lhs; whnf) (by rfl) (Keeps.c (k := 10) (by conv => lhs; whnf) (by rfl) Keeps.nil))))) ?_
   refine seqK fun K23 hK23 => ?_
   refine seqK fun K24 hK24 => ?_
   refine region ?_
   refine s0 moveA rfl ?_
   refine s0 (notB rfl) rfl ?_
   refine s0 moveA rfl ?_
   refine gC rfl rfl (fun hC => moveA) rfl ?_
   refine gC rfl rfl (fun hC => moveA) rfl ?_
   obtain ⟨x25, gx25, hE⟩ := guardO_some hE
   refine gC rfl rfl (fun hC => ungdA (k := 26) rfl (ungdA (k := 27) rfl (callP rfl rfl (fun H => Z26_walk (gx25 hC) H)))) rfl ?_
   refine gC rfl rfl (fun hC => ungdA (k := 28) rfl (notB rfl)) rfl ?_
   refine s0 (pickOrA rfl rfl rfl) rfl ?_
   refine nil ?_
   refine hK24 _ ?_
   clear hK24 K24
   refine condE hE rfl (fun hc26 hE => ?_) (fun hc26 hE => ?_)
   ·refine seqK fun K27 hK27 => ?_
    refine region ?_
    refine s0 (build Tryz.tab_ok rfl rfl rfl rfl rfl rfl) rfl ?_
    refine sLn (storeLFA (TK rfl) rfl rfl rfl rfl rfl) ?_
    refine s0 assignA rfl ?_
    refine s0 assignA rfl ?_
    refine nil ?_
    refine hK27 _ ?_
    clear hK27 K27
    refine AWp.ret ?_
    repeat (first | refine xBlock_ret ?_ | refine xThen_ret ?_)
    obtain rfl := Option.some.inj hE
    refine retQ.retF H rfl ⟨rfl, rfl⟩ ?_
    exact (fun _ _ h => h)
   refine AWp.skip ?_
   refine hK23 _ ?_
   clear hK23 K23
   refine seqK fun K28 hK28 => ?_
   refine region ?_
   refine s0 (loadV (TK rfl) rfl rfl rfl) rfl ?_
   obtain ⟨x29, gx29, hE⟩ := bindO_some hE
   refine s0 (callP rfl rfl (fun H => Z20_walk gx29 H)) rfl ?_
   refine sLn (storeLFA (TK rfl) rfl rfl rfl rfl rfl) ?_
   refine nil ?_
   refine hK28 _ ?_
   clear hK28 K28
   refine region ?_
   refine s0 moveA rfl ?_
   obtain ⟨x30, gx30, hE⟩ := bindO_some hE
   refine s0 (addM rfl rfl gx30) rfl ?_
   refine s0 assignA rfl ?_
   refine nil ?_
   exact hK3 _ (x30, TRef.zero, x29) Weak.toA hE
  refine seqK fun K31 hK31 => ?_
  refine seqK fun K32 hK32 => ?_
  refine region ?_
  refine s0 moveA rfl ?_
  refine s0 moveA rfl ?_
  refine sLen (f := R04_Token.c) (s := a0) (TK rfl) rfl rfl rfl rfl fun hL33 => ?_
  refine s0 (binI rfl rfl rfl) rfl ?_
  refine s0 moveA rfl ?_
  refine gC rfl rfl (fun hC => moveA) rfl ?_
  refine gC rfl rfl (fun hC => moveA) rfl ?_
  obtain ⟨x34, gx34, hE⟩ := guardO_some hE
  refine gC rfl rfl (fun hC => ungdA (k := 41) rfl (ungdA (k := 42) rfl (idxM (f := R04_Token.c) (TK rfl) rfl (TK rfl) rfl rfl rfl (gx34 hC)))) rfl ?_
  refine gC rfl rfl (fun hC => ungdA (k := 43) rfl (fieldVA (TK rfl) rfl rfl (TK rfl) rfl rfl)) rfl ?_
  refine gC rfl rfl (fun hC => ungdA (k := 44) rfl (loadV (TK rfl) rfl rfl rfl)) rfl ?_
  refine gC rfl rfl (fun hC => ungdA (k := 45) rfl (binI rfl rfl rfl)) rfl ?_
  refine s0 (pickOrA rfl rfl rfl) rfl ?_
  refine nil ?_
  refine hK32 _ ?_
  clear hK32 K32
  refine condE hE rfl (fun hc35 hE => ?_) (fun hc35 hE => ?_)
  ·refine seqK fun K36 hK36 => ?_
   refine region ?_
   refine s0 (build Tryz.tab_ok rfl rfl rfl rfl rfl rfl) rfl ?_
   refine sLn (storeLFA (TK rfl) rfl rfl rfl rfl rfl) ?_
   refine s0 assignA rfl ?_
   refine s0 assignA rfl ?_
   refine nil ?_
   refine hK36 _ ?_
   clear hK36 K36
   refine AWp.ret ?_
   repeat (first | refine xBlock_ret ?_ | refine xThen_ret ?_)
   obtain rfl := Option.some.inj hE
   refine retQ.retF H rfl ⟨rfl, rfl⟩ ?_
   exact (fun _ _ h => h)
  refine AWp.skip ?_
  refine hK31 _ ?_
  clear hK31 K31
  refine seqK fun K37 hK37 => ?_
  refine region ?_
  refine s0 moveA rfl ?_
  refine s0 moveA rfl ?_
  obtain ⟨x38, gx38, hE⟩ := bindO_some hE
  refine s0 (idxM (f := R04_Token.c) (TK rfl) rfl (TK rfl) rfl rfl rfl gx38) rfl ?_
  refine s0 (fieldVA (TK rfl) rfl rfl (TK rfl) rfl rfl) rfl ?_
  refine s0 (loadV (TK rfl) rfl rfl rfl) rfl ?_
  refine s0 (fieldL (TK rfl) rfl rfl (TK rfl) rfl rfl) rfl ?_
  refine sLn (storeL1 (TK rfl) rfl rfl rfl rfl (by repeat (first | exact SetAt.zero | apply SetAt.succ)) (by repeat (first | exact SetAt.zero | apply SetAt.succ))) ?_
  refine nil ?_
  refine hK37 _ ?_
  clear hK37 K37
  refine region ?_
  refine s0 moveA rfl ?_
  obtain ⟨x39, gx39, hE⟩ := bindO_some hE
  refine s0 (addM rfl rfl gx39) rfl ?_
  refine s0 assignA rfl ?_
  refine nil ?_
  exact hK3 _ (x39, TRef.zero, (TRef.mk x38.FText ((TRef.mk ([] : Bs) (Sl.nil : Sl Int)).FWraps))) Weak.toA hE
 rintro ⟨s1_4, y5_l0, y6_l1⟩ hE
 try dsimp only at hE
 unfold Z24_j3 at hE
 refine seqJ (KeepsT.A (k := 4) (KeepsT.A (k := 7) KeepsT.nil)) (fun (z : Int × TRef) => [(1, .a (.d (.int .i64 z.1)))]) (fun z => [TRef.c y5_l0, TRef.c z.2]) (fun z => H) (fun z => Z24_j7 z.1 z.2 = some r) ?_ ?_
 ·intro K7 hK7
  refine seqK fun K11 hK11 => ?_
  refine region ?_
  refine s0 moveA rfl ?_
  refine s0 moveA rfl ?_
  obtain ⟨x12, gx12, hE⟩ := bindO_some hE
  refine s0 (callP rfl rfl (fun H => Z26_walk gx12 H)) rfl ?_
  refine nil ?_
  refine hK11 _ ?_
  clear hK11 K11
  refine condE hE rfl (fun hc13 hE => ?_) (fun hc13 hE => ?_)
  ·refine seqK fun K14 hK14 => ?_
   refine region ?_
   refine s0 (loadL (TK rfl) rfl rfl rfl rfl) rfl ?_
   obtain ⟨x15, gx15, hE⟩ := bindO_some hE
   refine s0 (callP rfl rfl (fun H => Z21_walk gx15 H)) rfl ?_
   refine sLn (storeLFA (TK rfl) rfl rfl rfl rfl rfl) ?_
   refine nil ?_
   refine hK14 _ ?_
   clear hK14 K14
   refine region ?_
   refine s0 moveA rfl ?_
   obtain ⟨x16, gx16, hE⟩ := bindO_some hE
   refine s0 (addM rfl rfl gx16) rfl ?_
   refine s0 assignA rfl ?_
   refine nil ?_
   exact hK7 _ (x16, x15) Weak.toA hE
  refine AWp.skip ?_
  exact hK7 _ (s1_4, y6_l1) Weak.toA hE
 rintro ⟨s1_8, y9_l1⟩ hE
 try dsimp only at hE
 unfold Z24_j7 at hE
 refine seqK fun K10 hK10 => ?_
 refine region ?_
 refine s0 (loadL (TK rfl) rfl rfl rfl rfl) rfl ?_
 refine s0 moveA rfl ?_
 refine sLn (storeLFA (TK rfl) rfl rfl rfl rfl rfl) ?_
 refine s0 assignA rfl ?_
 refine s0 assignA rfl ?_
 refine nil ?_
 refine hK10 _ ?_
 clear hK10 K10
 refine AWp.ret ?_
 repeat (first | refine xBlock_ret ?_ | refine xThen_ret ?_)
 obtain rfl := Option.some.inj hE
 refine retQ.retF H rfl ⟨rfl, rfl⟩ ?_
 exact (fun _ _ h => h)
theorem Z24_all : ∀ (n : Nat), (∀ {a0 : (Sl R04_Token)} {a1 : Int} {w0 : Option Nat}  {r : (TRef × Int × Bool)}, Z24_n n a0 a1 = some r → ∀ (H : Heap), ACalls Tryz.prog 47 [.d (Sl.d 3 R04_Token.c w0 a0), .d (.int .i64 a1)] H fun v h' => v = .tup [.agg (TRef.c r.1), .d (.int .i64 r.2.1), .d (.bool r.2.2)] ∧ h' = H)
 | 0 => fun hE => by first | cases hE | (rw [Z24_n] at hE; cases hE)
 | n + 1 => Z24_step n (Z24_all n)
def Z24 (a0 : (Sl R04_Token)) (a1 : Int) : Option (TRef × Int × Bool) := Z24_n F0 a0 a1
theorem Z24_walk {a0 : (Sl R04_Token)} {a1 : Int} {w0 : Option Nat}  {r : (TRef × Int × Bool)} (hE : Z24 a0 a1 = some r) (H : Heap)  : ACalls Tryz.prog 47 [.d (Sl.d 3 R04_Token.c w0 a0), .d (.int .i64 a1)] H fun v h' => v = .tup [.agg (TRef.c r.1), .d (.int .i64 r.2.1), .d (.bool r.2.2)] ∧ h' = H := (Z24_all F0) hE H 
def Z22 (a0 : Bs) : Option (TRef × Int) := (Z10 a0).bind fun x3 => bif (!decide (x3.2.2 = (0 : Int))) then (some ((TRef.mk ([] : Bs) (Sl.nil : Sl Int)), x3.2.2)) else ((Z24 x3.1 (0 : Int)).bind fun x9 => guardO (!(!x9.2.2)) (subC ((x3.1.l.length : Nat) : Int) (1 : Int)) (0 : Int) fun x12 => bif ((!x9.2.2) || (!decide (x9.2.1 = x12))) then (some ((TRef.mk ([] : Bs) (Sl.nil : Sl Int)), (3 : Int))) else (bif (decide ((24 : Int) < ((x9.1.FWraps.l.length : Nat) : Int))) then (some ((TRef.mk ([] : Bs) (Sl.nil : Sl Int)), (5 : Int))) else (some (x9.1, (0 : Int)))))
theorem Z22_walk {a0 : Bs}   {r : (TRef × Int)} (hE : Z22 a0 = some r) (H : Heap)  : ACalls Tryz.prog 33 [.d (.str a0)] H fun v h' => v = .tup [.agg (TRef.c r.1), .d (.int .i64 r.2)] ∧ h' = H := by
 unfold Z22 at hE
 refine ACalls.of_wp (fn := Tryz.f33) (c := _) Tryz.tab_ok (fun _ _ => Tryz.call33 _ _) Tryz.func33 rfl (n := 42) rfl (rs := [.cell 2 24, .tmp 3]) rfl rfl ?_
 refine seqK fun K1 hK1 => ?_
 refine region ?_
 refine sL (allocLA (TK rfl) rfl) rfl ?_
 refine s0 assignA rfl ?_
 refine nil ?_
 refine hK1 _ ?_
 clear hK1 K1
 refine seqK fun K2 hK2 => ?_
 refine region ?_
 refine s0 moveA rfl ?_
 obtain ⟨x3, gx3, hE⟩ := bindO_some hE
 refine s0 (callP rfl rfl (fun H => Z10_walk gx3 H)) rfl ?_
 refine s0 moveA rfl ?_
 refine s0 (extract rfl rfl) rfl ?_
 refine s0 (extract rfl rfl) rfl ?_
 refine s0 (extract rfl rfl) rfl ?_
 refine s0 assignA rfl ?_
 refine s0 assignA rfl ?_
 refine s0 assignA rfl ?_
 refine nil ?_
 refine hK2 _ ?_
 clear hK2 K2
 refine seqK fun K4 hK4 => ?_
 refine seqK fun K5 hK5 => ?_
 refine region ?_
 refine s0 moveA rfl ?_
 refine s0 (binI rfl rfl rfl) rfl ?_
 refine nil ?_
 refine hK5 _ ?_
 clear hK5 K5
 refine condE hE rfl (fun hc6 hE => ?_) (fun hc6 hE => ?_)
 ·refine seqK fun K7 hK7 => ?_
  refine region ?_
  refine s0 (build Tryz.tab_ok rfl rfl rfl rfl rfl rfl) rfl ?_
  refine s0 moveA rfl ?_
  refine sLn (storeLFA (TK rfl) rfl rfl rfl rfl rfl) ?_
  refine s0 assignA rfl ?_
  refine nil ?_
  refine hK7 _ ?_
  clear hK7 K7
  refine AWp.ret ?_
  repeat (first | refine xBlock_ret ?_ | refine xThen_ret ?_)
  obtain rfl := Option.some.inj hE
  refine retQ.retF H rfl ⟨rfl, rfl⟩ ?_
  exact (fun _ _ h => h)
 refine AWp.skip ?_
 refine hK4 _ ?_
 clear hK4 K4
 refine seqK fun K8 hK8 => ?_
 refine region ?_
 refine s0 moveA rfl ?_
 obtain ⟨x9, gx9, hE⟩ := bindO_some hE
 refine s0 (callP rfl rfl (fun H => Z24_walk gx9 H)) rfl ?_
 refine s0 moveA rfl ?_
 refine s0 (extract rfl rfl) rfl ?_
 refine s0 (extract rfl rfl) rfl ?_
 refine s0 (extract rfl rfl) rfl ?_
 refine sL (allocLA (TK rfl) rfl) rfl ?_
 refine sLn (storeLFA (TK rfl) rfl rfl rfl rfl rfl) ?_
 refine s0 assignA rfl ?_
 refine s0 assignA rfl ?_
 refine nil ?_
 refine hK8 _ ?_
 clear hK8 K8
 refine freezeA 7 _ rfl (Keeps.c (k := 2) (by conv => lhs; whnf) (by rfl) (Keeps.c (k := 4) (by conv => lhs; whnf) (by rfl) (Keeps.c (k := 8) (by conv => lhs; whnf) (by rfl) (Keeps.c (k := 9) (by conv => lhs; whnf) (by rfl) Keeps.nil)))) ?_
 refine seqK fun K10 hK10 => ?_
 refine seqK fun K11 hK11 => ?_
 refine region ?_
 refine s0 moveA rfl ?_
 refine s0 (notB rfl) rfl ?_
 refine s0 moveA rfl ?_
 refine gC rfl rfl (fun hC => moveA) rfl ?_
 refine gC rfl rfl (fun hC => moveA) rfl ?_
 refine gC rfl rfl (fun hC => ungdA (k := 30) rfl (lenM' (f := R04_Token.c) (s := x3.1) (TK rfl) rfl rfl rfl)) rfl ?_
 obtain ⟨x12, gx12, hE⟩ := guardO_some hE
 refine gC rfl rfl (fun hC => ungdA (k := 31) rfl (subM rfl rfl (gx12 hC))) rfl ?_
 refine gC rfl rfl (fun hC => ungdA (k := 29) rfl (ungdA (k := 32) rfl (binI rfl rfl rfl))) rfl ?_
 refine s0 (pickOrA rfl rfl rfl) rfl ?_
 refine nil ?_
 refine hK11 _ ?_
 clear hK11 K11
 refine condE hE rfl (fun hc13 hE => ?_) (fun hc13 hE => ?_)
 ·refine seqK fun K14 hK14 => ?_
  refine region ?_
  refine s0 (build Tryz.tab_ok rfl rfl rfl rfl rfl rfl) rfl ?_
  refine sLn (storeLFA (TK rfl) rfl rfl rfl rfl rfl) ?_
  refine s0 assignA rfl ?_
  refine nil ?_
  refine hK14 _ ?_
  clear hK14 K14
  refine AWp.ret ?_
  repeat (first | refine xBlock_ret ?_ | refine xThen_ret ?_)
  obtain rfl := Option.some.inj hE
  refine retQ.retF H rfl ⟨rfl, rfl⟩ ?_
  exact (fun _ _ h => h)
 refine AWp.skip ?_
 refine hK10 _ ?_
 clear hK10 K10
 refine seqK fun K15 hK15 => ?_
 refine seqK fun K16 hK16 => ?_
 refine region ?_
 refine s0 (fieldVA (TK rfl) rfl rfl (TK rfl) rfl rfl) rfl ?_
 refine s0 (loadV (TK rfl) rfl rfl rfl) rfl ?_
 refine sLen (f := (intE .i64)) (s := x9.1.FWraps) (TK rfl) rfl rfl rfl rfl fun hL17 => ?_
 refine s0 (binI rfl rfl rfl) rfl ?_
 refine nil ?_
 refine hK16 _ ?_
 clear hK16 K16
 refine condE hE rfl (fun hc18 hE => ?_) (fun hc18 hE => ?_)
 ·refine seqK fun K19 hK19 => ?_
  refine region ?_
  refine s0 (build Tryz.tab_ok rfl rfl rfl rfl rfl rfl) rfl ?_
  refine sLn (storeLFA (TK rfl) rfl rfl rfl rfl rfl) ?_
  refine s0 assignA rfl ?_
  refine nil ?_
  refine hK19 _ ?_
  clear hK19 K19
  refine AWp.ret ?_
  repeat (first | refine xBlock_ret ?_ | refine xThen_ret ?_)
  obtain rfl := Option.some.inj hE
  refine retQ.retF H rfl ⟨rfl, rfl⟩ ?_
  exact (fun _ _ h => h)
 refine AWp.skip ?_
 refine hK15 _ ?_
 clear hK15 K15
 refine seqK fun K20 hK20 => ?_
 refine region ?_
 refine s0 (loadV (TK rfl) rfl rfl rfl) rfl ?_
 refine sLn (storeLFA (TK rfl) rfl rfl rfl rfl rfl) ?_
 refine s0 assignA rfl ?_
 refine nil ?_
 refine hK20 _ ?_
 clear hK20 K20
 refine AWp.ret ?_
 repeat (first | refine xBlock_ret ?_ | refine xThen_ret ?_)
 obtain rfl := Option.some.inj hE
 refine retQ.retF H rfl ⟨rfl, rfl⟩ ?_
 exact (fun _ _ h => h)
section
variable [IsLoud lou]
def Z2 (a0 : Bs) : Option Bool := bif ((decide ((2000 : Int) < ((a0.length : Nat) : Int))) && (decide (((a0.length : Nat) : Int) ≤ (65536 : Int)))) then ((Z3 ).bind fun x7 => some x7) else ((Z60 a0).bind fun x9 => (Z22 a0).bind fun x11 => (Z23 x9.1 x11.1).bind fun x13 => guardO ((x13 && (decide (x9.2 = x11.2)))) (Z3 ) false fun x14 => some ((x13 && (decide (x9.2 = x11.2))) && x14))
theorem Z2_walk {a0 : Bs} {oE : Ab.Obj} {gE : Nat} {r : Bool} (hE : Z2 a0 = some r) (H : Heap) (hgE : H gE = some oE) (hoE : IsErr Tryz.prog oE) : ACalls Tryz.prog 5 [.d (.str a0)] H fun v h' => v = .a (.d (.bool r)) ∧ h' = H := by
 unfold Z2 at hE
 refine ACalls.of_wp (fn := Tryz.f5) (c := _) Tryz.tab_ok (fun _ _ => Tryz.call5 _ _) Tryz.func5 rfl (n := 37) rfl (rs := [.tmp 2]) rfl rfl ?_
 refine seqK fun K1 hK1 => ?_
 refine region ?_
 refine s0 assignA rfl ?_
 refine nil ?_
 refine hK1 _ ?_
 clear hK1 K1
 refine seqK fun K2 hK2 => ?_
 refine seqK fun K3 hK3 => ?_
 refine region ?_
 refine s0 moveA rfl ?_
 refine sLenS (TK rfl) rfl rfl rfl rfl fun hL4 => ?_
 refine s0 (binI rfl rfl rfl) rfl ?_
 refine s0 moveA rfl ?_
 refine gC rfl rfl (fun hC => moveA) rfl ?_
 refine gC rfl rfl (fun hC => ungdA (k := 11) rfl (lenS (TK rfl) rfl rfl rfl)) rfl ?_
 refine gC rfl rfl (fun hC => ungdA (k := 12) rfl (binI rfl rfl rfl)) rfl ?_
 refine s0 (pickAndA rfl rfl rfl) rfl ?_
 refine nil ?_
 refine hK3 _ ?_
 clear hK3 K3
 refine condE hE rfl (fun hc5 hE => ?_) (fun hc5 hE => ?_)
 ·refine seqK fun K6 hK6 => ?_
  refine region ?_
  obtain ⟨x7, gx7, hE⟩ := bindO_some hE
  refine s0 (callR rfl rfl (Z3_walk (gE := gE) (oE := oE) gx7 _ hpG (by assumption))) rfl ?_
  refine s0 assignA rfl ?_
  refine nil ?_
  refine hK6 _ ?_
  clear hK6 K6
  refine AWp.ret ?_
  repeat (first | refine xBlock_ret ?_ | refine xThen_ret ?_)
  obtain rfl := Option.some.inj hE
  refine retQ.retF H rfl ⟨rfl, rfl⟩ ?_
  exact (fun _ _ h => h)
 refine AWp.skip ?_
 refine hK2 _ ?_
 clear hK2 K2
 refine seqK fun K8 hK8 => ?_
 refine region ?_
 refine s0 moveA rfl ?_
 obtain ⟨x9, gx9, hE⟩ := bindO_some hE
 refine s0 (callR rfl rfl (Z60_walk (gE := gE) (oE := oE) gx9 _ hpG (by assumption))) rfl ?_
 refine s0 moveA rfl ?_
 refine s0 (extract rfl rfl) rfl ?_
 refine s0 (extract rfl rfl) rfl ?_
 refine sL (allocLA (TK rfl) rfl) rfl ?_
 refine sLn (storeLFA (TK rfl) rfl rfl rfl rfl rfl) ?_
 refine s0 assignA rfl ?_
 refine nil ?_
 refine hK8 _ ?_
 clear hK8 K8
 refine freezeA 3 _ rfl (Keeps.c (k := 0) (by conv => lhs; whnf) (by rfl) (Keeps.c (k := 4) (by conv => lhs; whnf) (by rfl) Keeps.nil)) ?_
 refine seqK fun K10 hK10 => ?_
 refine region ?_
 refine s0 moveA rfl ?_
 obtain ⟨x11, gx11, hE⟩ := bindO_some hE
 refine s0 (callP rfl rfl (fun H => Z22_walk gx11 H)) rfl ?_
 refine s0 moveA rfl ?_
 refine s0 (extract rfl rfl) rfl ?_
 refine s0 (extract rfl rfl) rfl ?_
 refine sL (allocLA (TK rfl) rfl) rfl ?_
 refine sLn (storeLFA (TK rfl) rfl rfl rfl rfl rfl) ?_
 refine s0 assignA rfl ?_
 refine nil ?_
 refine hK10 _ ?_
 clear hK10 K10
 refine freezeA 5 _ rfl (Keeps.c (k := 3) (by conv => lhs; whnf) (by rfl) (Keeps.c (k := 4) (by conv => lhs; whnf) (by rfl) (Keeps.c (k := 6) (by conv => lhs; whnf) (by rfl) Keeps.nil))) ?_
 refine seqK fun K12 hK12 => ?_
 refine region ?_
 refine s0 (loadV (TK rfl) rfl rfl rfl) rfl ?_
 refine s0 (loadV (TK rfl) rfl rfl rfl) rfl ?_
 obtain ⟨x13, gx13, hE⟩ := bindO_some hE
 refine s0 (callP rfl rfl (fun H => Z23_walk gx13 H)) rfl ?_
 refine s0 moveA rfl ?_
 refine gC rfl rfl (fun hC => moveA) rfl ?_
 refine gC rfl rfl (fun hC => moveA) rfl ?_
 refine gC rfl rfl (fun hC => ungdA (k := 30) rfl (ungdA (k := 31) rfl (binI rfl rfl rfl))) rfl ?_
 refine s0 (pickAndA rfl rfl rfl) rfl ?_
 refine s0 moveA rfl ?_
 obtain ⟨x14, gx14, hE⟩ := guardO_some hE
 refine gC rfl rfl (fun hC => callR rfl rfl (Z3_walk (gE := gE) (oE := oE) (gx14 hC) _ hpG (by assumption))) rfl ?_
 refine s0 (pickAndA rfl rfl rfl) rfl ?_
 refine s0 assignA rfl ?_
 refine nil ?_
 refine hK12 _ ?_
 clear hK12 K12
 refine AWp.ret ?_
 repeat (first | refine xBlock_ret ?_ | refine xThen_ret ?_)
 obtain rfl := Option.some.inj hE
 refine retQ.retF H rfl ⟨rfl, rfl⟩ ?_
 exact (fun _ _ h => h)
end
end Go.Proofs

namespace Go.Proofs
open Go Go.Ab
def Z25_q11 (a1 : (Sl Int)) : List Int → Nat → Option (Unit ⊕ Bool)
 | [], s5_12 => some (Sum.inl ())
 | h11 :: r11, s5_12 => on (h11) fun x19 => (a1.l[s5_12]?).bind fun x20 => bif (!decide (x19 = x20)) then (some (Sum.inr false)) else (Z25_q11 a1 (r11) (s5_12 + 1) )
theorem Z25_l11_qe {a0 : (Sl Int)} {a1 : (Sl Int)}  (Kb11 : (Unit ⊕ Bool) → Option Bool) (hend : ∀ (n11 : Nat) (s5_12 : Nat), Z25_j8    = Kb11 (Sum.inl ())) (hret : ∀ e : Bool, some e = Kb11 (Sum.inr e)) : ∀ (n11 : Nat) (s5_12 : Nat), (0 < n11 ∧ a0.l.length < s5_12 + n11) → Z25_l11 a0 a1 n11 s5_12 = Option.bind (Z25_q11 a1 (a0.l.drop s5_12) s5_12 ) Kb11 := by
 intro n11
 induction n11 with
 | zero => intro s5_12 hn; exact absurd hn.1 (by omega)
 | succ n11 ih11 =>
  intro s5_12 hn
  rw [Z25_l11]
  by_cases hlt : s5_12 < a0.l.length
  ·obtain ⟨h11, hh11⟩ : ∃ x, a0.l[s5_12]? = some x := ⟨_, List.getElem?_eq_getElem hlt⟩
   rw [Q.drop_of hh11, Z25_q11]
   refine Q.condT (Q.ltT hlt) ?_
   refine Q.bindPO hh11 fun x19 hx_x19 => ?_
   refine Q.bindO rfl fun x20 => ?_
   refine Q.condO ?_ ?_
   ·all_goals exact hret _
   all_goals exact ih11 _ ⟨by omega, by omega⟩
  rw [List.drop_of_length_le (by omega), Z25_q11]
  refine Q.condF (Q.ltF hlt) ?_
  exact hend n11 s5_12
def Z25_q (a0 : (Sl Int)) (a1 : (Sl Int)) : Option Bool := bif (!decide (((a0.l.length : Nat) : Int) = ((a1.l.length : Nat) : Int))) then (some false) else (Option.bind (Z25_q11 a1 a0.l 0 ) fun o11 => match o11 with | Sum.inl _ => (on (()) fun _ => some true) | Sum.inr e11 => (some e11))
theorem Z25_eq (a0 : (Sl Int)) (a1 : (Sl Int)) : Z25 a0 a1 = Z25_q a0 a1 := by
 unfold Z25 Z25_q
 refine Eq.trans ?_ (Q.some_bind _)
 refine Q.condO ?_ ?_
 ·all_goals rfl
 refine Q.wrapOO fun Kb11 hKb11 => ?_
 refine Z25_l11_qe  Kb11 ?_ ?_ _ _ ⟨Nat.succ_pos _, by omega⟩
 ·intro n11 s5_12
  refine Eq.trans ?_ (hKb11 _).symm
  try dsimp only
  refine Q.wrapPO fun Kj8 hKj8 => ?_
  have hj8 : Z25_j8   = Kj8 () := by
   refine Eq.trans ?_ (hKj8 _).symm
   unfold Z25_j8
   all_goals rfl
  all_goals exact hj8
 intro e11
 refine Eq.trans ?_ (hKb11 _).symm
 try dsimp only
 all_goals rfl
def Z0_q (a0 : Bs) (a1 : Bs) : Bool := on (bif (decide (((a1.length : Nat) : Int) ≤ ((a0.length : Nat) : Int))) then (List.take (a1.length) a0) else ([] : Bs)) fun x5 => ((decide (((a1.length : Nat) : Int) ≤ ((a0.length : Nat) : Int))) && ((x5 == a1)))
theorem Z0_eq (a0 : Bs) (a1 : Bs) : Z0 a0 a1 = some (Z0_q a0 a1) := by
 unfold Z0 Z0_q
 refine Q.guardT (fun hc => Q.cutC_take (by simp at hc; omega)) fun x5 hx_x5 => ?_
 all_goals rfl
def Z37_q (a0 : Bs) (a1 : Bs) : Bool := on (Z0_q a0 a1) fun x3 => x3
theorem Z37_eq (a0 : Bs) (a1 : Bs) : Z37 a0 a1 = some (Z37_q a0 a1) := by
 unfold Z37 Z37_q
 refine Q.bindP (Z0_eq _ _) fun x3 hx_x3 => ?_
 all_goals rfl
def Z1_q (a0 : Bs) (a1 : Bs) : Option Bs := on (Z0_q a0 a1) fun x4 => bif x4 then ((cutC a0 (some ((a1.length : Nat) : Int)) none).bind fun x8 => some x8) else (some a0)
theorem Z1_eq (a0 : Bs) (a1 : Bs) : Z1 a0 a1 = Z1_q a0 a1 := by
 unfold Z1 Z1_q
 refine Eq.trans ?_ (Q.some_bind _)
 refine Q.bindPO (Z0_eq _ _) fun x4 hx_x4 => ?_
 refine Q.condO ?_ ?_
 ·refine Q.bindO rfl fun x8 => ?_
  all_goals rfl
 all_goals rfl
def Z41_q (a0 : Bs) (a1 : Bs) : Option Bs := (Z1_q a0 a1).bind fun x3 => some x3
theorem Z41_eq (a0 : Bs) (a1 : Bs) : Z41 a0 a1 = Z41_q a0 a1 := by
 unfold Z41 Z41_q
 refine Eq.trans ?_ (Q.some_bind _)
 refine Q.bindO (Z1_eq _ _) fun x3 => ?_
 all_goals rfl
def Z43_q19  : List UInt8 → Unit ⊕ ((Int × Int))
 | [] => Sum.inl ()
 | h19 :: r19 => on (h19) fun x27 => on (bif !(decide (((x27.toNat : Nat) : Int) < (48 : Int))) then h19 else (0 : UInt8)) fun x28 => bif ((decide (((x27.toNat : Nat) : Int) < (48 : Int))) || (decide ((57 : Int) < ((x28.toNat : Nat) : Int)))) then (Sum.inr ((0 : Int), (3 : Int))) else (Z43_q19  (r19) )
theorem Z43_l19_qe {a0 : Bs} {x3 : Bs}  (Kb19 : (Unit ⊕ ((Int × Int))) → Option (Int × Int)) (hend : ∀ (n19 : Nat) (s29_20 : Nat), Z43_j9 a0   = Kb19 (Sum.inl ())) (hret : ∀ e : (Int × Int), some e = Kb19 (Sum.inr e)) : ∀ (n19 : Nat) (s29_20 : Nat), (0 < n19 ∧ x3.length < s29_20 + n19) → Z43_l19 a0 x3 n19 s29_20 = Kb19 (Z43_q19  (x3.drop s29_20) ) := by
 intro n19
 induction n19 with
 | zero => intro s29_20 hn; exact absurd hn.1 (by omega)
 | succ n19 ih19 =>
  intro s29_20 hn
  rw [Z43_l19]
  by_cases hlt : s29_20 < x3.length
  ·obtain ⟨h19, hh19⟩ : ∃ x, x3[s29_20]? = some x := ⟨_, List.getElem?_eq_getElem hlt⟩
   rw [Q.drop_of hh19, Z43_q19]
   refine Q.condT (Q.ltT hlt) ?_
   refine Q.bindP hh19 fun x27 hx_x27 => ?_
   refine Q.guardP hh19 fun x28 hx_x28 => ?_
   refine Q.condP ?_ ?_
   ·all_goals exact hret _
   all_goals exact ih19 _ ⟨by omega, by omega⟩
  rw [List.drop_of_length_le (by omega), Z43_q19]
  refine Q.condF (Q.ltF hlt) ?_
  exact hend n19 s29_20
def Z43_q (a0 : Bs) : Option (Int × Int) := (Z41_q a0 ([45] : Bs)).bind fun x3 => guardO (!((x3 == ([] : Bs)))) (x3[0]?) (0 : UInt8) fun x6 => bif (((x3 == ([] : Bs))) || ((decide (((x6.toNat : Nat) : Int) = (48 : Int))) && ((decide ((1 : Int) < ((x3.length : Nat) : Int))) || (decide ((1 : Int) < ((a0.length : Nat) : Int)))))) then (some ((0 : Int), (3 : Int))) else (on (Z43_q19  x3 ) fun o19 => match o19 with | Sum.inl _ => (on (()) fun _ => (Z32_q a0).bind fun x11 => bif x11.2 then (some ((0 : Int), (4 : Int))) else (some (x11.1, (0 : Int)))) | Sum.inr e19 => (some e19))
theorem Z43_eq (a0 : Bs) : Z43 a0 = Z43_q a0 := by
 unfold Z43 Z43_q
 refine Eq.trans ?_ (Q.some_bind _)
 refine Q.bindO (Z41_eq _ _) fun x3 => ?_
 refine Q.guardOO rfl fun x6 => ?_
 refine Q.condO ?_ ?_
 ·all_goals rfl
 refine Q.wrapPO fun Kb19 hKb19 => ?_
 refine Z43_l19_qe  Kb19 ?_ ?_ _ _ ⟨Nat.succ_pos _, by omega⟩
 ·intro n19 s29_20
  refine Eq.trans ?_ (hKb19 _).symm
  try dsimp only
  refine Q.wrapPO fun Kj9 hKj9 => ?_
  have hj9 : Z43_j9 a0  = Kj9 () := by
   refine Eq.trans ?_ (hKj9 _).symm
   unfold Z43_j9
   refine Q.bindO (Z32_eq _) fun x11 => ?_
   refine Q.condO ?_ ?_
   ·all_goals rfl
   all_goals rfl
  all_goals exact hj9
 intro e19
 refine Eq.trans ?_ (hKb19 _).symm
 try dsimp only
 all_goals rfl
def Z7_q (a0 : Int) : Bool := ((decide ((48 : Int) ≤ a0)) && (decide (a0 ≤ (57 : Int))))
theorem Z7_eq (a0 : Int) : Z7 a0 = some (Z7_q a0) := by
 unfold Z7 Z7_q
 all_goals rfl
def Z4_q47  : List UInt8 → Unit ⊕ ((Int × Int))
 | [] => Sum.inl ()
 | h47 :: r47 => on (h47) fun x55 => on (Z7_q ((x55.toNat : Nat) : Int)) fun x56 => bif (!x56) then (Sum.inr ((0 : Int), (3 : Int))) else (Z4_q47  (r47) )
theorem Z4_l47_qe {a0 : Bs} {x5 : UInt8} {s4_7 : Bs}  (Kb47 : (Unit ⊕ ((Int × Int))) → Option (Int × Int)) (hend : ∀ (n47 : Nat) (s6_48 : Nat), Z4_j14 a0 x5 s4_7   = Kb47 (Sum.inl ())) (hret : ∀ e : (Int × Int), some e = Kb47 (Sum.inr e)) : ∀ (n47 : Nat) (s6_48 : Nat), (0 < n47 ∧ s4_7.length < s6_48 + n47) → Z4_l47 a0 x5 s4_7 n47 s6_48 = Kb47 (Z4_q47  (s4_7.drop s6_48) ) := by
 intro n47
 induction n47 with
 | zero => intro s6_48 hn; exact absurd hn.1 (by omega)
 | succ n47 ih47 =>
  intro s6_48 hn
  rw [Z4_l47]
  by_cases hlt : s6_48 < s4_7.length
  ·obtain ⟨h47, hh47⟩ : ∃ x, s4_7[s6_48]? = some x := ⟨_, List.getElem?_eq_getElem hlt⟩
   rw [Q.drop_of hh47, Z4_q47]
   refine Q.condT (Q.ltT hlt) ?_
   refine Q.bindP hh47 fun x55 hx_x55 => ?_
   refine Q.bindP (Z7_eq _) fun x56 hx_x56 => ?_
   refine Q.condP ?_ ?_
   ·all_goals exact hret _
   all_goals exact ih47 _ ⟨by omega, by omega⟩
  rw [List.drop_of_length_le (by omega), Z4_q47]
  refine Q.condF (Q.ltF hlt) ?_
  exact hend n47 s6_48
def Z4_q28  : List UInt8 → Int → Option (Int ⊕ ((Int × Int)))
 | [], s7_29 => some (Sum.inl s7_29)
 | h28 :: r28, s7_29 => on (h28) fun x37 => (subC (IntKind.wrap .i64 ((x37.toNat : Nat) : Int)) (48 : Int)).bind fun x38 => (addC (-9223372036854775808 : Int) x38).bind fun x41 => bif (decide (s7_29 < (IntKind.wrap .i64 (Int.tdiv x41 (10 : Int))))) then (some (Sum.inr ((0 : Int), (4 : Int)))) else ((mulC (10 : Int) s7_29).bind fun x44 => (subC x44 x38).bind fun x45 => Z4_q28  (r28) x45)
theorem Z4_l28_qe {a0 : Bs} {x5 : UInt8} {s4_7 : Bs}  (Kb28 : (Int ⊕ ((Int × Int))) → Option (Int × Int)) (hend : ∀ (n28 : Nat) (s7_29 : Int) (s8_30 : Nat), Z4_j16 a0 x5  s7_29 = Kb28 (Sum.inl s7_29)) (hret : ∀ e : (Int × Int), some e = Kb28 (Sum.inr e)) : ∀ (n28 : Nat) (s7_29 : Int) (s8_30 : Nat), (0 < n28 ∧ s4_7.length < s8_30 + n28) → Z4_l28 a0 x5 s4_7 n28 s7_29 s8_30 = Option.bind (Z4_q28  (s4_7.drop s8_30) s7_29) Kb28 := by
 intro n28
 induction n28 with
 | zero => intro s7_29 s8_30 hn; exact absurd hn.1 (by omega)
 | succ n28 ih28 =>
  intro s7_29 s8_30 hn
  rw [Z4_l28]
  by_cases hlt : s8_30 < s4_7.length
  ·obtain ⟨h28, hh28⟩ : ∃ x, s4_7[s8_30]? = some x := ⟨_, List.getElem?_eq_getElem hlt⟩
   rw [Q.drop_of hh28, Z4_q28]
   refine Q.condT (Q.ltT hlt) ?_
   refine Q.bindPO hh28 fun x37 hx_x37 => ?_
   refine Q.bindO rfl fun x38 => ?_
   refine Q.bindO rfl fun x41 => ?_
   refine Q.condO ?_ ?_
   ·all_goals exact hret _
   refine Q.bindO rfl fun x44 => ?_
   refine Q.bindO rfl fun x45 => ?_
   all_goals exact ih28 _ _ ⟨by omega, by omega⟩
  rw [List.drop_of_length_le (by omega), Z4_q28]
  refine Q.condF (Q.ltF hlt) ?_
  exact hend n28 s7_29 s8_30
def Z4_q (a0 : Bs) : Option (Int × Int) := on (bif (decide ((0 : Int) < ((a0.length : Nat) : Int))) then ((a0)[0]?.getD (0 : UInt8)) else (0 : UInt8)) fun x5 => Option.bind (bif ((decide ((0 : Int) < ((a0.length : Nat) : Int))) && (decide (((x5.toNat : Nat) : Int) = (45 : Int)))) then ((cutC a0 (some (1 : Int)) none).bind fun x61 => some x61) else (some a0)) fun s4_7 => guardO (!(decide (((s4_7.length : Nat) : Int) = (0 : Int)))) (s4_7[0]?) (0 : UInt8) fun x11 => bif ((decide (((s4_7.length : Nat) : Int) = (0 : Int))) || ((decide (((x11.toNat : Nat) : Int) = (48 : Int))) && ((decide ((1 : Int) < ((s4_7.length : Nat) : Int))) || ((decide ((0 : Int) < ((a0.length : Nat) : Int))) && (decide (((x5.toNat : Nat) : Int) = (45 : Int))))))) then (some ((0 : Int), (3 : Int))) else (on (Z4_q47  s4_7 ) fun o47 => match o47 with | Sum.inl _ => (on (()) fun _ => Option.bind (Z4_q28  s4_7 (0 : Int)) fun o28 => match o28 with | Sum.inl s7_29 => (on (s7_29) fun s7_17 => bif ((decide ((0 : Int) < ((a0.length : Nat) : Int))) && (decide (((x5.toNat : Nat) : Int) = (45 : Int)))) then (some (s7_17, (0 : Int))) else (bif (decide (s7_17 = (-9223372036854775808 : Int))) then (some ((0 : Int), (4 : Int))) else (some ((IntKind.wrap .i64 (0 - s7_17)), (0 : Int))))) | Sum.inr e28 => (some e28)) | Sum.inr e47 => (some e47))
theorem Z4_eq (a0 : Bs) : Z4 a0 = Z4_q a0 := by
 unfold Z4 Z4_q
 refine Eq.trans ?_ (Q.some_bind _)
 refine Q.guardTO (fun hc => Q.getD_some (by simp at hc; omega)) fun x5 hx_x5 => ?_
 refine Q.wrapOO fun Kj6 hKj6 => ?_
 have hj6 : ∀ (s4_7 : Bs), Z4_j6 a0 x5 s4_7 = Kj6 s4_7 := by
  intro s4_7
  refine Eq.trans ?_ (hKj6 _).symm
  unfold Z4_j6
  refine Q.guardOO rfl fun x11 => ?_
  refine Q.condO ?_ ?_
  ·all_goals rfl
  refine Q.wrapPO fun Kb47 hKb47 => ?_
  refine Z4_l47_qe  Kb47 ?_ ?_ _ _ ⟨Nat.succ_pos _, by omega⟩
  ·intro n47 s6_48
   refine Eq.trans ?_ (hKb47 _).symm
   try dsimp only
   refine Q.wrapPO fun Kj14 hKj14 => ?_
   have hj14 : Z4_j14 a0 x5 s4_7  = Kj14 () := by
    refine Eq.trans ?_ (hKj14 _).symm
    unfold Z4_j14
    refine Q.wrapOO fun Kb28 hKb28 => ?_
    refine Z4_l28_qe  Kb28 ?_ ?_ _ _ _ ⟨Nat.succ_pos _, by omega⟩
    ·intro n28 s7_29 s8_30
     refine Eq.trans ?_ (hKb28 _).symm
     try dsimp only
     refine Q.wrapPO fun Kj16 hKj16 => ?_
     have hj16 : ∀ (s7_17 : Int), Z4_j16 a0 x5 s7_17 = Kj16 s7_17 := by
      intro s7_17
      refine Eq.trans ?_ (hKj16 _).symm
      unfold Z4_j16
      refine Q.condO ?_ ?_
      ·all_goals rfl
      refine Q.condO ?_ ?_
      ·all_goals rfl
      all_goals rfl
     all_goals exact hj16 _
    intro e28
    refine Eq.trans ?_ (hKb28 _).symm
    try dsimp only
    all_goals rfl
   all_goals exact hj14
  intro e47
  refine Eq.trans ?_ (hKb47 _).symm
  try dsimp only
  all_goals rfl
 refine Q.condO ?_ ?_
 ·refine Q.bindO rfl fun x61 => ?_
  all_goals exact hj6 _
 all_goals exact hj6 _
end Go.Proofs

namespace Go.Proofs
open Go Go.Ab
theorem some_nat {a b : Nat} (h : a = b) : some ((a : Nat) : Int) = some ((b : Nat) : Int) := by rw [h]
theorem idxC_nat {α : Type} (l : List α) (i : Nat) : idxC l (i : Int) = l[i]? := by unfold idxC; rw [if_pos (by omega)]; simp
theorem cut_from {s : Bs} {i : Nat} (h : i ≤ s.length) : cutC s (some (i : Int)) none = some (s.drop i) := by
 unfold cutC; rw [if_pos (by simp; omega)]; simp
theorem cut_part {s : Bs} {i j : Nat} (h : i ≤ j) (hj : j ≤ s.length) : cutC s (some (i : Int)) (some (j : Int)) = some ((s.drop i).take (j - i)) := by
 unfold cutC; rw [if_pos (by simp; omega)]
 simp only [Option.getD_some, Int.toNat_natCast]
 rw [List.drop_take]
theorem drop_cons {s : Bs} {i : Nat} {c : UInt8} (h : s[i]? = some c) : s.drop i = c :: s.drop (i + 1) := by
 obtain ⟨hi, rfl⟩ := List.getElem?_eq_some_iff.1 h
 exact List.drop_eq_getElem_cons hi
def isSp (c : UInt8) : Bool := decide (((c.toNat : Nat) : Int) = 32) || decide (((c.toNat : Nat) : Int) = 9) || decide (((c.toNat : Nat) : Int) = 10) || decide (((c.toNat : Nat) : Int) = 13) || decide (((c.toNat : Nat) : Int) = 44)
def isNl (c : UInt8) : Bool := decide (((c.toNat : Nat) : Int) = 10) || decide (((c.toNat : Nat) : Int) = 13)
def skN : Bool → Bs → Nat
 | _, [] => 0
 | false, c :: r => bif isSp c then 1 + skN false r else bif decide (((c.toNat : Nat) : Int) = 35) then 1 + skN true r else 0
 | true, c :: r => bif isNl c then 1 + skN false r else 1 + skN true r
theorem skN_le : ∀ (b : Bool) (l : Bs), skN b l ≤ l.length
 | b, [] => by cases b <;> simp [skN]
 | false, c :: r => by
  have h1 := skN_le false r; have h2 := skN_le true r
  rw [skN]; cases isSp c <;> cases decide (((c.toNat : Nat) : Int) = 35) <;> simp <;> omega
 | true, c :: r => by
  have h1 := skN_le false r; have h2 := skN_le true r
  rw [skN]; cases isNl c <;> simp <;> omega
theorem isNl_sp {c : UInt8} (h : isNl c = true) : isSp c = true := by
 unfold isNl at h; unfold isSp
 simp only [Bool.or_eq_true] at h ⊢
 rcases h with h | h
 ·exact .inl (.inl (.inr h))
 ·exact .inl (.inr h)
theorem contains_nl (c : UInt8) : ([10, 13] : Bs).contains c = isNl c := by
 unfold isNl
 rw [Bool.eq_iff_iff]
 simp only [List.contains_eq_mem, List.mem_cons, List.not_mem_nil, or_false, decide_eq_true_eq, Bool.or_eq_true]
 rw [← UInt8.toNat_inj, ← UInt8.toNat_inj]
 show (c.toNat = 10 ∨ c.toNat = 13) ↔ _
 omega
theorem indexAny_sk : ∀ l : Bs, (∃ k : Nat, Lib.indexAny l [10, 13] = (k : Int) ∧ k < l.length ∧ skN true l = k + skN false (l.drop k)) ∨ (Lib.indexAny l [10, 13] = -1 ∧ skN true l = l.length)
 | [] => .inr ⟨rfl, rfl⟩
 | c :: r => by
  rw [Lib.indexAny, contains_nl]
  cases h : isNl c
  ·rcases indexAny_sk r with ⟨k, h1, h2, h3⟩ | ⟨h1, h2⟩
   ·left
    refine ⟨k + 1, ?_, by simp; omega, ?_⟩
    ·rw [h1]; simp only [Bool.false_eq_true, if_false]; rw [if_neg (by simp)]; push_cast; rfl
    ·rw [skN, h, List.drop_succ_cons, h3]; simp; omega
   ·right
    rw [h1]
    refine ⟨by simp, ?_⟩
    rw [skN, h, h2]; simp; omega
  ·left
   refine ⟨0, by simp, by simp, ?_⟩
   rw [skN, h, List.drop_zero, skN, isNl_sp h]; simp
theorem skip_aux (s : Bs) (hs : s.length ≤ 1048576) : ∀ (n i : Nat), i ≤ s.length → s.length - i < n → Z50_l5 s n (i : Int) = some (((i + skN false (s.drop i) : Nat)) : Int)
 | 0, _, _, h => by omega
 | n + 1, i, hi, hn => by
  rw [Z50_l5]
  by_cases hlt : i < s.length
  ·have hd : decide ((i : Int) < ((s.length : Nat) : Int)) = true := decide_eq_true (by omega)
   obtain ⟨c, hc⟩ : ∃ c, s[i]? = some c := ⟨s[i], List.getElem?_eq_getElem hlt⟩
   have hdr := drop_cons hc
   have next : ∀ j : Nat, i < j → j ≤ s.length → Z50_l5 s n (j : Int) = some (((j + skN false (s.drop j) : Nat)) : Int) := fun j h1 h2 => skip_aux s hs n j h2 (by omega)
   have one : addC (i : Int) 1 = some (((i + 1 : Nat)) : Int) := by rw [addC_ok (by omega)]; rfl
   rw [hd, idxC_nat, hc, hdr, skN]
   simp only [Z50_j13, one]
   rw [cond_true, Option.bind_some]
   have sp : isSp c = true → Z50_l5 s n (((i + 1 : Nat)) : Int) = some (((i + (bif isSp c then 1 + skN false (s.drop (i + 1)) else bif decide (((c.toNat : Nat) : Int) = 35) then 1 + skN true (s.drop (i + 1)) else 0) : Nat)) : Int) := fun h => by
    rw [next (i + 1) (by omega) (by omega), h]
    simp only [cond_true]; exact some_nat (by omega)
   cases h1 : decide (((c.toNat : Nat) : Int) = 32)
   ·rw [cond_false]
    cases h2 : decide (((c.toNat : Nat) : Int) = 9)
    ·rw [cond_false]
     cases h3 : decide (((c.toNat : Nat) : Int) = 10)
     ·rw [cond_false]
      cases h4 : decide (((c.toNat : Nat) : Int) = 13)
      ·rw [cond_false]
       cases h5 : decide (((c.toNat : Nat) : Int) = 44)
       ·have hns : isSp c = false := by unfold isSp; rw [h1, h2, h3, h4, h5]; rfl
        have hnn : isNl c = false := by unfold isNl; rw [h3, h4]; rfl
        rw [hns, cond_false, cond_false]
        cases h6 : decide (((c.toNat : Nat) : Int) = 35)
        ·simp
        ·simp only [cond_true]
         rw [cut_from hi, Option.bind_some, hdr]
         have he : Z38 (c :: s.drop (i + 1)) [10, 13] = some (Lib.indexAny (c :: s.drop (i + 1)) [10, 13]) := by
          unfold Z38 idxAnyC
          rw [if_pos ⟨by decide, by decide, Nat.lt_of_le_of_lt (show (c :: s.drop (i + 1)).length ≤ 1048577 by simp; omega) (by decide), by decide⟩]
         rw [he, Option.bind_some]
         have hsk : skN true (c :: s.drop (i + 1)) = 1 + skN true (s.drop (i + 1)) := by rw [skN, hnn]; rfl
         rw [← hsk]
         rcases indexAny_sk (c :: s.drop (i + 1)) with ⟨k, g1, g2, g3⟩ | ⟨g1, g2⟩
         ·have hk0 : 0 < k := by
           rcases Nat.eq_zero_or_pos k with h | h
           ·subst h
            rw [Lib.indexAny, contains_nl, hnn] at g1
            simp at g1
            split at g1 <;> omega
           ·exact h
          rw [g1, show decide ((0 : Int) ≤ (k : Int)) = true from decide_eq_true (by omega)]
          simp only [cond_true]
          simp only [List.length_cons, List.length_drop] at g2
          rw [addC_ok (by omega), Option.bind_some, show ((i : Int) + (k : Int)) = ((i + k : Nat) : Int) by push_cast; rfl, next (i + k) (by omega) (by omega), g3, ← hdr, List.drop_drop]
          exact some_nat (by omega)
         ·rw [g1, show decide ((0 : Int) ≤ (-1 : Int)) = false from rfl]
          simp only [cond_false]
          rw [next s.length (by omega) (Nat.le_refl _), g2, List.drop_length]
          simp only [skN, List.length_cons, List.length_drop]
          exact some_nat (by omega)
       ·rw [cond_true]; exact sp (by unfold isSp; rw [h5]; simp)
      ·rw [cond_true]; exact sp (by unfold isSp; rw [h4]; simp)
     ·rw [cond_true]; exact sp (by unfold isSp; rw [h3]; simp)
    ·rw [cond_true]; exact sp (by unfold isSp; rw [h2]; simp)
   ·rw [cond_true]; exact sp (by unfold isSp; rw [h1]; simp)
  ·rw [show decide ((i : Int) < ((s.length : Nat) : Int)) = false from decide_eq_false (by omega), List.drop_eq_nil_of_le (by omega)]
   simp [Z50_j2, skN]
theorem skip_eq {s : Bs} (hs : s.length ≤ 1048576) {i : Nat} (hi : i ≤ s.length) : Z50 s (i : Int) = some (((i + skN false (s.drop i) : Nat)) : Int) := by
 unfold Z50; exact skip_aux s hs F0 i hi (by rw [F0_eq]; omega)
theorem rcom_aux (s : Bs) (hs : s.length ≤ 1048576) (k : Int → Option Int) : ∀ (n i : Nat), i ≤ s.length → s.length - i < n → (∀ j : Nat, i ≤ j → j ≤ s.length → (j = s.length ∨ ∃ c, s[j]? = some c ∧ isNl c = true) → k (j : Int) = some (((j + skN false (s.drop j) : Nat)) : Int)) →
  Z16_l23 s k n (i : Int) = some (((i + skN true (s.drop i) : Nat)) : Int)
 | 0, _, _, h, _ => by omega
 | n + 1, i, hi, hn, hk => by
  rw [Z16_l23]
  by_cases hlt : i < s.length
  ·have hd : decide ((i : Int) < ((s.length : Nat) : Int)) = true := decide_eq_true (by omega)
   obtain ⟨c, hc⟩ : ∃ c, s[i]? = some c := ⟨s[i], List.getElem?_eq_getElem hlt⟩
   have hdr := drop_cons hc
   have ih := rcom_aux s hs k n (i + 1) (by omega) (by omega) (fun j h1 => hk j (by omega))
   have one : addC (i : Int) 1 = some (((i + 1 : Nat)) : Int) := by rw [addC_ok (by omega)]; rfl
   rw [hd, idxC_nat, hc, one]
   simp only [guardO, if_true, Option.bind_some, Bool.true_and]
   cases hn1 : decide (((c.toNat : Nat) : Int) = 10)
   ·cases hn2 : decide (((c.toNat : Nat) : Int) = 13)
    ·have hnn : isNl c = false := by unfold isNl; rw [hn1, hn2]; rfl
     simp only [Bool.not_false, if_true, Bool.and_self, cond_true]
     rw [ih, hdr, skN, hnn]
     simp only [cond_false]; exact some_nat (by omega)
    ·have hnn : isNl c = true := by unfold isNl; rw [hn2]; simp
     simp only [Bool.not_false, Bool.not_true, if_true, Bool.and_false, cond_false]
     rw [hk i (Nat.le_refl _) hi (.inr ⟨c, hc, hnn⟩), hdr, skN, skN, hnn, isNl_sp hnn]
     rfl
   ·have hnn : isNl c = true := by unfold isNl; rw [hn1]; simp
    simp only [Bool.not_true, Bool.false_eq_true, if_false, Bool.and_false, Bool.false_and, cond_false]
    rw [hk i (Nat.le_refl _) hi (.inr ⟨c, hc, hnn⟩), hdr, skN, skN, hnn, isNl_sp hnn]
    rfl
  ·rw [show decide ((i : Int) < ((s.length : Nat) : Int)) = false from decide_eq_false (by omega)]
   simp only [guardO, Bool.false_and, Bool.false_eq_true, if_false, cond_false]
   have : i = s.length := by omega
   rw [hk i (Nat.le_refl _) hi (.inl this), List.drop_eq_nil_of_le (by omega)]
   rfl
theorem space_eq (c : UInt8) : Z17 ((c.toNat : Nat) : Int) = some (isSp c) := rfl
theorem rskip_aux (s : Bs) (hs : s.length ≤ 1048576) : ∀ (n i : Nat), i ≤ s.length → s.length - i < n → Z16_l5 s n (i : Int) = some (((i + skN false (s.drop i) : Nat)) : Int)
 | 0, _, _, h => by omega
 | n + 1, i, hi, hn => by
  rw [Z16_l5]
  by_cases hlt : i < s.length
  ·have hd : decide ((i : Int) < ((s.length : Nat) : Int)) = true := decide_eq_true (by omega)
   obtain ⟨c, hc⟩ : ∃ c, s[i]? = some c := ⟨s[i], List.getElem?_eq_getElem hlt⟩
   have hdr := drop_cons hc
   have one : addC (i : Int) 1 = some (((i + 1 : Nat)) : Int) := by rw [addC_ok (by omega)]; rfl
   rw [hd, idxC_nat, hc, hdr, skN, one]
   simp only [cond_true, Option.bind_some, space_eq]
   cases hsp : isSp c
   ·simp only [cond_false]
    cases h6 : decide (((c.toNat : Nat) : Int) = 35)
    ·simp
    ·have hnn : isNl c = false := by
      cases h : isNl c with
      | false => rfl
      | true => rw [isNl_sp h] at hsp; cases hsp
     simp only [Bool.not_true, cond_false, cond_true]
     have hsk : skN true (s.drop i) = 1 + skN true (s.drop (i + 1)) := by rw [hdr, skN, hnn]; rfl
     rw [← hsk]
     refine rcom_aux s hs _ F0 i hi (by rw [F0_eq]; omega) fun j h1 h2 h3 => ?_
     have hij : i ≠ j ∨ i = s.length := by
      rcases h3 with h | ⟨c', h4, h5⟩
      ·exact .inl (by omega)
      ·refine .inl fun e => ?_
       subst e; rw [hc] at h4; simp only [Option.some.injEq] at h4; subst h4; rw [hnn] at h5; cases h5
     exact rskip_aux s hs n j h2 (by omega)
   ·simp only [cond_true]
    rw [rskip_aux s hs n (i + 1) (by omega) (by omega)]
    exact some_nat (by omega)
  ·rw [show decide ((i : Int) < ((s.length : Nat) : Int)) = false from decide_eq_false (by omega), List.drop_eq_nil_of_le (by omega)]
   simp [Z16_j2, skN]
theorem rskip_eq {s : Bs} (hs : s.length ≤ 1048576) {i : Nat} (hi : i ≤ s.length) : Z16 s (i : Int) = some (((i + skN false (s.drop i) : Nat)) : Int) := by
 unfold Z16; exact rskip_aux s hs F0 i hi (by rw [F0_eq]; omega)
end Go.Proofs

namespace Go.Proofs
open Go Go.Ab
theorem wrap32 (c : UInt8) : IntKind.wrap .i32 ((c.toNat : Nat) : Int) = ((c.toNat : Nat) : Int) := by
 have h := c.toNat_lt
 simp [IntKind.wrap, IntKind.bits, IntKind.signed]
 omega
def isW (c : UInt8) : Bool := (((decide ((97 : Int) ≤ ((c.toNat : Nat) : Int)) && decide (((c.toNat : Nat) : Int) ≤ (122 : Int))) || (decide ((65 : Int) ≤ ((c.toNat : Nat) : Int)) && decide (((c.toNat : Nat) : Int) ≤ (90 : Int)))) || (decide ((48 : Int) ≤ ((c.toNat : Nat) : Int)) && decide (((c.toNat : Nat) : Int) ≤ (57 : Int)))) || decide (((c.toNat : Nat) : Int) = (95 : Int))
def isD (c : UInt8) : Bool := decide ((48 : Int) ≤ ((c.toNat : Nat) : Int)) && decide (((c.toNat : Nat) : Int) ≤ (57 : Int))
def isL (c : UInt8) : Bool := ((decide ((65 : Int) ≤ ((c.toNat : Nat) : Int)) && decide (((c.toNat : Nat) : Int) ≤ (90 : Int))) || (decide ((97 : Int) ≤ ((c.toNat : Nat) : Int)) && decide (((c.toNat : Nat) : Int) ≤ (122 : Int)))) || decide (((c.toNat : Nat) : Int) = (95 : Int))
theorem isW_eq (c : UInt8) : isW c = (isL c || isD c) := by
 unfold isW isL isD
 rw [Bool.eq_iff_iff]
 simp only [Bool.or_eq_true, Bool.and_eq_true, decide_eq_true_eq]
 constructor
 ·rintro (((h | h) | h) | h)
  ·exact .inl (.inl (.inr h))
  ·exact .inl (.inl (.inl h))
  ·exact .inr h
  ·exact .inl (.inr h)
 ·rintro (((h | h) | h) | h)
  ·exact .inl (.inl (.inr h))
  ·exact .inl (.inl (.inl h))
  ·exact .inr h
  ·exact .inl (.inr h)
theorem letter_eq (c : UInt8) : Z47 (IntKind.wrap .i32 ((c.toNat : Nat) : Int)) = some (isW c) := by rw [wrap32]; rfl
def wordN (l : Bs) : Nat := (l.takeWhile isW).length
theorem wordN_le (l : Bs) : wordN l ≤ l.length := by
 unfold wordN
 induction l with
 | nil => simp
 | cons a r ih => rw [List.takeWhile_cons]; split <;> simp <;> omega
theorem wordN_cons (c : UInt8) (r : Bs) : wordN (c :: r) = bif isW c then 1 + wordN r else 0 := by
 unfold wordN; rw [List.takeWhile_cons]; cases isW c <;> simp <;> omega
theorem span_aux (s : Bs) (hs : s.length ≤ 1048576) : ∀ (n i : Nat), i ≤ s.length → s.length - i < n → Z51_l5 s Z47 n (i : Int) = some (((i + wordN (s.drop i) : Nat)) : Int)
 | 0, _, _, h => by omega
 | n + 1, i, hi, hn => by
  rw [Z51_l5]
  by_cases hlt : i < s.length
  ·have hd : decide ((i : Int) < ((s.length : Nat) : Int)) = true := decide_eq_true (by omega)
   obtain ⟨c, hc⟩ : ∃ c, s[i]? = some c := ⟨s[i], List.getElem?_eq_getElem hlt⟩
   have one : addC (i : Int) 1 = some (((i + 1 : Nat)) : Int) := by rw [addC_ok (by omega)]; rfl
   have ih := span_aux s hs n (i + 1) (by omega) (by omega)
   rw [hd, idxC_nat, hc, one, drop_cons hc, wordN_cons]
   simp only [guardO, if_true, Option.bind_some, letter_eq, Bool.true_and]
   cases isW c
   ·simp [Z51_j2]
   ·simp only [cond_true]
    rw [ih]; exact some_nat (by omega)
  ·rw [show decide ((i : Int) < ((s.length : Nat) : Int)) = false from decide_eq_false (by omega), List.drop_eq_nil_of_le (by omega)]
   simp [guardO, Z51_j2, wordN]
theorem span_eq {s : Bs} (hs : s.length ≤ 1048576) {i : Nat} (hi : i ≤ s.length) : Z51 s (i : Int) Z47 = some (((i + wordN (s.drop i) : Nat)) : Int) := by
 unfold Z51; exact span_aux s hs F0 i hi (by rw [F0_eq]; omega)
theorem rletter_eq (c : UInt8) : Z13 ((c.toNat : Nat) : Int) = some (isL c) := rfl
theorem rdigit_eq (c : UInt8) : Z12 ((c.toNat : Nat) : Int) = some (isD c) := rfl
theorem word_aux (s : Bs) (hs : s.length ≤ 1048576) : ∀ (n i : Nat), i ≤ s.length → s.length - i < n → Z18_l5 s n (i : Int) = some (((i + wordN (s.drop i) : Nat)) : Int)
 | 0, _, _, h => by omega
 | n + 1, i, hi, hn => by
  rw [Z18_l5]
  by_cases hlt : i < s.length
  ·have hd : decide ((i : Int) < ((s.length : Nat) : Int)) = true := decide_eq_true (by omega)
   obtain ⟨c, hc⟩ : ∃ c, s[i]? = some c := ⟨s[i], List.getElem?_eq_getElem hlt⟩
   have one : addC (i : Int) 1 = some (((i + 1 : Nat)) : Int) := by rw [addC_ok (by omega)]; rfl
   have ih := word_aux s hs n (i + 1) (by omega) (by omega)
   rw [hd, idxC_nat, hc, one, drop_cons hc, wordN_cons, isW_eq]
   simp only [guardO, if_true, Option.bind_some, rletter_eq, Bool.true_and]
   cases isL c
   ·simp only [Bool.not_false, if_true, rdigit_eq, Option.bind_some, Bool.false_or]
    cases isD c
    ·simp [Z18_j2]
    ·simp only [cond_true]; rw [ih]; exact some_nat (by omega)
   ·simp only [Bool.true_or, cond_true]
    simp only [Bool.not_true, Bool.false_eq_true, if_false, Bool.true_or, cond_true]
    rw [ih]; exact some_nat (by omega)
  ·rw [show decide ((i : Int) < ((s.length : Nat) : Int)) = false from decide_eq_false (by omega), List.drop_eq_nil_of_le (by omega)]
   simp [guardO, Z18_j2, wordN]
theorem word_eq {s : Bs} (hs : s.length ≤ 1048576) {i : Nat} (hi : i ≤ s.length) : Z18 s (i : Int) = some (((i + wordN (s.drop i) : Nat)) : Int) := by
 unfold Z18; exact word_aux s hs F0 i hi (by rw [F0_eq]; omega)
def litN : Bool → Bs → Option Nat
 | _, [] => none
 | true, _ :: r => (litN false r).map (· + 1)
 | false, c :: r => bif decide (((c.toNat : Nat) : Int) = 34) then some 1 else (litN (decide (((c.toNat : Nat) : Int) = 92)) r).map (· + 1)
theorem litN_le : ∀ (b : Bool) (l : Bs) (k : Nat), litN b l = some k → 1 ≤ k ∧ k ≤ l.length
 | _, [], _, h => by cases h
 | true, _ :: r, k, h => by
  rw [litN] at h
  obtain ⟨m, h1, rfl⟩ := Option.map_eq_some_iff.1 h
  have := litN_le false r m h1
  simp; omega
 | false, c :: r, k, h => by
  rw [litN] at h
  cases hc : decide (((c.toNat : Nat) : Int) = 34)
  ·rw [hc] at h
   obtain ⟨m, h1, rfl⟩ := Option.map_eq_some_iff.1 h
   have := litN_le _ r m h1
   simp; omega
  ·rw [hc] at h
   simp only [cond_true, Option.some.injEq] at h
   subst h; simp
def litR (s : Bs) (i : Nat) (b : Bool) : Int := match litN b (s.drop i) with | some k => ((i + k : Nat) : Int) | none => -1
theorem lit_aux (s : Bs) (hs : s.length ≤ 1048576) : ∀ (n i : Nat) (sk : Bool), i ≤ s.length → s.length - i < n → ∃ r, token_litSpan s n (i : Int) sk = some r ∧ ((∃ j : Nat, r.1 = (j : Int) ∧ j < s.length ∧ litR s i sk = ((j + 1 : Nat) : Int)) ∨ (r.1 = ((s.length : Nat) : Int) ∧ litR s i sk = -1))
 | 0, _, _, _, h => by omega
 | n + 1, i, sk, hi, hn => by
  rw [token_litSpan]
  by_cases hlt : i < s.length
  ·have hd : decide ((i : Int) < ((s.length : Nat) : Int)) = true := decide_eq_true (by omega)
   obtain ⟨c, hc⟩ : ∃ c, s[i]? = some c := ⟨s[i], List.getElem?_eq_getElem hlt⟩
   have one : addC (i : Int) 1 = some (((i + 1 : Nat)) : Int) := by rw [addC_ok (by omega)]; rfl
   have ih := fun sk => lit_aux s hs n (i + 1) sk (by omega) (by omega)
   rw [hd, idxC_nat, hc, one]
   simp only [cond_true, Option.bind_some, wrap32]
   have go : ∀ sk' : Bool, litN sk (s.drop i) = (litN sk' (s.drop (i + 1))).map (· + 1) → litR s i sk = litR s (i + 1) sk' := fun sk' h => by
    unfold litR
    rw [h]
    cases litN sk' (s.drop (i + 1)) with
    | none => rfl
    | some k => simp only [Option.map_some]; exact congrArg _ (by omega)
   cases sk with
   | true =>
    simp only [token_litStep, cond_true]
    obtain ⟨r, h1, h2⟩ := ih false
    rw [go false (by rw [drop_cons hc, litN])]
    exact ⟨r, h1, h2⟩
   | false =>
    simp only [token_litStep, cond_false]
    cases h34 : decide (((c.toNat : Nat) : Int) = 34)
    ·simp only [Bool.not_false, cond_true]
     obtain ⟨r, h1, h2⟩ := ih (decide (((c.toNat : Nat) : Int) = 92))
     rw [go _ (by rw [drop_cons hc, litN, h34]; rfl)]
     exact ⟨r, h1, h2⟩
    ·simp only [Bool.not_true, cond_false]
     refine ⟨_, rfl, .inl ⟨i, rfl, hlt, ?_⟩⟩
     unfold litR
     rw [drop_cons hc, litN, h34]; rfl
  ·rw [show decide ((i : Int) < ((s.length : Nat) : Int)) = false from decide_eq_false (by omega)]
   refine ⟨_, rfl, .inr ⟨?_, ?_⟩⟩
   ·simp only; omega
   ·unfold litR; rw [List.drop_eq_nil_of_le (by omega)]; cases sk <;> rfl
theorem literal_eq {s : Bs} (hs : s.length ≤ 1048576) {i : Nat} (hi : i < s.length) : Z48 s (i : Int) = some (litR s (i + 1) false) := by
 unfold Z48
 have one : addC (i : Int) 1 = some (((i + 1 : Nat)) : Int) := by rw [addC_ok (by omega)]; rfl
 obtain ⟨r, h1, h2⟩ := lit_aux s hs F0 (i + 1) false (by omega) (by rw [F0_eq]; omega)
 rw [one, Option.bind_some, h1, Option.bind_some]
 rcases h2 with ⟨j, h2, h3, h4⟩ | ⟨h2, h4⟩
 ·rw [h2, h4, show decide (((s.length : Nat) : Int) ≤ (j : Int)) = false from decide_eq_false (by omega), cond_false, addC_ok (by omega)]; rfl
 ·rw [h2, h4, show decide (((s.length : Nat) : Int) ≤ ((s.length : Nat) : Int)) = true from decide_eq_true (by omega), cond_true]
theorem j18_at (k : Int → Option Int) (j : Nat) (hj : j ≤ 2000000) : Z11_j18 k (j : Int) = k ((j + 1 : Nat) : Int) := by
 unfold Z11_j18; rw [addC_ok (by omega)]; rfl
theorem closing_aux (s : Bs) (hs : s.length ≤ 1048576) : ∀ (n i : Nat), i ≤ s.length + 1 → s.length + 1 - i < n → Z11_l6 s n (i : Int) = some (litR s i false)
 | 0, _, _, h => by omega
 | n + 1, i, hi, hn => by
  rw [Z11_l6]
  by_cases hlt : i < s.length
  ·have hd : decide ((i : Int) < ((s.length : Nat) : Int)) = true := decide_eq_true (by omega)
   obtain ⟨c, hc⟩ : ∃ c, s[i]? = some c := ⟨s[i], List.getElem?_eq_getElem hlt⟩
   have one : addC (i : Int) 1 = some (((i + 1 : Nat)) : Int) := by rw [addC_ok (by omega)]; rfl
   have ih1 := closing_aux s hs n (i + 1) (by omega) (by omega)
   have ih2 := closing_aux s hs n (i + 2) (by omega) (by omega)
   rw [hd, idxC_nat, hc, cond_true, Option.bind_some, Option.bind_some, one, Option.bind_some, Option.bind_some, j18_at _ (i + 1) (by omega), j18_at _ i (by omega), ih1, ih2]
   unfold litR
   rw [drop_cons hc, litN]
   cases h34 : decide (((c.toNat : Nat) : Int) = 34)
   ·simp only [cond_false]
    cases h92 : decide (((c.toNat : Nat) : Int) = 92)
    ·simp only [cond_false]
     cases litN false (s.drop (i + 1)) with
     | none => rfl
     | some k => simp only [Option.map_some]; exact some_nat (by omega)
    ·simp only [cond_true]
     by_cases h2 : i + 1 < s.length
     ·obtain ⟨c2, hc2⟩ : ∃ c, s[i + 1]? = some c := ⟨s[i + 1], List.getElem?_eq_getElem h2⟩
      rw [drop_cons hc2, litN]
      cases litN false (s.drop (i + 1 + 1)) with
      | none => rfl
      | some k => simp only [Option.map_some]; exact some_nat (by omega)
     ·rw [List.drop_eq_nil_of_le (by omega), List.drop_eq_nil_of_le (by omega)]; rfl
   ·simp only [cond_true]
  ·rw [show decide ((i : Int) < ((s.length : Nat) : Int)) = false from decide_eq_false (by omega)]
   unfold litR
   rw [List.drop_eq_nil_of_le (by omega)]; rfl
theorem closing_eq {s : Bs} (hs : s.length ≤ 1048576) {i : Nat} (hi : i < s.length) : Z11 s (i : Int) = some (litR s (i + 1) false) := by
 unfold Z11
 have one : addC (i : Int) 1 = some (((i + 1 : Nat)) : Int) := by rw [addC_ok (by omega)]; rfl
 rw [one, Option.bind_some, closing_aux s hs F0 (i + 1) (by omega) (by rw [F0_eq]; omega)]
end Go.Proofs

namespace Go.Proofs
open Go Go.Ab
def lim63 : Nat := 9223372036854775808
def stepF (a : Nat) (c : UInt8) : Nat := a * 10 + (c.toNat - 48)
def valF (a : Nat) (l : Bs) : Nat := l.foldl stepF a
theorem valF_cons (a : Nat) (c : UInt8) (r : Bs) : valF a (c :: r) = valF (a * 10 + (c.toNat - 48)) r := by
 unfold valF
 rw [List.foldl_cons]
 unfold stepF
 exact Eq.refl _
theorem valF_ge : ∀ (l : Bs) (a : Nat), a ≤ valF a l
 | [], a => Nat.le_refl _
 | c :: r, a => by rw [valF_cons]; have := valF_ge r (a * 10 + (c.toNat - 48)); omega
theorem isD_nat {c : UInt8} (h : isD c = true) : 48 ≤ c.toNat ∧ c.toNat ≤ 57 := by
 unfold isD at h; simp only [Bool.and_eq_true, decide_eq_true_eq] at h; omega
theorem parse_val : ∀ (t : Bs) (a : Nat), t.all isD = true → a < 18446744073709551616 → (Lib.parseUint10 a t = .ok (valF a t) ∧ valF a t < 18446744073709551616) ∨ (Lib.parseUint10 a t = .range ∧ 18446744073709551616 ≤ valF a t)
 | [], a, _, h => .inl ⟨rfl, h⟩
 | c :: r, a, hd, h => by
  simp only [List.all_cons, Bool.and_eq_true] at hd
  have hc := isD_nat hd.1
  have hg := valF_ge r (a * 10 + (c.toNat - 48))
  rw [Lib.parseUint10, if_pos hc, valF_cons]
  by_cases h1 : 1844674407370955162 ≤ a
  ·right; rw [if_pos h1]; exact ⟨rfl, by omega⟩
  ·rw [if_neg h1]
   by_cases h2 : 18446744073709551616 ≤ a * 10 + (c.toNat - 48)
   ·right; rw [if_pos h2]; exact ⟨rfl, by omega⟩
   ·rw [if_neg h2]; exact parse_val r _ hd.2 (by omega)
def negB (s : Bs) : Bool := s.head? == some 45
def magB (s : Bs) : Bs := bif negB s then s.tail else s
def numE (s : Bs) : Int := bif (magB s).isEmpty || ((magB s).head? == some 48 && (decide (1 < (magB s).length) || negB s)) then 3 else bif !(magB s).all isD then 3 else bif decide ((bif negB s then lim63 else lim63 - 1) < valF 0 (magB s)) then 4 else 0
theorem trim_eq (s : Bs) : Z41_q s [45] = some (magB s) := by
 unfold Z41_q Z1_q Z0_q magB negB
 cases s with
 | nil => rfl
 | cons c r =>
  have h1 : decide ((([45] : Bs).length : Int) ≤ (((c :: r : Bs).length : Nat) : Int)) = true := decide_eq_true (by simp only [List.length_cons, List.length_nil]; omega)
  simp only [Ab.on, h1, cond_true, Bool.true_and, List.head?_cons, List.tail_cons]
  have h2 : List.take ([45] : Bs).length (c :: r) = [c] := rfl
  rw [h2]
  by_cases h : c = 45
  ·subst h
   rw [show (([45] : Bs) == [45]) = true from rfl, show (some (45 : UInt8) == some 45) = true from rfl]
   simp only [cond_true]
   rw [show (some ((([45] : Bs).length : Nat) : Int)) = some (((1 : Nat) : Int)) from rfl, cut_from (by simp)]; rfl
  ·have h3 : (([c] : Bs) == [45]) = false := by simpa using h
   have h4 : (some c == some 45) = false := by simpa using h
   rw [h3, h4]; rfl
theorem tdig_eq : ∀ l : Bs, Z43_q19 l = bif l.all isD then Sum.inl () else Sum.inr (0, 3)
 | [] => rfl
 | c :: r => by
  rw [Z43_q19, tdig_eq r]
  simp only [Ab.on, List.all_cons]
  unfold isD
  by_cases h1 : ((c.toNat : Nat) : Int) < 48
  ·rw [show decide (((c.toNat : Nat) : Int) < 48) = true from decide_eq_true h1, show decide ((48 : Int) ≤ ((c.toNat : Nat) : Int)) = false from decide_eq_false (by omega)]; rfl
  ·rw [show decide (((c.toNat : Nat) : Int) < 48) = false from decide_eq_false h1, show decide ((48 : Int) ≤ ((c.toNat : Nat) : Int)) = true from decide_eq_true (by omega)]
   by_cases h2 : (57 : Int) < ((c.toNat : Nat) : Int)
   ·rw [show decide (((c.toNat : Nat) : Int) ≤ 57) = false from decide_eq_false (by omega)]; simp [h2]
   ·rw [show decide (((c.toNat : Nat) : Int) ≤ 57) = true from decide_eq_true (by omega)]; simp [h2]
theorem rdig_eq : ∀ l : Bs, Z4_q47 l = bif l.all isD then Sum.inl () else Sum.inr (0, 3)
 | [] => rfl
 | c :: r => by
  rw [Z4_q47, rdig_eq r]
  simp only [Ab.on, List.all_cons]
  rw [show Z7_q ((c.toNat : Nat) : Int) = isD c from rfl]
  cases isD c <;> rfl
theorem mag_cases (s : Bs) : (negB s = true ∧ ∃ r, s = 45 :: r ∧ magB s = r) ∨ (negB s = false ∧ magB s = s) := by
 unfold magB negB
 cases s with
 | nil => exact .inr ⟨rfl, rfl⟩
 | cons c r =>
  by_cases h : c = 45
  ·subst h; exact .inl ⟨rfl, r, rfl, rfl⟩
  ·have h4 : (some c == some 45) = false := by simpa using h
   right; simp only [List.head?_cons, h4]; exact ⟨trivial, rfl⟩
theorem atoi_num {s : Bs} (hl : s.length ≤ 1048577) (hne : magB s ≠ []) (hd : (magB s).all isD = true) : ∃ v, Z32_q s = some (v, decide ((bif negB s then lim63 else lim63 - 1) < valF 0 (magB s))) := by
 unfold Z32_q Z32 atoiC
 rw [if_pos (Nat.le_trans hl (by decide))]
 rcases mag_cases s with ⟨hn, r, rfl, hm⟩ | ⟨hn, hm⟩
 ·rw [hm] at hne hd ⊢
  rw [hn]
  have e : Lib.atoiAll (45 :: r) = (match Lib.parseUint10 0 r with | .syntax => .syntax | .range => .range | .ok u => if ¬ True ∧ 9223372036854775808 ≤ u then .range else if True ∧ 9223372036854775808 < u then .range else .ok (if True then -(u : Int) else u)) := by
   unfold Lib.atoiAll Lib.parseMag
   dsimp only
   rw [if_pos (show (45 : UInt8).toNat = 43 ∨ (45 : UInt8).toNat = 45 from .inr rfl), if_neg hne]
   simp only [show ((45 : UInt8).toNat = 45) = True from eq_true rfl]
   cases Lib.parseUint10 0 r <;> simp
  rw [e]
  rcases parse_val r 0 hd (by decide) with ⟨h1, h2⟩ | ⟨h1, h2⟩
  ·rw [h1]
   by_cases h3 : 9223372036854775808 < valF 0 r
   ·exact ⟨Lib.atoiSat (45 :: r), by simp only [not_true_eq_false, false_and, if_false, true_and, h3, if_true, cond_true]; rw [decide_eq_true (show lim63 < valF 0 r from h3)]⟩
   ·exact ⟨_, by simp only [not_true_eq_false, false_and, if_false, true_and, h3, if_true, cond_true]; rw [decide_eq_false (show ¬ lim63 < valF 0 r from h3)]⟩
  ·rw [h1]
   exact ⟨_, by simp only [cond_true]; rw [decide_eq_true (show lim63 < valF 0 r by unfold lim63; omega)]⟩
 ·rw [hm] at hne hd ⊢
  rw [hn]
  cases s with
  | nil => exact absurd rfl hne
  | cons c r =>
   simp only [List.all_cons, Bool.and_eq_true] at hd
   have hc := isD_nat hd.1
   have hd' : (c :: r).all isD = true := by simp [hd.1, hd.2]
   have e : Lib.atoiAll (c :: r) = (match Lib.parseUint10 0 (c :: r) with | .syntax => .syntax | .range => .range | .ok u => if ¬ False ∧ 9223372036854775808 ≤ u then .range else if False ∧ 9223372036854775808 < u then .range else .ok (if False then -(u : Int) else u)) := by
    unfold Lib.atoiAll Lib.parseMag
    have h45 : (c.toNat = 45) = False := eq_false (by omega)
    dsimp only
    rw [if_neg (show ¬ (c.toNat = 43 ∨ c.toNat = 45) by omega), if_neg hne]
    simp only [h45]
    cases Lib.parseUint10 0 (c :: r) <;> simp
   rw [e]
   rcases parse_val (c :: r) 0 hd' (by decide) with ⟨h1, h2⟩ | ⟨h1, h2⟩
   ·rw [h1]
    by_cases h3 : 9223372036854775808 ≤ valF 0 (c :: r)
    ·exact ⟨_, by simp only [not_false_eq_true, true_and, h3, if_true, cond_false]; rw [decide_eq_true (show lim63 - 1 < valF 0 (c :: r) by unfold lim63; omega)]⟩
    ·exact ⟨_, by simp only [not_false_eq_true, true_and, h3, if_false, false_and, cond_false]; rw [decide_eq_false (show ¬ lim63 - 1 < valF 0 (c :: r) by unfold lim63; omega)]⟩
   ·rw [h1]
    exact ⟨_, by simp only [cond_false]; rw [decide_eq_true (show lim63 - 1 < valF 0 (c :: r) by unfold lim63; omega)]⟩
theorem tnum_eq {s : Bs} (hl : s.length ≤ 1048577) : ∃ v, Z43 s = some (v, numE s) := by
 rw [Z43_eq]
 unfold Z43_q
 rw [trim_eq, Option.bind_some, tdig_eq]
 unfold numE
 cases hm : magB s with
 | nil => exact ⟨0, rfl⟩
 | cons c r =>
  rw [show ((c :: r : Bs) == []) = false from rfl, show ((c :: r : Bs)[0]?) = some c from rfl]
  simp only [guardO, Bool.not_false, if_true, Option.bind_some, Bool.false_or, List.isEmpty_cons, List.head?_cons]
  have h48 : decide (((c.toNat : Nat) : Int) = 48) = (some c == some 48) := by
   rw [Bool.eq_iff_iff, decide_eq_true_eq]
   simp only [Option.some_beq_some, beq_iff_eq]
   rw [← UInt8.toNat_inj]
   show _ ↔ c.toNat = 48
   omega
  have hlen : (decide ((1 : Int) < (((c :: r : Bs).length : Nat) : Int)) || decide ((1 : Int) < ((s.length : Nat) : Int))) = (decide (1 < (c :: r : Bs).length) || negB s) := by
   rcases mag_cases s with ⟨hn, r', rfl, hm'⟩ | ⟨hn, hm'⟩
   ·rw [hn, Bool.or_true]
    rw [hm'] at hm; subst hm
    rw [show decide ((1 : Int) < (((45 :: c :: r : Bs).length : Nat) : Int)) = true from decide_eq_true (by simp only [List.length_cons]; omega), Bool.or_true]
   ·rw [hn, Bool.or_false, ← hm', hm, Bool.or_self, Bool.eq_iff_iff, decide_eq_true_eq, decide_eq_true_eq]; omega
  rw [h48, hlen]
  cases hx : (some c == some 48 && (decide (1 < (c :: r : Bs).length) || negB s))
  ·simp only [cond_false]
   cases hd : (c :: r : Bs).all isD
   ·exact ⟨0, rfl⟩
   ·simp only [Ab.on, cond_true, Bool.not_true, cond_false]
    obtain ⟨v, e⟩ := atoi_num hl (by rw [hm]; simp) (by rw [hm]; exact hd)
    rw [hm] at e
    rw [e, Option.bind_some]
    cases decide ((bif negB s then lim63 else lim63 - 1) < valF 0 (c :: r))
    ·exact ⟨v, rfl⟩
    ·exact ⟨0, rfl⟩
  ·exact ⟨0, rfl⟩
theorem wrap64_nat (n : Int) (h0 : -9223372036854775808 ≤ n) (h1 : n ≤ 9223372036854775807) : IntKind.wrap .i64 n = n := by
 simp [IntKind.wrap, IntKind.bits, IntKind.signed]; omega
theorem tdiv_neg (m : Nat) : Int.tdiv (-(m : Int)) 10 = -((m / 10 : Nat) : Int) := by
 rw [Int.neg_tdiv, Int.tdiv_eq_ediv_of_nonneg (by omega)]; rfl
theorem rval : ∀ (t : Bs) (a : Nat), t.all isD = true → a ≤ lim63 → (Z4_q28 t (-(a : Int)) = some (Sum.inl (-(valF a t : Int))) ∧ valF a t ≤ lim63) ∨ (Z4_q28 t (-(a : Int)) = some (Sum.inr (0, 4)) ∧ lim63 < valF a t)
 | [], a, _, h => .inl ⟨rfl, h⟩
 | c :: r, a, hd, h => by
  simp only [List.all_cons, Bool.and_eq_true] at hd
  have hc := isD_nat hd.1
  have hg := valF_ge r (a * 10 + (c.toNat - 48))
  obtain ⟨d, hdd⟩ : ∃ d : Nat, c.toNat = 48 + d := ⟨c.toNat - 48, by omega⟩
  have hd9 : d ≤ 9 := by omega
  have e1 : subC (IntKind.wrap .i64 ((c.toNat : Nat) : Int)) 48 = some (d : Int) := by
   rw [wrap64_nat _ (by omega) (by omega), subC_ok (by omega), hdd]
   exact congrArg some (by omega)
  have e2 : addC (-9223372036854775808) (d : Int) = some (-((lim63 - d : Nat) : Int)) := by
   rw [addC_ok (by omega)]; unfold lim63; exact congrArg some (by omega)
  have e3 : IntKind.wrap .i64 (Int.tdiv (-((lim63 - d : Nat) : Int)) 10) = -(((lim63 - d) / 10 : Nat) : Int) := by
   rw [tdiv_neg, wrap64_nat _ (by unfold lim63; omega) (by unfold lim63; omega)]
  rw [Z4_q28]
  simp only [Ab.on]
  rw [e1, Option.bind_some, e2, Option.bind_some, e3, valF_cons, show c.toNat - 48 = d by omega]
  rw [show c.toNat - 48 = d by omega] at hg
  by_cases h1 : lim63 < a * 10 + d
  ·right
   rw [show decide (-(a : Int) < -(((lim63 - d) / 10 : Nat) : Int)) = true from decide_eq_true (by unfold lim63 at *; omega), cond_true]
   exact ⟨rfl, by omega⟩
  ·rw [show decide (-(a : Int) < -(((lim63 - d) / 10 : Nat) : Int)) = false from decide_eq_false (by unfold lim63 at *; omega), cond_false]
   have e4 : mulC 10 (-(a : Int)) = some (-((a * 10 : Nat) : Int)) := by
    unfold mulC lim63 at *
    rw [if_pos (by omega)]; exact congrArg some (by push_cast; omega)
   have e5 : subC (-((a * 10 : Nat) : Int)) (d : Int) = some (-((a * 10 + d : Nat) : Int)) := by
    unfold lim63 at *
    rw [subC_ok (by omega)]; exact congrArg some (by push_cast; omega)
   rw [e4, Option.bind_some, e5, Option.bind_some]
   exact rval r _ hd.2 (by omega)
theorem rnum_eq (s : Bs) : ∃ v, Z4 s = some (v, numE s) := by
 rw [Z4_eq]
 unfold Z4_q
 have h45 : ((decide ((0 : Int) < ((s.length : Nat) : Int))) && (decide ((((bif (decide ((0 : Int) < ((s.length : Nat) : Int))) then ((s)[0]?.getD (0 : UInt8)) else (0 : UInt8)).toNat : Nat) : Int) = (45 : Int)))) = negB s := by
  unfold negB
  cases s with
  | nil => rfl
  | cons c r =>
   rw [show decide ((0 : Int) < (((c :: r : Bs).length : Nat) : Int)) = true from decide_eq_true (by simp only [List.length_cons]; omega)]
   simp only [cond_true, Bool.true_and, List.getElem?_cons_zero, Option.getD_some, List.head?_cons]
   rw [Bool.eq_iff_iff, decide_eq_true_eq]
   simp only [Option.some_beq_some, beq_iff_eq]
   rw [← UInt8.toNat_inj]
   show _ ↔ c.toNat = 45
   omega
 simp only [Ab.on, h45]
 have hcut : (bif negB s then ((cutC s (some (1 : Int)) none).bind fun x61 => some x61) else (some s)) = some (magB s) := by
  rcases mag_cases s with ⟨hn, r, rfl, hm⟩ | ⟨hn, hm⟩
  ·rw [hn, hm, cond_true, show (some (1 : Int)) = some ((1 : Nat) : Int) from rfl, cut_from (by simp)]; rfl
  ·rw [hn, hm]; rfl
 rw [hcut, Option.bind_some, rdig_eq]
 unfold numE
 cases hm : magB s with
 | nil => exact ⟨0, rfl⟩
 | cons c r =>
  rw [show decide ((((c :: r : Bs).length : Nat) : Int) = 0) = false from decide_eq_false (by simp only [List.length_cons]; omega), show ((c :: r : Bs)[0]?) = some c from rfl]
  simp only [guardO, Bool.not_false, if_true, Option.bind_some, Bool.false_or, List.isEmpty_cons, List.head?_cons]
  have h48 : decide (((c.toNat : Nat) : Int) = 48) = (some c == some 48) := by
   rw [Bool.eq_iff_iff, decide_eq_true_eq]
   simp only [Option.some_beq_some, beq_iff_eq]
   rw [← UInt8.toNat_inj]
   show _ ↔ c.toNat = 48
   omega
  have hlen : (decide ((1 : Int) < (((c :: r : Bs).length : Nat) : Int))) = (decide (1 < (c :: r : Bs).length)) := by
   rw [Bool.eq_iff_iff, decide_eq_true_eq, decide_eq_true_eq]; omega
  rw [h48, hlen]
  cases hx : (some c == some 48 && (decide (1 < (c :: r : Bs).length) || negB s))
  ·simp only [cond_false]
   cases hd : (c :: r : Bs).all isD
   ·exact ⟨0, rfl⟩
   ·simp only [cond_true, Bool.not_true, cond_false]
    rcases rval (c :: r) 0 hd (by decide) with ⟨h1, h2⟩ | ⟨h1, h2⟩
    ·have h1' : Z4_q28 (c :: r) 0 = some (Sum.inl (-(valF 0 (c :: r) : Int))) := h1
     rw [h1', Option.bind_some]
     cases hn : negB s
     ·simp only [cond_false]
      by_cases h3 : valF 0 (c :: r) = lim63
      ·rw [show decide (-(valF 0 (c :: r) : Int) = -9223372036854775808) = true from decide_eq_true (by rw [h3]; rfl), decide_eq_true (show lim63 - 1 < valF 0 (c :: r) by rw [h3]; decide)]
       exact ⟨0, rfl⟩
      ·rw [show decide (-(valF 0 (c :: r) : Int) = -9223372036854775808) = false from decide_eq_false (by unfold lim63 at h3; omega), decide_eq_false (show ¬ lim63 - 1 < valF 0 (c :: r) by unfold lim63 at *; omega)]
       exact ⟨_, rfl⟩
     ·simp only [cond_true]
      rw [decide_eq_false (show ¬ lim63 < valF 0 (c :: r) by omega)]
      exact ⟨_, rfl⟩
    ·have h1' : Z4_q28 (c :: r) 0 = some (Sum.inr (0, 4)) := h1
     rw [h1', Option.bind_some]
     have h3 : decide ((bif negB s then lim63 else lim63 - 1) < valF 0 (c :: r)) = true := decide_eq_true (by cases negB s <;> simp <;> omega)
     rw [h3]
     exact ⟨0, rfl⟩
  ·exact ⟨0, rfl⟩
end Go.Proofs
