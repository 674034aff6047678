import Derived.Test.YtnbbdamkdkhjkaaGreatV5
set_option maxRecDepth 100000
set_option maxHeartbeats 2000000
set_option linter.unusedVariables false
set_option linter.unusedSimpArgs false
namespace Go.Proofs
open Go Go.Ab
open AOps Cert AWp
def Z88 (a0 : TRef) : Option TRef := (Z86 a0).bind fun x4 => bif x4 then ((Z78 a0.FWraps).bind fun x7 => some (TRef.mk a0.FName x7)) else ((appC 8 (⟨false, [(1 : Int)]⟩ : Sl Int) a0.FWraps).bind fun x9 => some (TRef.mk a0.FName x9))
theorem Z88_walk {a0 : TRef}   {r : TRef} (hE : Z88 a0 = some r) (H : Heap)  : ACalls Tryz.prog 87 [.agg (TRef.c a0)] H fun v h' => v = .a (.agg (TRef.c r)) ∧ h' = H := by
 unfold Z88 at hE
 refine ACalls.of_wp (fn := Tryz.f87) (c := _) Tryz.tab_ok (fun _ _ => Tryz.call87 _ _) Tryz.func87 rfl (n := 18) rfl (rs := [.cell 2 67]) rfl rfl ?_
 refine seqK fun K1 hK1 => ?_
 refine region ?_
 refine s0 (boxV rfl) rfl ?_
 refine sL (allocLA (TK rfl) rfl) rfl ?_
 refine nil ?_
 refine hK1 _ ?_
 clear hK1 K1
 refine seqK fun K2 hK2 => ?_
 refine seqK fun K3 hK3 => ?_
 refine region ?_
 refine s0 (loadV (TK rfl) rfl rfl rfl) rfl ?_
 obtain ⟨x4, gx4, hE⟩ := bindO_some hE
 refine s0 (callP rfl rfl (fun H => Z86_walk gx4 H)) rfl ?_
 refine nil ?_
 refine hK3 _ ?_
 clear hK3 K3
 refine condE hE rfl (fun hc5 hE => ?_) (fun hc5 hE => ?_)
 ·refine seqK fun K6 hK6 => ?_
  refine AWp.draw rfl ?_
  refine DOps.s0 (fieldVA (TK rfl) rfl rfl (TK rfl) rfl rfl) rfl ?_
  refine DOps.s0 (loadV (TK rfl) rfl rfl rfl) rfl ?_
  refine DOps.s0 (fieldVA (TK rfl) rfl rfl (TK rfl) rfl rfl) rfl ?_
  refine DOps.s0 (loadV (TK rfl) rfl rfl rfl) rfl ?_
  obtain ⟨x7, gx7, hE⟩ := bindO_some hE
  refine DOps.s0 (callP rfl rfl (fun H => Z78_walk gx7 H)) rfl ?_
  refine DOps.s0 (build Tryz.tab_ok rfl rfl rfl rfl rfl rfl) rfl ?_
  refine DOps.sLn (storeLFA (TK rfl) rfl rfl rfl rfl rfl) ?_
  refine DOps.nil (by decide +kernel) ?_
  refine hK6 _ ?_
  clear hK6 K6
  refine AWp.ret ?_
  repeat (first | refine xBlock_ret ?_ | refine xThen_ret ?_)
  obtain rfl := Option.some.inj hE
  refine retQ.retF H rfl ⟨rfl, rfl⟩ ?_
  exact (fun _ _ h => h)
 refine AWp.skip ?_
 refine hK2 _ ?_
 clear hK2 K2
 refine seqK fun K8 hK8 => ?_
 refine AWp.draw rfl ?_
 refine DOps.s0 (fieldVA (TK rfl) rfl rfl (TK rfl) rfl rfl) rfl ?_
 refine DOps.s0 (loadV (TK rfl) rfl rfl rfl) rfl ?_
 refine DOps.s0 (buildSliceF (TK rfl) rfl (TK rfl) rfl rfl rfl rfl rfl rfl) rfl ?_
 refine DOps.s0 (fieldVA (TK rfl) rfl rfl (TK rfl) rfl rfl) rfl ?_
 refine DOps.s0 (loadV (TK rfl) rfl rfl rfl) rfl ?_
 obtain ⟨x9, gx9, hE⟩ := bindO_some hE
 refine DOps.s0 (appFM (f := (intE .i64)) (TK rfl) rfl (TK rfl) (TK rfl) ⟨_, rfl⟩ rfl rfl (by decide) rfl rfl rfl (by intro q h; cases h <;> decide) rfl rfl gx9) rfl ?_
 refine DOps.s0 (build Tryz.tab_ok rfl rfl rfl rfl rfl rfl) rfl ?_
 refine DOps.sLn (storeLFA (TK rfl) rfl rfl rfl rfl rfl) ?_
 refine DOps.nil (by decide +kernel) ?_
 refine hK8 _ ?_
 clear hK8 K8
 refine AWp.ret ?_
 repeat (first | refine xBlock_ret ?_ | refine xThen_ret ?_)
 obtain rfl := Option.some.inj hE
 refine retQ.retF H rfl ⟨rfl, rfl⟩ ?_
 exact (fun _ _ h => h)
def Z87 (a0 : Bs) : Option TRef := some (TRef.mk a0 (Sl.nil : Sl Int))
theorem Z87_walk {a0 : Bs}   {r : TRef} (hE : Z87 a0 = some r) (H : Heap)  : ACalls Tryz.prog 88 [.d (.str a0)] H fun v h' => v = .a (.agg (TRef.c r)) ∧ h' = H := by
 unfold Z87 at hE
 refine ACalls.of_wp (fn := Tryz.f88) (c := _) Tryz.tab_ok (fun _ _ => Tryz.call88 _ _) Tryz.func88 rfl (n := 5) rfl (rs := [.cell 2 67]) rfl rfl ?_
 refine seqK fun K1 hK1 => ?_
 refine region ?_
 refine sL (allocLA (TK rfl) rfl) rfl ?_
 refine nil ?_
 refine hK1 _ ?_
 clear hK1 K1
 refine seqK fun K2 hK2 => ?_
 refine region ?_
 refine s0 moveA rfl ?_
 refine s0 (build Tryz.tab_ok rfl rfl rfl rfl rfl rfl) rfl ?_
 refine sLn (storeLFA (TK rfl) rfl rfl rfl rfl rfl) ?_
 refine nil ?_
 refine hK2 _ ?_
 clear hK2 K2
 refine AWp.ret ?_
 repeat (first | refine xBlock_ret ?_ | refine xThen_ret ?_)
 obtain rfl := Option.some.inj hE
 refine retQ.retF H rfl ⟨rfl, rfl⟩ ?_
 exact (fun _ _ h => h)
def Z3 (a0 : TDoc) (a1 : Bs) (a2 : Bs) : Option (TRef × Bool) := (Z70 a0 a1).bind fun x4 => bif (!x4) then (some ((TRef.mk ([] : Bs) (Sl.nil : Sl Int)), false)) else (bif ((a2 == ([95, 95, 116, 121, 112, 101, 110, 97, 109, 101] : Bs))) then ((Z87 ([83, 116, 114, 105, 110, 103] : Bs)).bind fun x11 => (Z88 x11).bind fun x12 => some (x12, true)) else ((Z72 a0 a1).bind fun x14 => (Z71 x14.1 a2).bind fun x16 => bif (!x16.2) then (some ((TRef.mk ([] : Bs) (Sl.nil : Sl Int)), false)) else ((Z78 x16.1.FType.FWraps).bind fun x22 => some ((TRef.mk x16.1.FType.FName x22), true))))
theorem Z3_walk {a0 : TDoc} {a1 : Bs} {a2 : Bs}   {r : (TRef × Bool)} (hE : Z3 a0 a1 a2 = some r) (H : Heap)  : ACalls Tryz.prog 47 [.agg (TDoc.c a0), .d (.str a1), .d (.str a2)] H fun v h' => v = .tup [.agg (TRef.c r.1), .d (.bool r.2)] ∧ h' = H := by
 unfold Z3 at hE
 refine ACalls.of_wp (fn := Tryz.f47) (c := _) Tryz.tab_ok (fun _ _ => Tryz.call47 _ _) Tryz.func47 rfl (n := 44) rfl (rs := [.cell 6 67, .tmp 7]) rfl rfl ?_
 refine seqK fun K1 hK1 => ?_
 refine region ?_
 refine s0 (boxV rfl) rfl ?_
 refine sL (allocLA (TK rfl) rfl) rfl ?_
 refine s0 assignA rfl ?_
 refine nil ?_
 refine hK1 _ ?_
 clear hK1 K1
 refine seqK fun K2 hK2 => ?_
 refine seqK fun K3 hK3 => ?_
 refine region ?_
 refine s0 (loadV (TK rfl) rfl rfl rfl) rfl ?_
 refine s0 moveA rfl ?_
 obtain ⟨x4, gx4, hE⟩ := bindO_some hE
 refine s0 (callP rfl rfl (fun H => Z70_walk gx4 H)) rfl ?_
 refine s0 (notB rfl) rfl ?_
 refine nil ?_
 refine hK3 _ ?_
 clear hK3 K3
 refine condE hE rfl (fun hc5 hE => ?_) (fun hc5 hE => ?_)
 ·refine seqK fun K6 hK6 => ?_
  refine region ?_
  refine s0 (build Tryz.tab_ok rfl rfl rfl rfl rfl rfl) rfl ?_
  refine sLn (storeLFA (TK rfl) rfl rfl rfl rfl rfl) ?_
  refine s0 assignA rfl ?_
  refine nil ?_
  refine hK6 _ ?_
  clear hK6 K6
  refine AWp.ret ?_
  repeat (first | refine xBlock_ret ?_ | refine xThen_ret ?_)
  obtain rfl := Option.some.inj hE
  refine retQ.retF H rfl ⟨rfl, rfl⟩ ?_
  exact (fun _ _ h => h)
 refine AWp.skip ?_
 refine hK2 _ ?_
 clear hK2 K2
 refine seqK fun K7 hK7 => ?_
 refine seqK fun K8 hK8 => ?_
 refine region ?_
 refine s0 moveA rfl ?_
 refine s0 (binS rfl rfl rfl) rfl ?_
 refine nil ?_
 refine hK8 _ ?_
 clear hK8 K8
 refine condE hE rfl (fun hc9 hE => ?_) (fun hc9 hE => ?_)
 ·refine seqK fun K10 hK10 => ?_
  refine region ?_
  obtain ⟨x11, gx11, hE⟩ := bindO_some hE
  refine s0 (callP rfl rfl (fun H => Z87_walk gx11 H)) rfl ?_
  obtain ⟨x12, gx12, hE⟩ := bindO_some hE
  refine s0 (callP rfl rfl (fun H => Z88_walk gx12 H)) rfl ?_
  refine sLn (storeLFA (TK rfl) rfl rfl rfl rfl rfl) ?_
  refine s0 assignA rfl ?_
  refine nil ?_
  refine hK10 _ ?_
  clear hK10 K10
  refine AWp.ret ?_
  repeat (first | refine xBlock_ret ?_ | refine xThen_ret ?_)
  obtain rfl := Option.some.inj hE
  refine retQ.retF H rfl ⟨rfl, rfl⟩ ?_
  exact (fun _ _ h => h)
 refine AWp.skip ?_
 refine hK7 _ ?_
 clear hK7 K7
 refine seqK fun K13 hK13 => ?_
 refine region ?_
 refine s0 (loadV (TK rfl) rfl rfl rfl) rfl ?_
 refine s0 moveA rfl ?_
 obtain ⟨x14, gx14, hE⟩ := bindO_some hE
 refine s0 (callP rfl rfl (fun H => Z72_walk gx14 H)) rfl ?_
 refine s0 moveA rfl ?_
 refine s0 (extract rfl rfl) rfl ?_
 refine s0 (extract rfl rfl) rfl ?_
 refine sL (allocLA (TK rfl) rfl) rfl ?_
 refine sLn (storeLFA (TK rfl) rfl rfl rfl rfl rfl) ?_
 refine s0 assignA rfl ?_
 refine nil ?_
 refine hK13 _ ?_
 clear hK13 K13
 refine freezeA 8 _ rfl (Keeps.c (k := 2) (by conv => lhs; whnf) (by rfl) (Keeps.c (k := 6) (by conv => lhs; whnf) (by rfl) Keeps.nil)) ?_
 refine seqK fun K15 hK15 => ?_
 refine region ?_
 refine s0 (loadV (TK rfl) rfl rfl rfl) rfl ?_
 refine s0 moveA rfl ?_
 obtain ⟨x16, gx16, hE⟩ := bindO_some hE
 refine s0 (callP rfl rfl (fun H => Z71_walk gx16 H)) rfl ?_
 refine s0 moveA rfl ?_
 refine s0 (extract rfl rfl) rfl ?_
 refine s0 (extract rfl rfl) rfl ?_
 refine sL (allocLA (TK rfl) rfl) rfl ?_
 refine sLn (storeLFA (TK rfl) rfl rfl rfl rfl rfl) ?_
 refine s0 assignA rfl ?_
 refine nil ?_
 refine hK15 _ ?_
 clear hK15 K15
 refine freezeA 10 _ rfl (Keeps.c (k := 6) (by conv => lhs; whnf) (by rfl) (Keeps.c (k := 11) (by conv => lhs; whnf) (by rfl) Keeps.nil)) ?_
 refine seqK fun K17 hK17 => ?_
 refine seqK fun K18 hK18 => ?_
 refine region ?_
 refine s0 moveA rfl ?_
 refine s0 (notB rfl) rfl ?_
 refine nil ?_
 refine hK18 _ ?_
 clear hK18 K18
 refine condE hE rfl (fun hc19 hE => ?_) (fun hc19 hE => ?_)
 ·refine seqK fun K20 hK20 => ?_
  refine region ?_
  refine s0 (build Tryz.tab_ok rfl rfl rfl rfl rfl rfl) rfl ?_
  refine sLn (storeLFA (TK rfl) rfl rfl rfl rfl rfl) ?_
  refine s0 assignA rfl ?_
  refine nil ?_
  refine hK20 _ ?_
  clear hK20 K20
  refine AWp.ret ?_
  repeat (first | refine xBlock_ret ?_ | refine xThen_ret ?_)
  obtain rfl := Option.some.inj hE
  refine retQ.retF H rfl ⟨rfl, rfl⟩ ?_
  exact (fun _ _ h => h)
 refine AWp.skip ?_
 refine hK17 _ ?_
 clear hK17 K17
 refine seqK fun K21 hK21 => ?_
 refine AWp.draw rfl ?_
 refine DOps.s0 (fieldVA (TK rfl) rfl rfl (TK rfl) rfl rfl) rfl ?_
 refine DOps.s0 (fieldVA (TK rfl) rfl rfl (TK rfl) rfl rfl) rfl ?_
 refine DOps.s0 (loadV (TK rfl) rfl rfl rfl) rfl ?_
 refine DOps.s0 (fieldVA (TK rfl) rfl rfl (TK rfl) rfl rfl) rfl ?_
 refine DOps.s0 (fieldVA (TK rfl) rfl rfl (TK rfl) rfl rfl) rfl ?_
 refine DOps.s0 (loadV (TK rfl) rfl rfl rfl) rfl ?_
 obtain ⟨x22, gx22, hE⟩ := bindO_some hE
 refine DOps.s0 (callP rfl rfl (fun H => Z78_walk gx22 H)) rfl ?_
 refine DOps.s0 (build Tryz.tab_ok rfl rfl rfl rfl rfl rfl) rfl ?_
 refine DOps.sLn (storeLFA (TK rfl) rfl rfl rfl rfl rfl) ?_
 refine DOps.s0 assignA rfl ?_
 refine DOps.nil (by decide +kernel) ?_
 refine hK21 _ ?_
 clear hK21 K21
 refine AWp.ret ?_
 repeat (first | refine xBlock_ret ?_ | refine xThen_ret ?_)
 obtain rfl := Option.some.inj hE
 refine retQ.retF H rfl ⟨rfl, rfl⟩ ?_
 exact (fun _ _ h => h)
def Z96_j14 (x3 : (TRef × Bool))  (y15_c0 : Usage_recorder) : Option (Bs × Usage_recorder) := some (x3.1.FName, y15_c0)
def Z96_j25 (s54_20 : Nat) (k_next_19 : Nat → Usage_recorder → Option (Bs × Usage_recorder)) (y26_c0 : Usage_recorder) : Option (Bs × Usage_recorder) := k_next_19 (s54_20 + 1) y26_c0
def Z96_l19 (a1 : TSel) (a2 : Bs) (x3 : (TRef × Bool)) (x13 : (TField × Bool))  : Nat → Nat → Usage_recorder → Option (Bs × Usage_recorder)
 | 0, _, _ => none
 | n19 + 1, s54_20, y21_c0 => bif (decide (((s54_20 : Nat) : Int) < ((a1.FArgs.l.length : Nat) : Int))) then ((a1.FArgs.l[s54_20]?).bind fun x28 => (Z73 x13.1.FArgs x28.FName).bind fun x30 => bif x30.2 then ((Z98 y21_c0 a2 a1.FName x28.FName).bind fun x34 => (Z99 x34 x28.FValue x30.1.FType).bind fun x35 => Z96_j25 s54_20 ((Z96_l19 a1 a2 x3 x13 n19)) x35) else (Z96_j25 s54_20 ((Z96_l19 a1 a2 x3 x13 n19)) y21_c0)) else (Z96_j14 x3  y21_c0)
def Z96 (a0 : Usage_recorder) (a1 : TSel) (a2 : Bs) : Option (Bs × Usage_recorder) := (Z3 a0.Fd a2 a1.FName).bind fun x3 => bif (!x3.2) then (some (([] : Bs), a0)) else ((Z98 a0 a2 a1.FName ([] : Bs)).bind fun x9 => (Z72 x9.Fd a2).bind fun x11 => (Z71 x11.1 a1.FName).bind fun x13 => Z96_l19 a1 a2 x3 x13 (a1.FArgs.l.length + 1) 0 x9)
theorem Z96_walk {a0 : Usage_recorder} {a1 : TSel} {a2 : Bs}  {c0 : Nat} {c0_2 : Nat} {r : (Bs × Usage_recorder)} (hE : Z96 a0 a1 a2 = some r) (H : Heap) (hc0 : H c0 = some (.cells (Usage_recorder.cg (some c0_2) a0))) (ht0_2 : H c0_2 = some (.tok 4 a0.Fout.l.length)) : ACalls Tryz.prog 60 [.d (.ptr c0 0), .agg (TSel.c a1), .d (.str a2)] H fun v h' => v = .a (.d (.str r.1)) ∧ h' = ((H.set c0_2 (some (.tok 4 r.2.Fout.l.length))).set c0 (some (.cells (Usage_recorder.cg (some c0_2) r.2)))) := by
 unfold Z96 at hE
 refine ACalls.of_wp (fn := Tryz.f60) (c := _) Tryz.tab_ok (fun _ _ => Tryz.call60 _ _) Tryz.func60 rfl (n := 83) rfl (rs := [.tmp 6]) rfl rfl ?_
 have ne_c0_c0_2 : c0 ≠ c0_2 := fun e_ => by subst e_; simp_all
 refine AWp.heqA (h' := ((H.set c0_2 (some (.tok 4 a0.Fout.l.length))).set c0 (some (.cells (Usage_recorder.cg (some c0_2) a0))))) (by funext n_; simp only [Heap.set]; (repeat' split) <;> simp_all) ?_
 refine seqK fun K1 hK1 => ?_
 refine region ?_
 refine s0 (boxV rfl) rfl ?_
 refine s0 assignA rfl ?_
 refine nil ?_
 refine hK1 _ ?_
 clear hK1 K1
 refine seqK fun K2 hK2 => ?_
 refine AWp.draw rfl ?_
 refine DOps.s0 moveA rfl ?_
 refine DOps.s0 (nilP rfl) rfl ?_
 refine DOps.s0 (fieldP (TK rfl) rfl rfl (TK rfl) rfl rfl) rfl ?_
 refine DOps.s0 (loadP (TK rfl) rfl rfl hpG rfl) rfl ?_
 refine DOps.s0 moveA rfl ?_
 refine DOps.s0 (fieldVA (TK rfl) rfl rfl (TK rfl) rfl rfl) rfl ?_
 refine DOps.s0 (loadV (TK rfl) rfl rfl rfl) rfl ?_
 obtain ⟨x3, gx3, hE⟩ := bindO_some hE
 refine DOps.s0 (callP rfl rfl (fun H => Z3_walk gx3 H)) rfl ?_
 refine DOps.s0 moveA rfl ?_
 refine DOps.s0 (extract rfl rfl) rfl ?_
 refine DOps.s0 (extract rfl rfl) rfl ?_
 refine DOps.sL (allocLA (TK rfl) rfl) rfl ?_
 refine DOps.sLn (storeLFA (TK rfl) rfl rfl rfl rfl rfl) ?_
 refine DOps.s0 assignA rfl ?_
 refine DOps.nil (by decide +kernel) ?_
 refine hK2 _ ?_
 clear hK2 K2
 refine freezeA 7 _ rfl (Keeps.c (k := 0) (by conv => lhs; whnf) (by rfl) (Keeps.c (k := 2) (by conv => lhs; whnf) (by rfl) (Keeps.c (k := 4) (by conv => lhs; whnf) (by rfl) (Keeps.c (k := 8) (by conv => lhs; whnf) (by rfl) Keeps.nil)))) ?_
 refine seqK fun K4 hK4 => ?_
 refine seqK fun K5 hK5 => ?_
 refine region ?_
 refine s0 moveA rfl ?_
 refine s0 (notB rfl) rfl ?_
 refine nil ?_
 refine hK5 _ ?_
 clear hK5 K5
 refine condE hE rfl (fun hc6 hE => ?_) (fun hc6 hE => ?_)
 ·refine seqK fun K7 hK7 => ?_
  refine region ?_
  refine s0 assignA rfl ?_
  refine nil ?_
  refine hK7 _ ?_
  clear hK7 K7
  refine AWp.ret ?_
  repeat (first | refine xBlock_ret ?_ | refine xThen_ret ?_)
  obtain rfl := Option.some.inj hE
  refine retQ.retF ((H.set c0_2 (some (.tok 4 a0.Fout.l.length))).set c0 (some (.cells (Usage_recorder.cg (some c0_2) a0)))) rfl ⟨rfl, rfl⟩ ?_
  exact (fun _ _ h => h)
 refine AWp.skip ?_
 refine hK4 _ ?_
 clear hK4 K4
 refine seqK fun K8 hK8 => ?_
 refine region ?_
 refine s0 moveA rfl ?_
 refine s0 moveA rfl ?_
 refine s0 (fieldVA (TK rfl) rfl rfl (TK rfl) rfl rfl) rfl ?_
 refine s0 (loadV (TK rfl) rfl rfl rfl) rfl ?_
 obtain ⟨x9, gx9, hE⟩ := bindO_some hE
 refine sH (callH rfl rfl (Z98_walk gx9 _ hpG hpG)) rfl ?_
 refine AOps.heq (h' := ((H.set c0_2 (some (.tok 4 x9.Fout.l.length))).set c0 (some (.cells (Usage_recorder.cg (some c0_2) x9))))) (by first | rfl | (rw [Heap.set_set]; rfl) | (funext n_; simp only [Heap.set]; (repeat' split) <;> first | rfl | (exfalso; simp_all; done) | (simp_all; done))) ?_
 refine nil ?_
 refine hK8 _ ?_
 clear hK8 K8
 refine seqK fun K10 hK10 => ?_
 refine region ?_
 refine s0 moveA rfl ?_
 refine s0 (nilP rfl) rfl ?_
 refine s0 (fieldP (TK rfl) rfl rfl (TK rfl) rfl rfl) rfl ?_
 refine s0 (loadP (TK rfl) rfl rfl hpG rfl) rfl ?_
 refine s0 moveA rfl ?_
 obtain ⟨x11, gx11, hE⟩ := bindO_some hE
 refine s0 (callP rfl rfl (fun H => Z72_walk gx11 H)) rfl ?_
 refine s0 moveA rfl ?_
 refine s0 (extract rfl rfl) rfl ?_
 refine s0 (extract rfl rfl) rfl ?_
 refine sL (allocLA (TK rfl) rfl) rfl ?_
 refine sLn (storeLFA (TK rfl) rfl rfl rfl rfl rfl) ?_
 refine s0 assignA rfl ?_
 refine nil ?_
 refine hK10 _ ?_
 clear hK10 K10
 refine freezeA 9 _ rfl (Keeps.c (k := 0) (by conv => lhs; whnf) (by rfl) (Keeps.c (k := 2) (by conv => lhs; whnf) (by rfl) (Keeps.c (k := 4) (by conv => lhs; whnf) (by rfl) (Keeps.c (k := 7) (by conv => lhs; whnf) (by rfl) Keeps.nil)))) ?_
 refine seqK fun K12 hK12 => ?_
 refine region ?_
 refine s0 (loadV (TK rfl) rfl rfl rfl) rfl ?_
 refine s0 (fieldVA (TK rfl) rfl rfl (TK rfl) rfl rfl) rfl ?_
 refine s0 (loadV (TK rfl) rfl rfl rfl) rfl ?_
 obtain ⟨x13, gx13, hE⟩ := bindO_some hE
 refine s0 (callP rfl rfl (fun H => Z71_walk gx13 H)) rfl ?_
 refine s0 moveA rfl ?_
 refine s0 (extract rfl rfl) rfl ?_
 refine s0 (extract rfl rfl) rfl ?_
 refine sL (allocLA (TK rfl) rfl) rfl ?_
 refine sLn (storeLFA (TK rfl) rfl rfl rfl rfl rfl) ?_
 refine s0 assignA rfl ?_
 refine nil ?_
 refine hK12 _ ?_
 clear hK12 K12
 refine freezeA 11 _ rfl (Keeps.c (k := 0) (by conv => lhs; whnf) (by rfl) (Keeps.c (k := 2) (by conv => lhs; whnf) (by rfl) (Keeps.c (k := 4) (by conv => lhs; whnf) (by rfl) (Keeps.c (k := 7) (by conv => lhs; whnf) (by rfl) Keeps.nil)))) ?_
 refine seqJH (KeepsT.A (k := 7) KeepsT.nil) (fun (z : Usage_recorder) => []) (fun z => ((H.set c0_2 (some (.tok 4 z.Fout.l.length))).set c0 (some (.cells (Usage_recorder.cg (some c0_2) z))))) (fun z => Z96_j14 x3 z = some r) ?_ ?_
 ·intro K14 hK14
  refine seqK fun K17 hK17 => ?_
  refine region ?_
  refine s0 (fieldVA (TK rfl) rfl rfl (TK rfl) rfl rfl) rfl ?_
  refine s0 (loadV (TK rfl) rfl rfl rfl) rfl ?_
  refine sLen (f := TArg.c) (s := a1.FArgs) (TK rfl) rfl rfl rfl rfl fun hL18 => ?_
  refine s0 moveA rfl ?_
  refine nil ?_
  refine hK17 _ ?_
  clear hK17 K17
  refine block ?_
  refine loopH (KeepsT.A (k := 0) (KeepsT.A (k := 2) (KeepsT.A (k := 4) (KeepsT.A (k := 7) (KeepsT.A (k := 11) (KeepsT.A (k := 52) (KeepsT.A (k := 53) KeepsT.nil))))))) (fun (z : Nat × Nat × Usage_recorder) => [(54, .a (.d (.int .i64 ((z.2.1 : Nat) : Int))))]) (fun z => ((H.set c0_2 (some (.tok 4 z.2.2.Fout.l.length))).set c0 (some (.cells (Usage_recorder.cg (some c0_2) z.2.2))))) (fun z => z.1) (fun z => Z96_l19 a1 a2 x3 x13 z.1 z.2.1 z.2.2 = some r) ((a1.FArgs.l.length + 1), 0, x9) hE Weak.toA ?_
  rintro ⟨n19, s54_20, y21_c0⟩ hE K19 hK19
  try dsimp only at hE
  cases n19 with
  | zero => cases hE
  | succ n19 =>
    rw [Z96_l19] at hE
    refine seqK fun K22 hK22 => ?_
    refine region ?_
    refine s0 (binI rfl rfl rfl) rfl ?_
    refine nil ?_
    refine hK22 _ ?_
    clear hK22 K22
    refine seqK fun K23 hK23 => ?_
    refine condE hE rfl (fun hc24 hE => ?_) (fun hc24 hE => ?_)
    ·try dsimp only at hc24
     have hf24 := of_decide_eq_true hc24
     refine AWp.skip ?_
     refine hK23 _ ?_
     clear hK23 K23
     refine seqJH (KeepsT.A (k := 0) (KeepsT.A (k := 2) (KeepsT.A (k := 4) (KeepsT.A (k := 7) (KeepsT.A (k := 11) (KeepsT.A (k := 52) (KeepsT.A (k := 53) (KeepsT.A (k := 54) KeepsT.nil)))))))) (fun (z : Usage_recorder) => []) (fun z => ((H.set c0_2 (some (.tok 4 z.Fout.l.length))).set c0 (some (.cells (Usage_recorder.cg (some c0_2) z))))) (fun z => Z96_j25 s54_20 ((Z96_l19 a1 a2 x3 x13 n19)) z = some r) ?_ ?_
     ·intro K25 hK25
      refine block ?_
      refine seqK fun K27 hK27 => ?_
      refine region ?_
      obtain ⟨x28, gx28, hE⟩ := bindO_some hE
      refine s0 (idxMn (f := TArg.c) (n := s54_20) (TK rfl) rfl (TK rfl) rfl rfl rfl gx28) rfl ?_
      refine s0 (loadV (TK rfl) rfl rfl rfl) rfl ?_
      refine sL (allocLA (TK rfl) rfl) rfl ?_
      refine sLn (storeLFA (TK rfl) rfl rfl rfl rfl rfl) ?_
      refine nil ?_
      refine hK27 _ ?_
      clear hK27 K27
      refine freezeA 14 _ rfl (Keeps.c (k := 0) (by conv => lhs; whnf) (by rfl) (Keeps.c (k := 2) (by conv => lhs; whnf) (by rfl) (Keeps.c (k := 4) (by conv => lhs; whnf) (by rfl) (Keeps.c (k := 7) (by conv => lhs; whnf) (by rfl) (Keeps.c (k := 11) (by conv => lhs; whnf) (by rfl) (Keeps.c (k := 52) (by conv => lhs; whnf) (by rfl) (Keeps.c (k := 53) (by conv => lhs; whnf) (by rfl) (Keeps.c (k := 54) (by conv => lhs; whnf) (by rfl) Keeps.nil)))))))) ?_
      refine seqK fun K29 hK29 => ?_
      refine region ?_
      refine s0 (fieldVA (TK rfl) rfl rfl (TK rfl) rfl rfl) rfl ?_
      refine s0 (loadV (TK rfl) rfl rfl rfl) rfl ?_
      refine s0 (fieldVA (TK rfl) rfl rfl (TK rfl) rfl rfl) rfl ?_
      refine s0 (loadV (TK rfl) rfl rfl rfl) rfl ?_
      obtain ⟨x30, gx30, hE⟩ := bindO_some hE
      refine s0 (callP rfl rfl (fun H => Z73_walk gx30 H)) rfl ?_
      refine s0 moveA rfl ?_
      refine s0 (extract rfl rfl) rfl ?_
      refine s0 (extract rfl rfl) rfl ?_
      refine sL (allocLA (TK rfl) rfl) rfl ?_
      refine sLn (storeLFA (TK rfl) rfl rfl rfl rfl rfl) ?_
      refine s0 assignA rfl ?_
      refine nil ?_
      refine hK29 _ ?_
      clear hK29 K29
      refine freezeA 15 _ rfl (Keeps.c (k := 0) (by conv => lhs; whnf) (by rfl) (Keeps.c (k := 2) (by conv => lhs; whnf) (by rfl) (Keeps.c (k := 4) (by conv => lhs; whnf) (by rfl) (Keeps.c (k := 7) (by conv => lhs; whnf) (by rfl) (Keeps.c (k := 11) (by conv => lhs; whnf) (by rfl) (Keeps.c (k := 14) (by conv => lhs; whnf) (by rfl) (Keeps.c (k := 16) (by conv => lhs; whnf) (by rfl) (Keeps.c (k := 52) (by conv => lhs; whnf) (by rfl) (Keeps.c (k := 53) (by conv => lhs; whnf) (by rfl) (Keeps.c (k := 54) (by conv => lhs; whnf) (by rfl) Keeps.nil)))))))))) ?_
      refine seqK fun K31 hK31 => ?_
      refine region ?_
      refine s0 moveA rfl ?_
      refine nil ?_
      refine hK31 _ ?_
      clear hK31 K31
      refine condE hE rfl (fun hc32 hE => ?_) (fun hc32 hE => ?_)
      ·refine seqK fun K33 hK33 => ?_
       refine region ?_
       refine s0 moveA rfl ?_
       refine s0 moveA rfl ?_
       refine s0 (fieldVA (TK rfl) rfl rfl (TK rfl) rfl rfl) rfl ?_
       refine s0 (loadV (TK rfl) rfl rfl rfl) rfl ?_
       refine s0 (fieldVA (TK rfl) rfl rfl (TK rfl) rfl rfl) rfl ?_
       refine s0 (loadV (TK rfl) rfl rfl rfl) rfl ?_
       obtain ⟨x34, gx34, hE⟩ := bindO_some hE
       refine sH (callH rfl rfl (Z98_walk gx34 _ hpG hpG)) rfl ?_
       refine AOps.heq (h' := ((H.set c0_2 (some (.tok 4 x34.Fout.l.length))).set c0 (some (.cells (Usage_recorder.cg (some c0_2) x34))))) (by first | rfl | (rw [Heap.set_set]; rfl) | (funext n_; simp only [Heap.set]; (repeat' split) <;> first | rfl | (exfalso; simp_all; done) | (simp_all; done))) ?_
       refine nil ?_
       refine hK33 _ ?_
       clear hK33 K33
       refine region ?_
       refine s0 moveA rfl ?_
       refine s0 (fieldVA (TK rfl) rfl rfl (TK rfl) rfl rfl) rfl ?_
       refine s0 (loadV (TK rfl) rfl rfl rfl) rfl ?_
       refine s0 (fieldVA (TK rfl) rfl rfl (TK rfl) rfl rfl) rfl ?_
       refine s0 (loadV (TK rfl) rfl rfl rfl) rfl ?_
       obtain ⟨x35, gx35, hE⟩ := bindO_some hE
       refine sH (callH rfl rfl (Z99_walk gx35 _ hpG hpG)) rfl ?_
       refine AOps.heq (h' := ((H.set c0_2 (some (.tok 4 x35.Fout.l.length))).set c0 (some (.cells (Usage_recorder.cg (some c0_2) x35))))) (by first | rfl | (rw [Heap.set_set]; rfl) | (funext n_; simp only [Heap.set]; (repeat' split) <;> first | rfl | (exfalso; simp_all; done) | (simp_all; done))) ?_
       refine nil ?_
       exact hK25 _ x35 Weak.toA hE
      refine AWp.skip ?_
      exact hK25 _ y21_c0 Weak.toA hE
     rintro y26_c0 hE
     try dsimp only at hE
     unfold Z96_j25 at hE
     refine region ?_
     refine s0 (addIA rfl rfl) rfl ?_
     refine s0 moveA rfl ?_
     refine nil ?_
     exact hK19 _ (n19, (s54_20 + 1), y26_c0) Weak.toA hE (Nat.lt_succ_self _)
    refine AWp.exit ?_
    exact hK14 _ y21_c0 Weak.toA hE
 rintro y15_c0 hE
 try dsimp only at hE
 unfold Z96_j14 at hE
 refine seqK fun K16 hK16 => ?_
 refine region ?_
 refine s0 (fieldVA (TK rfl) rfl rfl (TK rfl) rfl rfl) rfl ?_
 refine s0 (loadV (TK rfl) rfl rfl rfl) rfl ?_
 refine s0 assignA rfl ?_
 refine nil ?_
 refine hK16 _ ?_
 clear hK16 K16
 refine AWp.ret ?_
 repeat (first | refine xBlock_ret ?_ | refine xThen_ret ?_)
 obtain rfl := Option.some.inj hE
 refine retQ.retF ((H.set c0_2 (some (.tok 4 y15_c0.Fout.l.length))).set c0 (some (.cells (Usage_recorder.cg (some c0_2) y15_c0)))) rfl ⟨rfl, rfl⟩ ?_
 exact (fun _ _ h => h)
def Z97_j9 (s11_4 : Nat) (k_next_3 : Nat → Usage_recorder → Option Usage_recorder) (y10_c0 : Usage_recorder) : Option Usage_recorder := k_next_3 (s11_4 + 1) y10_c0
def Z97_j19 (s11_4 : Nat) (x12 : TSel) (k_next_3 : Nat → Usage_recorder → Option Usage_recorder) (k_rec_25 : Usage_recorder → (Sl TSel) → Bs → Option Usage_recorder) (s8_20 : Bs) (y21_c0 : Usage_recorder) : Option Usage_recorder := (k_rec_25 y21_c0 x12.FSels s8_20).bind fun x22 => Z97_j9 s11_4 k_next_3 x22
def Z97_l3 (a1 : (Sl TSel)) (a2 : Bs) (k_rec_25 : Usage_recorder → (Sl TSel) → Bs → Option Usage_recorder) : Nat → Nat → Usage_recorder → Option Usage_recorder
 | 0, _, _ => none
 | n3 + 1, s11_4, y5_c0 => bif (decide (((s11_4 : Nat) : Int) < ((a1.l.length : Nat) : Int))) then ((a1.l[s11_4]?).bind fun x12 => bif (decide (x12.FKind = (2 : Int))) then (Z97_j9 s11_4 ((Z97_l3 a1 a2 k_rec_25 n3)) y5_c0) else (bif (decide (x12.FKind = (3 : Int))) then (bif (!(x12.FOn == ([] : Bs))) then ((Z95 y5_c0 x12.FOn).bind fun x26 => Z97_j19 s11_4 x12 ((Z97_l3 a1 a2 k_rec_25 n3)) k_rec_25 x12.FOn x26) else (Z97_j19 s11_4 x12 ((Z97_l3 a1 a2 k_rec_25 n3)) k_rec_25 a2 y5_c0)) else ((Z96 y5_c0 x12 a2).bind fun x27 => (k_rec_25 x27.2 x12.FSels x27.1).bind fun x28 => Z97_j9 s11_4 ((Z97_l3 a1 a2 k_rec_25 n3)) x28))) else (some y5_c0)
def Z97_n : Nat → Usage_recorder → (Sl TSel) → Bs → Option Usage_recorder
 | 0, _, _, _ => none
 | n + 1, a0, a1, a2 => Z97_l3 a1 a2 (Z97_n n) (a1.l.length + 1) 0 a0
theorem Z97_step (n : Nat) (ih_25 : ∀ {a0 : Usage_recorder} {a1 : (Sl TSel)} {a2 : Bs} {w1 : Option Nat} {c0 : Nat} {c0_2 : Nat} {r : Usage_recorder}, Z97_n n a0 a1 a2 = some r → ∀ (H : Heap) (hc0 : H c0 = some (.cells (Usage_recorder.cg (some c0_2) a0))) (ht0_2 : H c0_2 = some (.tok 4 a0.Fout.l.length)), ACalls Tryz.prog 25 [.d (.ptr c0 0), .d (Sl.d 7 TSel.c w1 a1), .d (.str a2)] H fun v h' => v = .tup [] ∧ h' = ((H.set c0_2 (some (.tok 4 r.Fout.l.length))).set c0 (some (.cells (Usage_recorder.cg (some c0_2) r))))) : ∀ {a0 : Usage_recorder} {a1 : (Sl TSel)} {a2 : Bs} {w1 : Option Nat} {c0 : Nat} {c0_2 : Nat} {r : Usage_recorder}, Z97_n (n + 1) a0 a1 a2 = some r → ∀ (H : Heap) (hc0 : H c0 = some (.cells (Usage_recorder.cg (some c0_2) a0))) (ht0_2 : H c0_2 = some (.tok 4 a0.Fout.l.length)), ACalls Tryz.prog 25 [.d (.ptr c0 0), .d (Sl.d 7 TSel.c w1 a1), .d (.str a2)] H fun v h' => v = .tup [] ∧ h' = ((H.set c0_2 (some (.tok 4 r.Fout.l.length))).set c0 (some (.cells (Usage_recorder.cg (some c0_2) r)))) := by
 intro a0 a1 a2 w1 c0 c0_2 r hE H hc0 ht0_2
 rw [Z97_n] at hE
 refine ACalls.of_wp (fn := Tryz.f25) (c := _) Tryz.tab_ok (fun _ _ => Tryz.call25 _ _) Tryz.func25 rfl (n := 45) rfl (rs := []) rfl rfl ?_
 have ne_c0_c0_2 : c0 ≠ c0_2 := fun e_ => by subst e_; simp_all
 refine AWp.heqA (h' := ((H.set c0_2 (some (.tok 4 a0.Fout.l.length))).set c0 (some (.cells (Usage_recorder.cg (some c0_2) a0))))) (by funext n_; simp only [Heap.set]; (repeat' split) <;> simp_all) ?_
 refine seqK fun K1 hK1 => ?_
 refine region ?_
 refine s0 moveA rfl ?_
 refine sLen (f := TSel.c) (s := a1) (TK rfl) rfl rfl rfl rfl fun hL2 => ?_
 refine s0 moveA rfl ?_
 refine nil ?_
 refine hK1 _ ?_
 clear hK1 K1
 refine block ?_
 refine loopH (KeepsT.A (k := 0) (KeepsT.A (k := 2) (KeepsT.A (k := 9) (KeepsT.A (k := 10) KeepsT.nil)))) (fun (z : Nat × Nat × Usage_recorder) => [(11, .a (.d (.int .i64 ((z.2.1 : Nat) : Int))))]) (fun z => ((H.set c0_2 (some (.tok 4 z.2.2.Fout.l.length))).set c0 (some (.cells (Usage_recorder.cg (some c0_2) z.2.2))))) (fun z => z.1) (fun z => Z97_l3 a1 a2 (Z97_n n) z.1 z.2.1 z.2.2 = some r) ((a1.l.length + 1), 0, a0) hE Weak.toA ?_
 rintro ⟨n3, s11_4, y5_c0⟩ hE K3 hK3
 try dsimp only at hE
 cases n3 with
 | zero => cases hE
 | succ n3 =>
   rw [Z97_l3] at hE
   refine seqK fun K6 hK6 => ?_
   refine region ?_
   refine s0 (binI rfl rfl rfl) rfl ?_
   refine nil ?_
   refine hK6 _ ?_
   clear hK6 K6
   refine seqK fun K7 hK7 => ?_
   refine condE hE rfl (fun hc8 hE => ?_) (fun hc8 hE => ?_)
   ·try dsimp only at hc8
    have hf8 := of_decide_eq_true hc8
    refine AWp.skip ?_
    refine hK7 _ ?_
    clear hK7 K7
    refine seqJH (KeepsT.A (k := 0) (KeepsT.A (k := 2) (KeepsT.A (k := 9) (KeepsT.A (k := 10) (KeepsT.A (k := 11) KeepsT.nil))))) (fun (z : Usage_recorder) => []) (fun z => ((H.set c0_2 (some (.tok 4 z.Fout.l.length))).set c0 (some (.cells (Usage_recorder.cg (some c0_2) z))))) (fun z => Z97_j9 s11_4 ((Z97_l3 a1 a2 (Z97_n n) n3)) z = some r) ?_ ?_
    ·intro K9 hK9
     refine block ?_
     refine seqK fun K11 hK11 => ?_
     refine region ?_
     obtain ⟨x12, gx12, hE⟩ := bindO_some hE
     refine s0 (idxMn (f := TSel.c) (n := s11_4) (TK rfl) rfl (TK rfl) rfl rfl rfl gx12) rfl ?_
     refine s0 (loadV (TK rfl) rfl rfl rfl) rfl ?_
     refine sL (allocLA (TK rfl) rfl) rfl ?_
     refine sLn (storeLFA (TK rfl) rfl rfl rfl rfl rfl) ?_
     refine nil ?_
     refine hK11 _ ?_
     clear hK11 K11
     refine freezeA 7 _ rfl (Keeps.c (k := 0) (by conv => lhs; whnf) (by rfl) (Keeps.c (k := 2) (by conv => lhs; whnf) (by rfl) (Keeps.c (k := 9) (by conv => lhs; whnf) (by rfl) (Keeps.c (k := 10) (by conv => lhs; whnf) (by rfl) (Keeps.c (k := 11) (by conv => lhs; whnf) (by rfl) Keeps.nil))))) ?_
     refine seqK fun K13 hK13 => ?_
     refine region ?_
     refine s0 (fieldVA (TK rfl) rfl rfl (TK rfl) rfl rfl) rfl ?_
     refine s0 (loadV (TK rfl) rfl rfl rfl) rfl ?_
     refine nil ?_
     refine hK13 _ ?_
     clear hK13 K13
     refine block ?_
     refine seqK fun K14 hK14 => ?_
     refine region ?_
     refine s0 (binI rfl rfl rfl) rfl ?_
     refine s0 assignA rfl ?_
     refine nil ?_
     refine hK14 _ ?_
     clear hK14 K14
     refine condE hE rfl (fun hc15 hE => ?_) (fun hc15 hE => ?_)
     ·refine AWp.skip ?_
      exact hK9 _ y5_c0 Weak.toA hE
     refine seqK fun K16 hK16 => ?_
     refine region ?_
     refine s0 (binI rfl rfl rfl) rfl ?_
     refine s0 assignA rfl ?_
     refine nil ?_
     refine hK16 _ ?_
     clear hK16 K16
     refine condE hE rfl (fun hc17 hE => ?_) (fun hc17 hE => ?_)
     ·refine seqK fun K18 hK18 => ?_
      refine region ?_
      refine s0 moveA rfl ?_
      refine s0 assignA rfl ?_
      refine nil ?_
      refine hK18 _ ?_
      clear hK18 K18
      refine seqJH (KeepsT.A (k := 0) (KeepsT.A (k := 2) (KeepsT.A (k := 7) (KeepsT.A (k := 9) (KeepsT.A (k := 10) (KeepsT.A (k := 11) KeepsT.nil)))))) (fun (z : Bs × Usage_recorder) => [(8, .a (.d (.str z.1)))]) (fun z => ((H.set c0_2 (some (.tok 4 z.2.Fout.l.length))).set c0 (some (.cells (Usage_recorder.cg (some c0_2) z.2))))) (fun z => Z97_j19 s11_4 x12 ((Z97_l3 a1 a2 (Z97_n n) n3)) (Z97_n n) z.1 z.2 = some r) ?_ ?_
      ·intro K19 hK19
       refine seqK fun K23 hK23 => ?_
       refine region ?_
       refine s0 (fieldVA (TK rfl) rfl rfl (TK rfl) rfl rfl) rfl ?_
       refine s0 (loadV (TK rfl) rfl rfl rfl) rfl ?_
       refine s0 (binS rfl rfl rfl) rfl ?_
       refine nil ?_
       refine hK23 _ ?_
       clear hK23 K23
       refine condE hE rfl (fun hc24 hE => ?_) (fun hc24 hE => ?_)
       ·refine seqK fun K25 hK25 => ?_
        refine region ?_
        refine s0 (fieldVA (TK rfl) rfl rfl (TK rfl) rfl rfl) rfl ?_
        refine s0 (loadV (TK rfl) rfl rfl rfl) rfl ?_
        refine s0 assignA rfl ?_
        refine nil ?_
        refine hK25 _ ?_
        clear hK25 K25
        refine region ?_
        refine s0 moveA rfl ?_
        refine s0 (fieldVA (TK rfl) rfl rfl (TK rfl) rfl rfl) rfl ?_
        refine s0 (loadV (TK rfl) rfl rfl rfl) rfl ?_
        obtain ⟨x26, gx26, hE⟩ := bindO_some hE
        refine sH (callH rfl rfl (Z95_walk gx26 _ hpG hpG)) rfl ?_
        refine AOps.heq (h' := ((H.set c0_2 (some (.tok 4 x26.Fout.l.length))).set c0 (some (.cells (Usage_recorder.cg (some c0_2) x26))))) (by first | rfl | (rw [Heap.set_set]; rfl) | (funext n_; simp only [Heap.set]; (repeat' split) <;> first | rfl | (exfalso; simp_all; done) | (simp_all; done))) ?_
        refine nil ?_
        exact hK19 _ (x12.FOn, x26) Weak.toA hE
       refine AWp.skip ?_
       exact hK19 _ (a2, y5_c0) Weak.toA hE
      rintro ⟨s8_20, y21_c0⟩ hE
      try dsimp only at hE
      unfold Z97_j19 at hE
      refine region ?_
      refine s0 moveA rfl ?_
      refine s0 (fieldVA (TK rfl) rfl rfl (TK rfl) rfl rfl) rfl ?_
      refine s0 (loadV (TK rfl) rfl rfl (congrArg (fun x => some (A.d x)) (TSel.FSelsD_eq _))) rfl ?_
      refine s0 moveA rfl ?_
      obtain ⟨x22, gx22, hE⟩ := bindO_some hE
      refine sH (callH rfl rfl (ih_25 gx22 _ hpG hpG)) rfl ?_
      refine AOps.heq (h' := ((H.set c0_2 (some (.tok 4 x22.Fout.l.length))).set c0 (some (.cells (Usage_recorder.cg (some c0_2) x22))))) (by first | rfl | (rw [Heap.set_set]; rfl) | (funext n_; simp only [Heap.set]; (repeat' split) <;> first | rfl | (exfalso; simp_all; done) | (simp_all; done))) ?_
      refine nil ?_
      exact hK9 _ x22 Weak.toA hE
     refine AWp.draw rfl ?_
     refine DOps.s0 moveA rfl ?_
     refine DOps.s0 (fieldVA (TK rfl) rfl rfl (TK rfl) rfl rfl) rfl ?_
     refine DOps.s0 (loadV (TK rfl) rfl rfl (congrArg (fun x => some (A.d x)) (TSel.FSelsD_eq _))) rfl ?_
     refine DOps.s0 moveA rfl ?_
     refine DOps.s0 (loadV (TK rfl) rfl rfl rfl) rfl ?_
     refine DOps.s0 moveA rfl ?_
     obtain ⟨x27, gx27, hE⟩ := bindO_some hE
     refine DOps.sH (callH rfl rfl (Z96_walk gx27 _ hpG hpG)) rfl ?_
     refine DOps.heq (h' := ((H.set c0_2 (some (.tok 4 x27.2.Fout.l.length))).set c0 (some (.cells (Usage_recorder.cg (some c0_2) x27.2))))) (by first | rfl | (rw [Heap.set_set]; rfl) | (funext n_; simp only [Heap.set]; (repeat' split) <;> first | rfl | (exfalso; simp_all; done) | (simp_all; done))) ?_
     obtain ⟨x28, gx28, hE⟩ := bindO_some hE
     refine DOps.sH (callH rfl rfl (ih_25 gx28 _ hpG hpG)) rfl ?_
     refine DOps.heq (h' := ((H.set c0_2 (some (.tok 4 x28.Fout.l.length))).set c0 (some (.cells (Usage_recorder.cg (some c0_2) x28))))) (by first | rfl | (rw [Heap.set_set]; rfl) | (funext n_; simp only [Heap.set]; (repeat' split) <;> first | rfl | (exfalso; simp_all; done) | (simp_all; done))) ?_
     refine DOps.nil (by decide +kernel) ?_
     exact hK9 _ x28 Weak.toA hE
    rintro y10_c0 hE
    try dsimp only at hE
    unfold Z97_j9 at hE
    refine region ?_
    refine s0 (addIA rfl rfl) rfl ?_
    refine s0 moveA rfl ?_
    refine nil ?_
    exact hK3 _ (n3, (s11_4 + 1), y10_c0) Weak.toA hE (Nat.lt_succ_self _)
   refine AWp.exit ?_
   repeat (first | refine xBlock_normal ?_ | refine xThen_exit ?_ | refine xBlock_exit ?_)
   obtain rfl := Option.some.inj hE
   refine retQ.normalF ((H.set c0_2 (some (.tok 4 y5_c0.Fout.l.length))).set c0 (some (.cells (Usage_recorder.cg (some c0_2) y5_c0)))) (xs := []) rfl ⟨rfl, rfl⟩ ?_
   exact (fun _ _ h => h)
theorem Z97_all : ∀ (n : Nat), (∀ {a0 : Usage_recorder} {a1 : (Sl TSel)} {a2 : Bs} {w1 : Option Nat} {c0 : Nat} {c0_2 : Nat} {r : Usage_recorder}, Z97_n n a0 a1 a2 = some r → ∀ (H : Heap) (hc0 : H c0 = some (.cells (Usage_recorder.cg (some c0_2) a0))) (ht0_2 : H c0_2 = some (.tok 4 a0.Fout.l.length)), ACalls Tryz.prog 25 [.d (.ptr c0 0), .d (Sl.d 7 TSel.c w1 a1), .d (.str a2)] H fun v h' => v = .tup [] ∧ h' = ((H.set c0_2 (some (.tok 4 r.Fout.l.length))).set c0 (some (.cells (Usage_recorder.cg (some c0_2) r)))))
 | 0 => fun hE => by first | cases hE | (rw [Z97_n] at hE; cases hE)
 | n + 1 => Z97_step n (Z97_all n)
def Z97 (a0 : Usage_recorder) (a1 : (Sl TSel)) (a2 : Bs) : Option Usage_recorder := Z97_n F0 a0 a1 a2
theorem Z97_walk {a0 : Usage_recorder} {a1 : (Sl TSel)} {a2 : Bs} {w1 : Option Nat} {c0 : Nat} {c0_2 : Nat} {r : Usage_recorder} (hE : Z97 a0 a1 a2 = some r) (H : Heap) (hc0 : H c0 = some (.cells (Usage_recorder.cg (some c0_2) a0))) (ht0_2 : H c0_2 = some (.tok 4 a0.Fout.l.length)) : ACalls Tryz.prog 25 [.d (.ptr c0 0), .d (Sl.d 7 TSel.c w1 a1), .d (.str a2)] H fun v h' => v = .tup [] ∧ h' = ((H.set c0_2 (some (.tok 4 r.Fout.l.length))).set c0 (some (.cells (Usage_recorder.cg (some c0_2) r)))) := (Z97_all F0) hE H hc0 ht0_2
end Go.Proofs

namespace Go.Proofs
open Go Go.Ab
open AOps Cert AWp
def Z92_j18  (y19_id34_9 : Usage_recorder) : Option (Sl TUse) := (Z93 y19_id34_9.Fout).bind fun x21 => some x21
def Z92_j30 (s75_25 : Nat) (k_next_24 : Nat → Usage_recorder → Option (Sl TUse)) (y31_id34_9 : Usage_recorder) : Option (Sl TUse) := k_next_24 (s75_25 + 1) y31_id34_9
def Z92_l24 (x7 : TOp)  : Nat → Nat → Usage_recorder → Option (Sl TUse)
 | 0, _, _ => none
 | n24 + 1, s75_25, y26_id34_9 => bif (decide (((s75_25 : Nat) : Int) < ((x7.FVars.l.length : Nat) : Int))) then ((x7.FVars.l[s75_25]?).bind fun x33 => bif x33.FHas then ((Z99 y26_id34_9 x33.FDefault x33.FType).bind fun x36 => Z92_j30 s75_25 ((Z92_l24 x7 n24)) x36) else (Z92_j30 s75_25 ((Z92_l24 x7 n24)) y26_id34_9)) else (Z92_j18   y26_id34_9)
def Z92_j16 (x7 : TOp)  (y17_id34_9 : Usage_recorder) : Option (Sl TUse) := Z92_l24 x7 (x7.FVars.l.length + 1) 0 y17_id34_9
def Z92_l39 (a1 : TQuery) (x7 : TOp) (x15 : ((Sl Bs) × Bool))  : Nat → Nat → Usage_recorder → Option (Sl TUse)
 | 0, _, _ => none
 | n39 + 1, s51_40, y41_id34_9 => bif (decide (((s51_40 : Nat) : Int) < ((x15.1.l.length : Nat) : Int))) then ((x15.1.l[s51_40]?).bind fun x47 => (Z4 a1 x47).bind fun x49 => (Z95 y41_id34_9 x49.1.FOn).bind fun x51 => (Z97 x51 x49.1.FSels x49.1.FOn).bind fun x52 => (Z92_l39 a1 x7 x15 n39) (s51_40 + 1) x52) else (Z92_j16 x7  y41_id34_9)
def Z92 (a0 : TDoc) (a1 : TQuery) (a2 : Int) : Option (Sl TUse) := bif ((decide (a2 < (0 : Int))) || (decide (((a1.FOps.l.length : Nat) : Int) ≤ a2))) then (some (Sl.nil : Sl TUse)) else ((idxC a1.FOps.l a2).bind fun x7 => (Z74 x7.FKind).bind fun x12 => (Z97 (Usage_recorder.mk a0 a1 (Sl.nil : Sl TUse)) x7.FSels x12).bind fun x13 => (Z5 a1 x7.FSels).bind fun x15 => Z92_l39 a1 x7 x15 (x15.1.l.length + 1) 0 x13)
theorem Z92_walk {a0 : TDoc} {a1 : TQuery} {a2 : Int}   {r : (Sl TUse)} (hE : Z92 a0 a1 a2 = some r) (H : Heap)  : ACalls Tryz.prog 8 [.agg (TDoc.c a0), .agg (TQuery.c a1), .d (.int .i64 a2)] H fun v h' => v = .a (.d (Sl.d 4 TUse.c none r)) ∧ h' = H := by
 unfold Z92 at hE
 refine ACalls.of_wp (fn := Tryz.f8) (c := _) Tryz.tab_ok (fun _ _ => Tryz.call8 _ _) Tryz.func8 rfl (n := 93) rfl (rs := [.tmp 6]) rfl rfl ?_
 refine seqK fun K1 hK1 => ?_
 refine region ?_
 refine s0 (boxV rfl) rfl ?_
 refine s0 (boxV rfl) rfl ?_
 refine s0 (assignNil (k' := 4) rfl) rfl ?_
 refine nil ?_
 refine hK1 _ ?_
 clear hK1 K1
 refine seqK fun K2 hK2 => ?_
 refine seqK fun K3 hK3 => ?_
 refine region ?_
 refine s0 moveA rfl ?_
 refine s0 (binI rfl rfl rfl) rfl ?_
 refine s0 moveA rfl ?_
 refine gC rfl rfl (fun hC => moveA) rfl ?_
 refine gC rfl rfl (fun hC => fieldVA (TK rfl) rfl rfl (TK rfl) rfl rfl) rfl ?_
 refine gC rfl rfl (fun hC => ungdA (k := 21) rfl (loadV (TK rfl) rfl rfl rfl)) rfl ?_
 refine gC rfl rfl (fun hC => ungdA (k := 22) rfl (lenM' (f := TOp.c) (s := a1.FOps) (TK rfl) rfl rfl rfl)) rfl ?_
 refine gC rfl rfl (fun hC => ungdA (k := 20) rfl (ungdA (k := 23) rfl (binI rfl rfl rfl))) rfl ?_
 refine s0 (pickOrA rfl rfl rfl) rfl ?_
 refine nil ?_
 refine hK3 _ ?_
 clear hK3 K3
 refine condE hE rfl (fun hc4 hE => ?_) (fun hc4 hE => ?_)
 ·refine seqK fun K5 hK5 => ?_
  refine region ?_
  refine s0 (assignNil (k' := 4) rfl) rfl ?_
  refine nil ?_
  refine hK5 _ ?_
  clear hK5 K5
  refine AWp.ret ?_
  repeat (first | refine xBlock_ret ?_ | refine xThen_ret ?_)
  obtain rfl := Option.some.inj hE
  refine retQ.retF H rfl ⟨rfl, rfl⟩ ?_
  exact (fun _ _ h => h)
 refine AWp.skip ?_
 refine hK2 _ ?_
 clear hK2 K2
 refine seqK fun K6 hK6 => ?_
 refine region ?_
 refine s0 (fieldVA (TK rfl) rfl rfl (TK rfl) rfl rfl) rfl ?_
 refine s0 (loadV (TK rfl) rfl rfl rfl) rfl ?_
 refine s0 moveA rfl ?_
 obtain ⟨x7, gx7, hE⟩ := bindO_some hE
 refine s0 (idxM (f := TOp.c) (TK rfl) rfl (TK rfl) rfl rfl rfl gx7) rfl ?_
 refine s0 (loadV (TK rfl) rfl rfl rfl) rfl ?_
 refine sL (allocLA (TK rfl) rfl) rfl ?_
 refine sLn (storeLFA (TK rfl) rfl rfl rfl rfl rfl) ?_
 refine nil ?_
 refine hK6 _ ?_
 clear hK6 K6
 refine freezeA 7 _ rfl (Keeps.c (k := 3) (by conv => lhs; whnf) (by rfl) (Keeps.c (k := 4) (by conv => lhs; whnf) (by rfl) Keeps.nil)) ?_
 refine seqK fun K8 hK8 => ?_
 refine region ?_
 refine s0 (loadV (TK rfl) rfl rfl rfl) rfl ?_
 refine s0 (loadV (TK rfl) rfl rfl rfl) rfl ?_
 refine s0 (build Tryz.tab_ok rfl rfl rfl rfl rfl rfl) rfl ?_
 refine AOps.tok 4 fun tk34_10 htk34_10 => ?_
 refine sE (StepE.boxO rfl) rfl (fun _ _ _ ⟨id34_9, hid34_9, e1, e2, e3⟩ => ?_); subst e1 e2 e3
 obtain ⟨ne_id34_9_tk34_10, hid34_9⟩ := Heap.set_fresh hid34_9
 refine AOps.recell id34_9 _ hpG (fun j w cs hh hx => tok_cell 3 4 4 hh (t := tk34_10) hpG hx rfl) ?_
 refine AOps.heq (h' := ((H.set tk34_10 (some (.tok 4 0))).set id34_9 (some (.cells (Usage_recorder.cg (some tk34_10) (Usage_recorder.mk a0 a1 (Sl.nil : Sl TUse))))))) (by first | rfl | (rw [Heap.set_set]; rfl) | (funext n_; simp only [Heap.set]; (repeat' split) <;> first | rfl | (exfalso; simp_all; done) | (simp_all; done))) ?_
 refine s0 assignA rfl ?_
 refine nil ?_
 refine hK8 _ ?_
 clear hK8 K8
 refine seqK fun K11 hK11 => ?_
 refine AWp.draw rfl ?_
 refine DOps.s0 moveA rfl ?_
 refine DOps.s0 (fieldVA (TK rfl) rfl rfl (TK rfl) rfl rfl) rfl ?_
 refine DOps.s0 (loadV (TK rfl) rfl rfl rfl) rfl ?_
 refine DOps.s0 (fieldVA (TK rfl) rfl rfl (TK rfl) rfl rfl) rfl ?_
 refine DOps.s0 (loadV (TK rfl) rfl rfl rfl) rfl ?_
 obtain ⟨x12, gx12, hE⟩ := bindO_some hE
 refine DOps.s0 (callP rfl rfl (fun H => Z74_walk gx12 H)) rfl ?_
 obtain ⟨x13, gx13, hE⟩ := bindO_some hE
 refine DOps.sH (callH rfl rfl (Z97_walk gx13 _ hpG hpG)) rfl ?_
 refine DOps.heq (h' := ((H.set tk34_10 (some (.tok 4 x13.Fout.l.length))).set id34_9 (some (.cells (Usage_recorder.cg (some tk34_10) x13))))) (by first | rfl | (rw [Heap.set_set]; rfl) | (funext n_; simp only [Heap.set]; (repeat' split) <;> first | rfl | (exfalso; simp_all; done) | (simp_all; done))) ?_
 refine DOps.nil (by decide +kernel) ?_
 refine hK11 _ ?_
 clear hK11 K11
 refine seqK fun K14 hK14 => ?_
 refine region ?_
 refine s0 (loadV (TK rfl) rfl rfl rfl) rfl ?_
 refine s0 (fieldVA (TK rfl) rfl rfl (TK rfl) rfl rfl) rfl ?_
 refine s0 (loadV (TK rfl) rfl rfl rfl) rfl ?_
 obtain ⟨x15, gx15, hE⟩ := bindO_some hE
 refine s0 (callP rfl rfl (fun H => Z5_walk gx15 H)) rfl ?_
 refine s0 moveA rfl ?_
 refine s0 (extract rfl rfl) rfl ?_
 refine s0 (extract rfl rfl) rfl ?_
 refine s0 assignA rfl ?_
 refine s0 assignA rfl ?_
 refine nil ?_
 refine hK14 _ ?_
 clear hK14 K14
 refine seqJH (KeepsT.A (k := 7) (KeepsT.A (k := 8) KeepsT.nil)) (fun (z : Usage_recorder) => []) (fun z => ((H.set tk34_10 (some (.tok 4 z.Fout.l.length))).set id34_9 (some (.cells (Usage_recorder.cg (some tk34_10) z))))) (fun z => Z92_j16 x7 z = some r) ?_ ?_
 ·intro K16 hK16
  refine seqK fun K37 hK37 => ?_
  refine region ?_
  refine s0 moveA rfl ?_
  refine sLen (f := strE) (s := x15.1) (TK rfl) rfl rfl rfl rfl fun hL38 => ?_
  refine s0 moveA rfl ?_
  refine nil ?_
  refine hK37 _ ?_
  clear hK37 K37
  refine block ?_
  refine loopH (KeepsT.A (k := 4) (KeepsT.A (k := 7) (KeepsT.A (k := 8) (KeepsT.A (k := 49) (KeepsT.A (k := 50) KeepsT.nil))))) (fun (z : Nat × Nat × Usage_recorder) => [(51, .a (.d (.int .i64 ((z.2.1 : Nat) : Int))))]) (fun z => ((H.set tk34_10 (some (.tok 4 z.2.2.Fout.l.length))).set id34_9 (some (.cells (Usage_recorder.cg (some tk34_10) z.2.2))))) (fun z => z.1) (fun z => Z92_l39 a1 x7 x15 z.1 z.2.1 z.2.2 = some r) ((x15.1.l.length + 1), 0, x13) hE Weak.toA ?_
  rintro ⟨n39, s51_40, y41_id34_9⟩ hE K39 hK39
  try dsimp only at hE
  cases n39 with
  | zero => cases hE
  | succ n39 =>
    rw [Z92_l39] at hE
    refine seqK fun K42 hK42 => ?_
    refine region ?_
    refine s0 (binI rfl rfl rfl) rfl ?_
    refine nil ?_
    refine hK42 _ ?_
    clear hK42 K42
    refine seqK fun K43 hK43 => ?_
    refine condE hE rfl (fun hc44 hE => ?_) (fun hc44 hE => ?_)
    ·try dsimp only at hc44
     have hf44 := of_decide_eq_true hc44
     refine AWp.skip ?_
     refine hK43 _ ?_
     clear hK43 K43
     refine seqK fun K45 hK45 => ?_
     refine block ?_
     refine seqK fun K46 hK46 => ?_
     refine region ?_
     obtain ⟨x47, gx47, hE⟩ := bindO_some hE
     refine s0 (idxMn (f := strE) (n := s51_40) (TK rfl) rfl (TK rfl) rfl rfl rfl gx47) rfl ?_
     refine s0 (loadV (TK rfl) rfl rfl rfl) rfl ?_
     refine s0 assignA rfl ?_
     refine nil ?_
     refine hK46 _ ?_
     clear hK46 K46
     refine seqK fun K48 hK48 => ?_
     refine region ?_
     refine s0 (loadV (TK rfl) rfl rfl rfl) rfl ?_
     refine s0 moveA rfl ?_
     obtain ⟨x49, gx49, hE⟩ := bindO_some hE
     refine s0 (callP rfl rfl (fun H => Z4_walk gx49 H)) rfl ?_
     refine s0 moveA rfl ?_
     refine s0 (extract rfl rfl) rfl ?_
     refine s0 (extract rfl rfl) rfl ?_
     refine sL (allocLA (TK rfl) rfl) rfl ?_
     refine sLn (storeLFA (TK rfl) rfl rfl rfl rfl rfl) ?_
     refine s0 assignA rfl ?_
     refine nil ?_
     refine hK48 _ ?_
     clear hK48 K48
     refine freezeA 13 _ rfl (Keeps.c (k := 4) (by conv => lhs; whnf) (by rfl) (Keeps.c (k := 7) (by conv => lhs; whnf) (by rfl) (Keeps.c (k := 8) (by conv => lhs; whnf) (by rfl) (Keeps.c (k := 49) (by conv => lhs; whnf) (by rfl) (Keeps.c (k := 50) (by conv => lhs; whnf) (by rfl) (Keeps.c (k := 51) (by conv => lhs; whnf) (by rfl) Keeps.nil)))))) ?_
     refine seqK fun K50 hK50 => ?_
     refine region ?_
     refine s0 moveA rfl ?_
     refine s0 (fieldVA (TK rfl) rfl rfl (TK rfl) rfl rfl) rfl ?_
     refine s0 (loadV (TK rfl) rfl rfl rfl) rfl ?_
     obtain ⟨x51, gx51, hE⟩ := bindO_some hE
     refine sH (callH rfl rfl (Z95_walk gx51 _ hpG hpG)) rfl ?_
     refine AOps.heq (h' := ((H.set tk34_10 (some (.tok 4 x51.Fout.l.length))).set id34_9 (some (.cells (Usage_recorder.cg (some tk34_10) x51))))) (by first | rfl | (rw [Heap.set_set]; rfl) | (funext n_; simp only [Heap.set]; (repeat' split) <;> first | rfl | (exfalso; simp_all; done) | (simp_all; done))) ?_
     refine nil ?_
     refine hK50 _ ?_
     clear hK50 K50
     refine region ?_
     refine s0 moveA rfl ?_
     refine s0 (fieldVA (TK rfl) rfl rfl (TK rfl) rfl rfl) rfl ?_
     refine s0 (loadV (TK rfl) rfl rfl rfl) rfl ?_
     refine s0 (fieldVA (TK rfl) rfl rfl (TK rfl) rfl rfl) rfl ?_
     refine s0 (loadV (TK rfl) rfl rfl rfl) rfl ?_
     obtain ⟨x52, gx52, hE⟩ := bindO_some hE
     refine sH (callH rfl rfl (Z97_walk gx52 _ hpG hpG)) rfl ?_
     refine AOps.heq (h' := ((H.set tk34_10 (some (.tok 4 x52.Fout.l.length))).set id34_9 (some (.cells (Usage_recorder.cg (some tk34_10) x52))))) (by first | rfl | (rw [Heap.set_set]; rfl) | (funext n_; simp only [Heap.set]; (repeat' split) <;> first | rfl | (exfalso; simp_all; done) | (simp_all; done))) ?_
     refine nil ?_
     refine hK45 _ ?_
     clear hK45 K45
     refine region ?_
     refine s0 (addIA rfl rfl) rfl ?_
     refine s0 moveA rfl ?_
     refine nil ?_
     exact hK39 _ (n39, (s51_40 + 1), x52) Weak.toA hE (Nat.lt_succ_self _)
    refine AWp.exit ?_
    exact hK16 _ y41_id34_9 Weak.toA hE
 rintro y17_id34_9 hE
 try dsimp only at hE
 unfold Z92_j16 at hE
 refine seqJH (KeepsT.A (k := 8) KeepsT.nil) (fun (z : Usage_recorder) => []) (fun z => ((H.set tk34_10 (some (.tok 4 z.Fout.l.length))).set id34_9 (some (.cells (Usage_recorder.cg (some tk34_10) z))))) (fun z => Z92_j18 z = some r) ?_ ?_
 ·intro K18 hK18
  refine seqK fun K22 hK22 => ?_
  refine region ?_
  refine s0 (fieldVA (TK rfl) rfl rfl (TK rfl) rfl rfl) rfl ?_
  refine s0 (loadV (TK rfl) rfl rfl rfl) rfl ?_
  refine sLen (f := TVar.c) (s := x7.FVars) (TK rfl) rfl rfl rfl rfl fun hL23 => ?_
  refine s0 moveA rfl ?_
  refine nil ?_
  refine hK22 _ ?_
  clear hK22 K22
  refine block ?_
  refine loopH (KeepsT.A (k := 8) (KeepsT.A (k := 73) (KeepsT.A (k := 74) KeepsT.nil))) (fun (z : Nat × Nat × Usage_recorder) => [(75, .a (.d (.int .i64 ((z.2.1 : Nat) : Int))))]) (fun z => ((H.set tk34_10 (some (.tok 4 z.2.2.Fout.l.length))).set id34_9 (some (.cells (Usage_recorder.cg (some tk34_10) z.2.2))))) (fun z => z.1) (fun z => Z92_l24 x7 z.1 z.2.1 z.2.2 = some r) ((x7.FVars.l.length + 1), 0, y17_id34_9) hE Weak.toA ?_
  rintro ⟨n24, s75_25, y26_id34_9⟩ hE K24 hK24
  try dsimp only at hE
  cases n24 with
  | zero => cases hE
  | succ n24 =>
    rw [Z92_l24] at hE
    refine seqK fun K27 hK27 => ?_
    refine region ?_
    refine s0 (binI rfl rfl rfl) rfl ?_
    refine nil ?_
    refine hK27 _ ?_
    clear hK27 K27
    refine seqK fun K28 hK28 => ?_
    refine condE hE rfl (fun hc29 hE => ?_) (fun hc29 hE => ?_)
    ·try dsimp only at hc29
     have hf29 := of_decide_eq_true hc29
     refine AWp.skip ?_
     refine hK28 _ ?_
     clear hK28 K28
     refine seqJH (KeepsT.A (k := 8) (KeepsT.A (k := 73) (KeepsT.A (k := 74) (KeepsT.A (k := 75) KeepsT.nil)))) (fun (z : Usage_recorder) => []) (fun z => ((H.set tk34_10 (some (.tok 4 z.Fout.l.length))).set id34_9 (some (.cells (Usage_recorder.cg (some tk34_10) z))))) (fun z => Z92_j30 s75_25 ((Z92_l24 x7 n24)) z = some r) ?_ ?_
     ·intro K30 hK30
      refine block ?_
      refine seqK fun K32 hK32 => ?_
      refine region ?_
      obtain ⟨x33, gx33, hE⟩ := bindO_some hE
      refine s0 (idxMn (f := TVar.c) (n := s75_25) (TK rfl) rfl (TK rfl) rfl rfl rfl gx33) rfl ?_
      refine s0 (loadV (TK rfl) rfl rfl rfl) rfl ?_
      refine sL (allocLA (TK rfl) rfl) rfl ?_
      refine sLn (storeLFA (TK rfl) rfl rfl rfl rfl rfl) ?_
      refine nil ?_
      refine hK32 _ ?_
      clear hK32 K32
      refine freezeA 16 _ rfl (Keeps.c (k := 8) (by conv => lhs; whnf) (by rfl) (Keeps.c (k := 73) (by conv => lhs; whnf) (by rfl) (Keeps.c (k := 74) (by conv => lhs; whnf) (by rfl) (Keeps.c (k := 75) (by conv => lhs; whnf) (by rfl) Keeps.nil)))) ?_
      refine seqK fun K34 hK34 => ?_
      refine region ?_
      refine s0 (fieldVA (TK rfl) rfl rfl (TK rfl) rfl rfl) rfl ?_
      refine s0 (loadV (TK rfl) rfl rfl rfl) rfl ?_
      refine nil ?_
      refine hK34 _ ?_
      clear hK34 K34
      refine condE hE rfl (fun hc35 hE => ?_) (fun hc35 hE => ?_)
      ·refine region ?_
       refine s0 moveA rfl ?_
       refine s0 (fieldVA (TK rfl) rfl rfl (TK rfl) rfl rfl) rfl ?_
       refine s0 (loadV (TK rfl) rfl rfl rfl) rfl ?_
       refine s0 (fieldVA (TK rfl) rfl rfl (TK rfl) rfl rfl) rfl ?_
       refine s0 (loadV (TK rfl) rfl rfl rfl) rfl ?_
       obtain ⟨x36, gx36, hE⟩ := bindO_some hE
       refine sH (callH rfl rfl (Z99_walk gx36 _ hpG hpG)) rfl ?_
       refine AOps.heq (h' := ((H.set tk34_10 (some (.tok 4 x36.Fout.l.length))).set id34_9 (some (.cells (Usage_recorder.cg (some tk34_10) x36))))) (by first | rfl | (rw [Heap.set_set]; rfl) | (funext n_; simp only [Heap.set]; (repeat' split) <;> first | rfl | (exfalso; simp_all; done) | (simp_all; done))) ?_
       refine nil ?_
       exact hK30 _ x36 Weak.toA hE
      refine AWp.skip ?_
      exact hK30 _ y26_id34_9 Weak.toA hE
     rintro y31_id34_9 hE
     try dsimp only at hE
     unfold Z92_j30 at hE
     refine region ?_
     refine s0 (addIA rfl rfl) rfl ?_
     refine s0 moveA rfl ?_
     refine nil ?_
     exact hK24 _ (n24, (s75_25 + 1), y31_id34_9) Weak.toA hE (Nat.lt_succ_self _)
    refine AWp.exit ?_
    exact hK18 _ y26_id34_9 Weak.toA hE
 rintro y19_id34_9 hE
 try dsimp only at hE
 unfold Z92_j18 at hE
 refine seqK fun K20 hK20 => ?_
 refine region ?_
 refine s0 moveA rfl ?_
 refine s0 (nilP rfl) rfl ?_
 refine s0 (fieldP (TK rfl) rfl rfl (TK rfl) rfl rfl) rfl ?_
 refine s0 (loadP (TK rfl) rfl rfl hpG rfl) rfl ?_
 obtain ⟨x21, gx21, hE⟩ := bindO_some hE
 refine s0 (callP rfl rfl (fun H => Z93_walk gx21 H)) rfl ?_
 refine s0 assignA rfl ?_
 refine nil ?_
 refine hK20 _ ?_
 clear hK20 K20
 refine AWp.ret ?_
 repeat (first | refine xBlock_ret ?_ | refine xThen_ret ?_)
 obtain rfl := Option.some.inj hE
 refine retQ.retF H rfl ⟨rfl, rfl⟩ ?_
 intro id_ o_ he_
 have e_tk34_10 : id_ ≠ tk34_10 := fun e_ => by subst e_; simp_all [Heap.set]
 have e_id34_9 : id_ ≠ id34_9 := fun e_ => by subst e_; simp_all [Heap.set]
 rw [← he_]
 simp only [Heap.set] at he_ ⊢
 (repeat' split) <;> simp_all
def Z91_j3  (s9_4 : Int) : Option Int := some s9_4
def Z91_j14 (s14_10 : Nat) (k_next_8 : Int → Nat → Option Int) (s9_15 : Int) : Option Int := k_next_8 s9_15 (s14_10 + 1)
def Z91_l8 (a0 : (Sl TUse)) (a1 : Bs) (a2 : Bs) (a3 : Bs)  : Nat → Int → Nat → Option Int
 | 0, _, _ => none
 | n8 + 1, s9_9, s14_10 => bif (decide (((s14_10 : Nat) : Int) < ((a0.l.length : Nat) : Int))) then ((a0.l[s14_10]?).bind fun x17 => bif ((((x17.FType == a1)) && ((x17.FField == a2))) && ((x17.FArg == a3))) then (Z91_j14 s14_10 ((Z91_l8 a0 a1 a2 a3 n8)) (IntKind.wrap .i64 (s9_9 + x17.FCount))) else (Z91_j14 s14_10 ((Z91_l8 a0 a1 a2 a3 n8)) s9_9)) else (Z91_j3   s9_9)
def Z91 (a0 : (Sl TUse)) (a1 : Bs) (a2 : Bs) (a3 : Bs) : Option Int := Z91_l8 a0 a1 a2 a3 (a0.l.length + 1) (0 : Int) 0
theorem Z91_walk {a0 : (Sl TUse)} {a1 : Bs} {a2 : Bs} {a3 : Bs} {w0 : Option Nat}  {r : Int} (hE : Z91 a0 a1 a2 a3 = some r) (H : Heap)  : ACalls Tryz.prog 17 [.d (Sl.d 4 TUse.c w0 a0), .d (.str a1), .d (.str a2), .d (.str a3)] H fun v h' => v = .a (.d (.int .i64 r)) ∧ h' = H := by
 unfold Z91 at hE
 refine ACalls.of_wp (fn := Tryz.f17) (c := _) Tryz.tab_ok (fun _ _ => Tryz.call17 _ _) Tryz.func17 rfl (n := 40) rfl (rs := [.tmp 8]) rfl rfl ?_
 refine seqK fun K1 hK1 => ?_
 refine region ?_
 refine s0 assignA rfl ?_
 refine nil ?_
 refine hK1 _ ?_
 clear hK1 K1
 refine seqK fun K2 hK2 => ?_
 refine region ?_
 refine s0 assignA rfl ?_
 refine nil ?_
 refine hK2 _ ?_
 clear hK2 K2
 refine seqJH KeepsT.nil (fun (z : Int) => [(9, .a (.d (.int .i64 z)))]) (fun z => H) (fun z => Z91_j3 z = some r) ?_ ?_
 ·intro K3 hK3
  refine seqK fun K6 hK6 => ?_
  refine region ?_
  refine s0 moveA rfl ?_
  refine sLen (f := TUse.c) (s := a0) (TK rfl) rfl rfl rfl rfl fun hL7 => ?_
  refine s0 moveA rfl ?_
  refine nil ?_
  refine hK6 _ ?_
  clear hK6 K6
  refine block ?_
  refine loopH (KeepsT.A (k := 1) (KeepsT.A (k := 2) (KeepsT.A (k := 3) (KeepsT.A (k := 12) (KeepsT.A (k := 13) KeepsT.nil))))) (fun (z : Nat × Int × Nat) => [(9, .a (.d (.int .i64 z.2.1))), (14, .a (.d (.int .i64 ((z.2.2 : Nat) : Int))))]) (fun z => H) (fun z => z.1) (fun z => Z91_l8 a0 a1 a2 a3 z.1 z.2.1 z.2.2 = some r) ((a0.l.length + 1), (0 : Int), 0) hE Weak.toA ?_
  rintro ⟨n8, s9_9, s14_10⟩ hE K8 hK8
  try dsimp only at hE
  cases n8 with
  | zero => cases hE
  | succ n8 =>
    rw [Z91_l8] at hE
    refine seqK fun K11 hK11 => ?_
    refine region ?_
    refine s0 (binI rfl rfl rfl) rfl ?_
    refine nil ?_
    refine hK11 _ ?_
    clear hK11 K11
    refine seqK fun K12 hK12 => ?_
    refine condE hE rfl (fun hc13 hE => ?_) (fun hc13 hE => ?_)
    ·try dsimp only at hc13
     have hf13 := of_decide_eq_true hc13
     refine AWp.skip ?_
     refine hK12 _ ?_
     clear hK12 K12
     refine seqJH (KeepsT.A (k := 1) (KeepsT.A (k := 2) (KeepsT.A (k := 3) (KeepsT.A (k := 12) (KeepsT.A (k := 13) (KeepsT.A (k := 14) KeepsT.nil)))))) (fun (z : Int) => [(9, .a (.d (.int .i64 z)))]) (fun z => H) (fun z => Z91_j14 s14_10 ((Z91_l8 a0 a1 a2 a3 n8)) z = some r) ?_ ?_
     ·intro K14 hK14
      refine block ?_
      refine seqK fun K16 hK16 => ?_
      refine region ?_
      obtain ⟨x17, gx17, hE⟩ := bindO_some hE
      refine s0 (idxMn (f := TUse.c) (n := s14_10) (TK rfl) rfl (TK rfl) rfl rfl rfl gx17) rfl ?_
      refine s0 (loadV (TK rfl) rfl rfl rfl) rfl ?_
      refine sL (allocLA (TK rfl) rfl) rfl ?_
      refine sLn (storeLFA (TK rfl) rfl rfl rfl rfl rfl) ?_
      refine nil ?_
      refine hK16 _ ?_
      clear hK16 K16
      refine freezeA 11 _ rfl (Keeps.c (k := 1) (by conv => lhs; whnf) (by rfl) (Keeps.c (k := 2) (by conv => lhs; whnf) (by rfl) (Keeps.c (k := 3) (by conv => lhs; whnf) (by rfl) (Keeps.c (k := 9) (by conv => lhs; whnf) (by rfl) (Keeps.c (k := 12) (by conv => lhs; whnf) (by rfl) (Keeps.c (k := 13) (by conv => lhs; whnf) (by rfl) (Keeps.c (k := 14) (by conv => lhs; whnf) (by rfl) Keeps.nil))))))) ?_
      refine seqK fun K18 hK18 => ?_
      refine region ?_
      refine s0 (fieldVA (TK rfl) rfl rfl (TK rfl) rfl rfl) rfl ?_
      refine s0 (loadV (TK rfl) rfl rfl rfl) rfl ?_
      refine s0 moveA rfl ?_
      refine s0 (binS rfl rfl rfl) rfl ?_
      refine s0 moveA rfl ?_
      refine gC rfl rfl (fun hC => fieldVA (TK rfl) rfl rfl (TK rfl) rfl rfl) rfl ?_
      refine gC rfl rfl (fun hC => ungdA (k := 23) rfl (loadV (TK rfl) rfl rfl rfl)) rfl ?_
      refine gC rfl rfl (fun hC => moveA) rfl ?_
      refine gC rfl rfl (fun hC => ungdA (k := 24) rfl (ungdA (k := 25) rfl (binS rfl rfl rfl))) rfl ?_
      refine s0 (pickAndA rfl rfl rfl) rfl ?_
      refine s0 moveA rfl ?_
      refine gC rfl rfl (fun hC => fieldVA (TK rfl) rfl rfl (TK rfl) rfl rfl) rfl ?_
      refine gC rfl rfl (fun hC => ungdA (k := 29) rfl (loadV (TK rfl) rfl rfl rfl)) rfl ?_
      refine gC rfl rfl (fun hC => moveA) rfl ?_
      refine gC rfl rfl (fun hC => ungdA (k := 30) rfl (ungdA (k := 31) rfl (binS rfl rfl rfl))) rfl ?_
      refine s0 (pickAndA rfl rfl rfl) rfl ?_
      refine nil ?_
      refine hK18 _ ?_
      clear hK18 K18
      refine condE hE rfl (fun hc19 hE => ?_) (fun hc19 hE => ?_)
      ·refine region ?_
       refine s0 moveA rfl ?_
       refine s0 (fieldVA (TK rfl) rfl rfl (TK rfl) rfl rfl) rfl ?_
       refine s0 (loadV (TK rfl) rfl rfl rfl) rfl ?_
       refine s0 (binI rfl rfl rfl) rfl ?_
       refine s0 assignA rfl ?_
       refine nil ?_
       exact hK14 _ (IntKind.wrap .i64 (s9_9 + x17.FCount)) Weak.toA hE
      refine AWp.skip ?_
      exact hK14 _ s9_9 Weak.toA hE
     rintro s9_15 hE
     try dsimp only at hE
     unfold Z91_j14 at hE
     refine region ?_
     refine s0 (addIA rfl rfl) rfl ?_
     refine s0 moveA rfl ?_
     refine nil ?_
     exact hK8 _ (n8, s9_15, (s14_10 + 1)) Weak.toA hE (Nat.lt_succ_self _)
    refine AWp.exit ?_
    exact hK3 _ s9_9 Weak.toA hE
 rintro s9_4 hE
 try dsimp only at hE
 unfold Z91_j3 at hE
 refine seqK fun K5 hK5 => ?_
 refine region ?_
 refine s0 moveA rfl ?_
 refine s0 assignA rfl ?_
 refine nil ?_
 refine hK5 _ ?_
 clear hK5 K5
 refine AWp.ret ?_
 repeat (first | refine xBlock_ret ?_ | refine xThen_ret ?_)
 obtain rfl := Option.some.inj hE
 refine retQ.retF H rfl ⟨rfl, rfl⟩ ?_
 exact (fun _ _ h => h)
def Z11  : Option (TDoc × TQuery) := some ((TDoc.mk (⟨false, [(TDef.mk (1 : Int) ([81, 117, 101, 114, 121] : Bs) (Sl.nil : Sl Bs) (Sl.nil : Sl TDir) (⟨false, [(TField.mk ([109, 101] : Bs) (⟨false, [(TInput.mk ([99] : Bs) (TRef.mk ([67, 111, 108, 111, 114] : Bs) (Sl.nil : Sl Int)) false TValue.zero (Sl.nil : Sl TDir))]⟩ : Sl TInput) (TRef.mk ([85, 115, 101, 114] : Bs) (Sl.nil : Sl Int)) (Sl.nil : Sl TDir))]⟩ : Sl TField) (Sl.nil : Sl TMember) (Sl.nil : Sl TInput)), (TDef.mk (4 : Int) ([67, 111, 108, 111, 114] : Bs) (Sl.nil : Sl Bs) (Sl.nil : Sl TDir) (Sl.nil : Sl TField) (⟨false, [(TMember.mk ([82, 69, 68] : Bs) (Sl.nil : Sl TDir))]⟩ : Sl TMember) (Sl.nil : Sl TInput)), (TDef.mk (1 : Int) ([85, 115, 101, 114] : Bs) (Sl.nil : Sl Bs) (Sl.nil : Sl TDir) (⟨false, [(TField.mk ([110, 97, 109, 101] : Bs) (Sl.nil : Sl TInput) (TRef.mk ([83, 116, 114, 105, 110, 103] : Bs) (Sl.nil : Sl Int)) (Sl.nil : Sl TDir))]⟩ : Sl TField) (Sl.nil : Sl TMember) (Sl.nil : Sl TInput))]⟩ : Sl TDef)), (TQuery.mk (⟨false, [(TOp.mk (1 : Int) ([] : Bs) (Sl.nil : Sl TVar) (⟨false, [(TSel.mk (1 : Int) ([97] : Bs) ([109, 101] : Bs) ([] : Bs) (⟨false, [(TArg.mk ([99] : Bs) (TValue.mk (4 : Int) (0 : Int) ([82, 69, 68] : Bs) true ([]) (Sl.nil : Sl Bs)))]⟩ : Sl TArg) (Sl.nil : Sl TDir) ((⟨false, [(TSel.mk (1 : Int) ([] : Bs) ([110, 97, 109, 101] : Bs) ([] : Bs) (Sl.nil : Sl TArg) (Sl.nil : Sl TDir) true ([]))]⟩ : Sl TSel).nl) ((⟨false, [(TSel.mk (1 : Int) ([] : Bs) ([110, 97, 109, 101] : Bs) ([] : Bs) (Sl.nil : Sl TArg) (Sl.nil : Sl TDir) true ([]))]⟩ : Sl TSel).l)), (TSel.mk (1 : Int) ([98] : Bs) ([109, 101] : Bs) ([] : Bs) (Sl.nil : Sl TArg) (Sl.nil : Sl TDir) ((⟨false, [(TSel.mk (1 : Int) ([] : Bs) ([110, 97, 109, 101] : Bs) ([] : Bs) (Sl.nil : Sl TArg) (Sl.nil : Sl TDir) true ([]))]⟩ : Sl TSel).nl) ((⟨false, [(TSel.mk (1 : Int) ([] : Bs) ([110, 97, 109, 101] : Bs) ([] : Bs) (Sl.nil : Sl TArg) (Sl.nil : Sl TDir) true ([]))]⟩ : Sl TSel).l))]⟩ : Sl TSel))]⟩ : Sl TOp) (Sl.nil : Sl TFrag)))
theorem Z11_walk    {r : (TDoc × TQuery)} (hE : Z11  = some r) (H : Heap)  : ACalls Tryz.prog 22 [] H fun v h' => v = .tup [.agg (TDoc.c r.1), .agg (TQuery.c r.2)] ∧ h' = H := by
 unfold Z11 at hE
 refine ACalls.of_wp (fn := Tryz.f22) (c := _) Tryz.tab_ok (fun _ _ => Tryz.call22 _ _) Tryz.func22 rfl (n := 40) rfl (rs := [.cell 0 24, .cell 1 28]) rfl rfl ?_
 refine seqK fun K1 hK1 => ?_
 refine region ?_
 refine sL (allocLA (TK rfl) rfl) rfl ?_
 refine sL (allocLA (TK rfl) rfl) rfl ?_
 refine nil ?_
 refine hK1 _ ?_
 clear hK1 K1
 refine seqK fun K2 hK2 => ?_
 refine region ?_
 refine s0 (build Tryz.tab_ok rfl rfl rfl rfl rfl rfl) rfl ?_
 refine s0 (build Tryz.tab_ok rfl rfl rfl rfl rfl rfl) rfl ?_
 refine s0 (build Tryz.tab_ok rfl rfl rfl rfl rfl rfl) rfl ?_
 refine s0 (buildSlice (TK rfl) rfl (TK rfl) rfl rfl rfl rfl rfl rfl) rfl ?_
 refine s0 (build Tryz.tab_ok rfl rfl rfl rfl rfl rfl) rfl ?_
 refine sL (allocLA (TK rfl) rfl) rfl ?_
 refine sLn (storeLFA (TK rfl) rfl rfl rfl rfl rfl) ?_
 refine nil ?_
 refine hK2 _ ?_
 clear hK2 K2
 refine freezeA 2 _ rfl (Keeps.c (k := 0) (by conv => lhs; whnf) (by rfl) (Keeps.c (k := 1) (by conv => lhs; whnf) (by rfl) Keeps.nil)) ?_
 refine seqK fun K3 hK3 => ?_
 refine region ?_
 refine s0 (loadV (TK rfl) rfl rfl rfl) rfl ?_
 refine s0 (buildSlice (TK rfl) rfl (TK rfl) rfl rfl rfl rfl rfl rfl) rfl ?_
 refine s0 (build Tryz.tab_ok rfl rfl rfl rfl rfl rfl) rfl ?_
 refine s0 (build Tryz.tab_ok rfl rfl rfl rfl rfl rfl) rfl ?_
 refine s0 (buildSlice (TK rfl) rfl (TK rfl) rfl rfl rfl rfl rfl rfl) rfl ?_
 refine s0 (build Tryz.tab_ok rfl rfl rfl rfl rfl rfl) rfl ?_
 refine s0 (build Tryz.tab_ok rfl rfl rfl rfl rfl rfl) rfl ?_
 refine s0 (build Tryz.tab_ok rfl rfl rfl rfl rfl rfl) rfl ?_
 refine s0 (buildSlice (TK rfl) rfl (TK rfl) rfl rfl rfl rfl rfl rfl) rfl ?_
 refine s0 (build Tryz.tab_ok rfl rfl rfl rfl rfl rfl) rfl ?_
 refine s0 (buildSlice (TK rfl) rfl (TK rfl) rfl rfl rfl rfl rfl rfl) rfl ?_
 refine s0 (build Tryz.tab_ok rfl rfl rfl rfl rfl rfl) rfl ?_
 refine sL (allocLA (TK rfl) rfl) rfl ?_
 refine sLn (storeLFA (TK rfl) rfl rfl rfl rfl rfl) ?_
 refine nil ?_
 refine hK3 _ ?_
 clear hK3 K3
 refine freezeA 3 _ rfl (Keeps.c (k := 0) (by conv => lhs; whnf) (by rfl) (Keeps.c (k := 1) (by conv => lhs; whnf) (by rfl) Keeps.nil)) ?_
 refine seqK fun K4 hK4 => ?_
 refine region ?_
 refine s0 (build Tryz.tab_ok rfl rfl rfl rfl rfl rfl) rfl ?_
 refine s0 (buildSlice (TK rfl) rfl (TK rfl) rfl rfl rfl rfl rfl rfl) rfl ?_
 refine s0 assignA rfl ?_
 refine nil ?_
 refine hK4 _ ?_
 clear hK4 K4
 refine seqK fun K5 hK5 => ?_
 refine region ?_
 refine s0 (build Tryz.tab_ok rfl rfl rfl rfl rfl rfl) rfl ?_
 refine s0 (build Tryz.tab_ok rfl rfl rfl rfl rfl rfl) rfl ?_
 refine s0 (buildSlice (TK rfl) rfl (TK rfl) rfl rfl rfl rfl rfl rfl) rfl ?_
 refine s0 moveA rfl ?_
 refine s0 (build Tryz.tab_ok rfl rfl rfl rfl rfl rfl) rfl ?_
 refine sL (allocLA (TK rfl) rfl) rfl ?_
 refine sLn (storeLFA (TK rfl) rfl rfl rfl rfl rfl) ?_
 refine nil ?_
 refine hK5 _ ?_
 clear hK5 K5
 refine freezeA 5 _ rfl (Keeps.c (k := 0) (by conv => lhs; whnf) (by rfl) (Keeps.c (k := 1) (by conv => lhs; whnf) (by rfl) (Keeps.c (k := 3) (by conv => lhs; whnf) (by rfl) (Keeps.c (k := 4) (by conv => lhs; whnf) (by rfl) Keeps.nil)))) ?_
 refine seqK fun K6 hK6 => ?_
 refine region ?_
 refine s0 moveA rfl ?_
 refine s0 (build Tryz.tab_ok rfl rfl rfl rfl rfl rfl) rfl ?_
 refine sL (allocLA (TK rfl) rfl) rfl ?_
 refine sLn (storeLFA (TK rfl) rfl rfl rfl rfl rfl) ?_
 refine nil ?_
 refine hK6 _ ?_
 clear hK6 K6
 refine freezeA 6 _ rfl (Keeps.c (k := 0) (by conv => lhs; whnf) (by rfl) (Keeps.c (k := 1) (by conv => lhs; whnf) (by rfl) (Keeps.c (k := 3) (by conv => lhs; whnf) (by rfl) (Keeps.c (k := 5) (by conv => lhs; whnf) (by rfl) Keeps.nil)))) ?_
 refine seqK fun K7 hK7 => ?_
 refine AWp.draw rfl ?_
 refine DOps.s0 (loadV (TK rfl) rfl rfl rfl) rfl ?_
 refine DOps.s0 (loadV (TK rfl) rfl rfl rfl) rfl ?_
 refine DOps.s0 (loadV (TK rfl) rfl rfl rfl) rfl ?_
 refine DOps.s0 (buildSlice (TK rfl) rfl (TK rfl) rfl rfl rfl rfl rfl rfl) rfl ?_
 refine DOps.s0 (build Tryz.tab_ok rfl rfl rfl rfl rfl rfl) rfl ?_
 refine DOps.s0 (buildSlice (TK rfl) rfl (TK rfl) rfl rfl rfl rfl rfl rfl) rfl ?_
 refine DOps.s0 (build Tryz.tab_ok rfl rfl rfl rfl rfl rfl) rfl ?_
 refine DOps.sLn (storeLFA (TK rfl) rfl rfl rfl rfl rfl) ?_
 refine DOps.sLn (storeLFA (TK rfl) rfl rfl rfl rfl rfl) ?_
 refine DOps.nil (by decide +kernel) ?_
 refine hK7 _ ?_
 clear hK7 K7
 refine AWp.ret ?_
 repeat (first | refine xBlock_ret ?_ | refine xThen_ret ?_)
 obtain rfl := Option.some.inj hE
 refine retQ.retF H rfl ⟨rfl, rfl⟩ ?_
 exact (fun _ _ h => h)
def Tryz.lay101_ren : Go.Shelf.Ren := ⟨fun | 4 => 101 | n => n, fun | 22 => 32 | 25 => 57 | 3 => 3 | 4 => 4 | 9 => 9 | 20 => 20 | 0 => 0 | n => n, fun | n => n⟩
theorem Tryz.lay101 : Go.Proofs.Lays8.n4 Tryz.prog Tryz.lay101_ren := {
 mixed := by kernel_rfl
 f4 := ⟨Tryz.f101.name, by decide, Tryz.func101.trans (congrArg some (by kernel_rfl))⟩
 t0 := Tryz.underlying0
 a0 := Tryz.isAgg0
 z0 := Tryz.sizeOf0
 v0 := Tryz.zeroValue0
 t3 := Tryz.underlying3
 a3 := Tryz.isAgg3
 z3 := Tryz.sizeOf3
 v3 := Tryz.zeroValue3
 t4 := Tryz.underlying4
 a4 := Tryz.isAgg4
 z4 := Tryz.sizeOf4
 v4 := Tryz.zeroValue4
 t9 := Tryz.underlying9
 a9 := Tryz.isAgg9
 z9 := Tryz.sizeOf9
 v9 := Tryz.zeroValue9
 t20 := Tryz.underlying20
 a20 := Tryz.isAgg20
 z20 := Tryz.sizeOf20
 v20 := Tryz.zeroValue20
 t22 := Tryz.underlying32
 a22 := Tryz.isAgg32
 z22 := Tryz.sizeOf32
 v22 := Tryz.zeroValue32 }
def Z81 (n : Int) : Option (Sl TUse) := if 0 ≤ n ∧ n.toNat * 56 ≤ maxN ∧ n.toNat ≤ maxN then some ⟨decide (n = 0), []⟩ else none
theorem Z81_tok {n : Int} {k0 : Nat} {r : Sl TUse} (hE : Z81 n = some r) (H : Heap) : ACalls Tryz.prog 101 [.d (.slice k0 none true []), .d (.int .i64 n)] H fun v h' => ∃ tk, H tk = none ∧ v = .a (.d (Sl.d 4 TUse.c (some tk) r)) ∧ h' = H.set tk (some (.tok 4 r.l.length)) := by
 unfold Z81 at hE
 split at hE
 ·rename_i h
  obtain rfl := Option.some.inj hE
  exact grow_calls Tryz.lay101 (TK rfl) rfl rfl (by decide) h.1 h.2.1 h.2.2 rfl TUse.c H
 cases hE
def Z79_j7  (s6_8 : (Sl TUse)) : Option (Sl TUse) := some s6_8
def Z79_l12 (a0 : (Sl (Sl TUse)))  : Nat → (Sl TUse) → Nat → Option (Sl TUse)
 | 0, _, _ => none
 | n12 + 1, s6_13, s27_14 => bif (decide (((s27_14 : Nat) : Int) < ((a0.l.length : Nat) : Int))) then ((a0.l[s27_14]?).bind fun x20 => (appC 56 s6_13 x20).bind fun x21 => (Z79_l12 a0 n12) x21 (s27_14 + 1)) else (Z79_j7   s6_13)
def Z79_j3 (a0 : (Sl (Sl TUse)))  (s3_4 : Int) : Option (Sl TUse) := (Z81 s3_4).bind fun x6 => Z79_l12 a0 (a0.l.length + 1) x6 0
def Z79_j30 (s11_26 : Nat) (k_next_24 : Int → Nat → Option (Sl TUse)) (s3_31 : Int) : Option (Sl TUse) := k_next_24 s3_31 (s11_26 + 1)
def Z79_l24 (a0 : (Sl (Sl TUse)))  : Nat → Int → Nat → Option (Sl TUse)
 | 0, _, _ => none
 | n24 + 1, s3_25, s11_26 => bif (decide (((s11_26 : Nat) : Int) < ((a0.l.length : Nat) : Int))) then ((a0.l[s11_26]?).bind fun x33 => (addC s3_25 ((x33.l.length : Nat) : Int)).bind fun x36 => bif (decide (x36 < (0 : Int))) then (none) else (Z79_j30 s11_26 ((Z79_l24 a0 n24)) x36)) else (Z79_j3 a0  s3_25)
def Z79 (a0 : (Sl (Sl TUse))) : Option (Sl TUse) := Z79_l24 a0 (a0.l.length + 1) (0 : Int) 0
theorem Z79_walk {a0 : (Sl (Sl TUse))} {w0 : Option Nat}  {r : (Sl TUse)} (hE : Z79 a0 = some r) (H : Heap)  : ACalls Tryz.prog 54 [.d (Sl.d 1 (fun s => [Sl.d 4 TUse.c none s]) w0 a0)] H fun v h' => v = .a (.d (Sl.d 4 TUse.c none r)) ∧ h' = H := by
 unfold Z79 at hE
 refine ACalls.of_wp (fn := Tryz.f54) (c := _) Tryz.tab_ok (fun _ _ => Tryz.call54 _ _) Tryz.func54 rfl (n := 36) rfl (rs := [.tmp 2]) rfl rfl ?_
 refine seqK fun K1 hK1 => ?_
 refine region ?_
 refine s0 (assignNil (k' := 4) rfl) rfl ?_
 refine nil ?_
 refine hK1 _ ?_
 clear hK1 K1
 refine seqK fun K2 hK2 => ?_
 refine region ?_
 refine s0 assignA rfl ?_
 refine nil ?_
 refine hK2 _ ?_
 clear hK2 K2
 refine seqJH (KeepsT.A (k := 0) KeepsT.nil) (fun (z : Int) => [(3, .a (.d (.int .i64 z)))]) (fun z => H) (fun z => Z79_j3 a0 z = some r) ?_ ?_
 ·intro K3 hK3
  refine seqK fun K22 hK22 => ?_
  refine region ?_
  refine s0 moveA rfl ?_
  refine sLen (f := (fun s => [Sl.d 4 TUse.c none s])) (s := a0) (TK rfl) rfl rfl rfl rfl fun hL23 => ?_
  refine s0 moveA rfl ?_
  refine nil ?_
  refine hK22 _ ?_
  clear hK22 K22
  refine block ?_
  refine loopH (KeepsT.A (k := 0) (KeepsT.A (k := 9) (KeepsT.A (k := 10) KeepsT.nil))) (fun (z : Nat × Int × Nat) => [(3, .a (.d (.int .i64 z.2.1))), (11, .a (.d (.int .i64 ((z.2.2 : Nat) : Int))))]) (fun z => H) (fun z => z.1) (fun z => Z79_l24 a0 z.1 z.2.1 z.2.2 = some r) ((a0.l.length + 1), (0 : Int), 0) hE Weak.toA ?_
  rintro ⟨n24, s3_25, s11_26⟩ hE K24 hK24
  try dsimp only at hE
  cases n24 with
  | zero => cases hE
  | succ n24 =>
    rw [Z79_l24] at hE
    refine seqK fun K27 hK27 => ?_
    refine region ?_
    refine s0 (binI rfl rfl rfl) rfl ?_
    refine nil ?_
    refine hK27 _ ?_
    clear hK27 K27
    refine seqK fun K28 hK28 => ?_
    refine condE hE rfl (fun hc29 hE => ?_) (fun hc29 hE => ?_)
    ·try dsimp only at hc29
     have hf29 := of_decide_eq_true hc29
     refine AWp.skip ?_
     refine hK28 _ ?_
     clear hK28 K28
     refine seqJH (KeepsT.A (k := 0) (KeepsT.A (k := 9) (KeepsT.A (k := 10) (KeepsT.A (k := 11) KeepsT.nil)))) (fun (z : Int) => [(3, .a (.d (.int .i64 z)))]) (fun z => H) (fun z => Z79_j30 s11_26 ((Z79_l24 a0 n24)) z = some r) ?_ ?_
     ·intro K30 hK30
      refine block ?_
      refine seqK fun K32 hK32 => ?_
      refine region ?_
      obtain ⟨x33, gx33, hE⟩ := bindO_some hE
      refine s0 (idxMn (f := (fun s => [Sl.d 4 TUse.c none s])) (n := s11_26) (TK rfl) rfl (TK rfl) rfl rfl rfl gx33) rfl ?_
      refine s0 (loadV (TK rfl) rfl rfl rfl) rfl ?_
      refine s0 assignA rfl ?_
      refine nil ?_
      refine hK32 _ ?_
      clear hK32 K32
      refine seqK fun K34 hK34 => ?_
      refine region ?_
      refine s0 moveA rfl ?_
      refine s0 moveA rfl ?_
      refine sLen (f := TUse.c) (s := x33) (TK rfl) rfl rfl rfl rfl fun hL35 => ?_
      obtain ⟨x36, gx36, hE⟩ := bindO_some hE
      refine s0 (addM rfl rfl gx36) rfl ?_
      refine s0 assignA rfl ?_
      refine nil ?_
      refine hK34 _ ?_
      clear hK34 K34
      refine seqK fun K37 hK37 => ?_
      refine region ?_
      refine s0 moveA rfl ?_
      refine s0 (binI rfl rfl rfl) rfl ?_
      refine nil ?_
      refine hK37 _ ?_
      clear hK37 K37
      refine condE hE rfl (fun hc38 hE => ?_) (fun hc38 hE => ?_)
      ·cases hE
      refine AWp.skip ?_
      exact hK30 _ x36 Weak.toA hE
     rintro s3_31 hE
     try dsimp only at hE
     unfold Z79_j30 at hE
     refine region ?_
     refine s0 (addIA rfl rfl) rfl ?_
     refine s0 moveA rfl ?_
     refine nil ?_
     exact hK24 _ (n24, s3_31, (s11_26 + 1)) Weak.toA hE (Nat.lt_succ_self _)
    refine AWp.exit ?_
    exact hK3 _ s3_25 Weak.toA hE
 rintro s3_4 hE
 try dsimp only at hE
 unfold Z79_j3 at hE
 refine seqK fun K5 hK5 => ?_
 refine region ?_
 refine s0 moveA rfl ?_
 obtain ⟨x6, gx6, hE⟩ := bindO_some hE
 refine sE (StepE.call rfl rfl (Z81_tok gx6 _)) rfl (fun _ _ _ ⟨⟨tk1, htk1, e1, e2⟩, e3⟩ => ?_); subst e1 e2 e3
 refine s0 assignA rfl ?_
 refine nil ?_
 refine hK5 _ ?_
 clear hK5 K5
 refine seqJH KeepsT.nil (fun (z : (Sl TUse)) => [(6, .a (.d (Sl.d 4 TUse.c (some tk1) z)))]) (fun z => (H.set tk1 (some (.tok 4 z.l.length)))) (fun z => Z79_j7 z = some r) ?_ ?_
 ·intro K7 hK7
  refine seqK fun K10 hK10 => ?_
  refine region ?_
  refine s0 moveA rfl ?_
  refine sLen (f := (fun s => [Sl.d 4 TUse.c none s])) (s := a0) (TK rfl) rfl rfl rfl rfl fun hL11 => ?_
  refine s0 moveA rfl ?_
  refine nil ?_
  refine hK10 _ ?_
  clear hK10 K10
  refine block ?_
  refine loopH (KeepsT.A (k := 25) (KeepsT.A (k := 26) KeepsT.nil)) (fun (z : Nat × (Sl TUse) × Nat) => [(6, .a (.d (Sl.d 4 TUse.c (some tk1) z.2.1))), (27, .a (.d (.int .i64 ((z.2.2 : Nat) : Int))))]) (fun z => (H.set tk1 (some (.tok 4 z.2.1.l.length)))) (fun z => z.1) (fun z => Z79_l12 a0 z.1 z.2.1 z.2.2 = some r) ((a0.l.length + 1), x6, 0) hE Weak.toA ?_
  rintro ⟨n12, s6_13, s27_14⟩ hE K12 hK12
  try dsimp only at hE
  cases n12 with
  | zero => cases hE
  | succ n12 =>
    rw [Z79_l12] at hE
    refine seqK fun K15 hK15 => ?_
    refine region ?_
    refine s0 (binI rfl rfl rfl) rfl ?_
    refine nil ?_
    refine hK15 _ ?_
    clear hK15 K15
    refine seqK fun K16 hK16 => ?_
    refine condE hE rfl (fun hc17 hE => ?_) (fun hc17 hE => ?_)
    ·try dsimp only at hc17
     have hf17 := of_decide_eq_true hc17
     refine AWp.skip ?_
     refine hK16 _ ?_
     clear hK16 K16
     refine seqK fun K18 hK18 => ?_
     refine block ?_
     refine seqK fun K19 hK19 => ?_
     refine region ?_
     obtain ⟨x20, gx20, hE⟩ := bindO_some hE
     refine s0 (idxMn (f := (fun s => [Sl.d 4 TUse.c none s])) (n := s27_14) (TK rfl) rfl (TK rfl) rfl rfl rfl gx20) rfl ?_
     refine s0 (loadV (TK rfl) rfl rfl rfl) rfl ?_
     refine s0 assignA rfl ?_
     refine nil ?_
     refine hK19 _ ?_
     clear hK19 K19
     refine region ?_
     refine s0 moveA rfl ?_
     refine s0 moveA rfl ?_
     obtain ⟨x21, gx21, hE⟩ := bindO_some hE
     refine sH (appM (f := TUse.c) (TK rfl) rfl (TK rfl) (TK rfl) ⟨_, rfl⟩ rfl rfl (by decide) rfl rfl rfl rfl hpG rfl gx21) rfl ?_
     refine AOps.heq (h' := (H.set tk1 (some (.tok 4 x21.l.length)))) (by first | rfl | (rw [Heap.set_set]; rfl) | (funext n_; simp only [Heap.set]; (repeat' split) <;> first | rfl | (exfalso; simp_all; done) | (simp_all; done))) ?_
     refine s0 assignA rfl ?_
     refine nil ?_
     refine hK18 _ ?_
     clear hK18 K18
     refine region ?_
     refine s0 (addIA rfl rfl) rfl ?_
     refine s0 moveA rfl ?_
     refine nil ?_
     exact hK12 _ (n12, x21, (s27_14 + 1)) Weak.toA hE (Nat.lt_succ_self _)
    refine AWp.exit ?_
    exact hK7 _ s6_13 Weak.toA hE
 rintro s6_8 hE
 try dsimp only at hE
 unfold Z79_j7 at hE
 refine seqK fun K9 hK9 => ?_
 refine region ?_
 refine s0 moveA rfl ?_
 refine s0 assignA rfl ?_
 refine nil ?_
 refine hK9 _ ?_
 clear hK9 K9
 refine AWp.dropTok 2 rfl ?_
 refine AWp.ret ?_
 repeat (first | refine xBlock_ret ?_ | refine xThen_ret ?_)
 obtain rfl := Option.some.inj hE
 refine retQ.retF H rfl ⟨rfl, rfl⟩ ?_
 first | exact Heap.sub_set htk1 | (simp only [Heap.set_set]; exact Heap.sub_set htk1)
def Z90 (a0 : (Sl TUse)) (a1 : (Sl TUse)) : Option (Sl TUse) := (Z79 (⟨false, [a0, a1]⟩ : Sl (Sl TUse))).bind fun x3 => (Z93 x3).bind fun x4 => some x4
theorem Z90_walk {a0 : (Sl TUse)} {a1 : (Sl TUse)} {w0 : Option Nat} {w1 : Option Nat}  {r : (Sl TUse)} (hE : Z90 a0 a1 = some r) (H : Heap)  : ACalls Tryz.prog 23 [.d (Sl.d 4 TUse.c w0 a0), .d (Sl.d 4 TUse.c w1 a1)] H fun v h' => v = .a (.d (Sl.d 4 TUse.c none r)) ∧ h' = H := by
 unfold Z90 at hE
 refine ACalls.of_wp (fn := Tryz.f23) (c := _) Tryz.tab_ok (fun _ _ => Tryz.call23 _ _) Tryz.func23 rfl (n := 10) rfl (rs := [.tmp 4]) rfl rfl ?_
 refine seqK fun K1 hK1 => ?_
 refine region ?_
 refine s0 (assignNil (k' := 4) rfl) rfl ?_
 refine nil ?_
 refine hK1 _ ?_
 clear hK1 K1
 refine seqK fun K2 hK2 => ?_
 refine region ?_
 refine s0 moveA rfl ?_
 refine s0 moveA rfl ?_
 refine AOps.dropTok 5 rfl ?_
 refine AOps.dropTok 6 rfl ?_
 refine s0 (buildSlice (TK rfl) rfl (TK rfl) rfl rfl rfl rfl rfl rfl) rfl ?_
 obtain ⟨x3, gx3, hE⟩ := bindO_some hE
 refine s0 (callP rfl rfl (fun H => Z79_walk gx3 H)) rfl ?_
 obtain ⟨x4, gx4, hE⟩ := bindO_some hE
 refine s0 (callP rfl rfl (fun H => Z93_walk gx4 H)) rfl ?_
 refine s0 assignA rfl ?_
 refine nil ?_
 refine hK2 _ ?_
 clear hK2 K2
 refine AWp.ret ?_
 repeat (first | refine xBlock_ret ?_ | refine xThen_ret ?_)
 obtain rfl := Option.some.inj hE
 refine retQ.retF H rfl ⟨rfl, rfl⟩ ?_
 exact (fun _ _ h => h)
def Z9  : Option Bool := (Z11 ).bind fun x3 => (Z92 x3.1 x3.2 (0 : Int)).bind fun x6 => (Z61 x6 (⟨false, [(TUse.mk ([67, 111, 108, 111, 114] : Bs) ([82, 69, 68] : Bs) ([] : Bs) (1 : Int)), (TUse.mk ([81, 117, 101, 114, 121] : Bs) ([109, 101] : Bs) ([] : Bs) (2 : Int)), (TUse.mk ([81, 117, 101, 114, 121] : Bs) ([109, 101] : Bs) ([99] : Bs) (1 : Int)), (TUse.mk ([85, 115, 101, 114] : Bs) ([110, 97, 109, 101] : Bs) ([] : Bs) (2 : Int))]⟩ : Sl TUse)).bind fun x10 => guardO (x10) (Z91 x6 ([81, 117, 101, 114, 121] : Bs) ([109, 101] : Bs) ([] : Bs)) (0 : Int) fun x11 => guardO ((x10 && (decide (x11 = (2 : Int))))) (Z90 (⟨false, [(TUse.mk ([65] : Bs) ([120] : Bs) ([] : Bs) (1 : Int))]⟩ : Sl TUse) (⟨false, [(TUse.mk ([65] : Bs) ([120] : Bs) ([] : Bs) (2 : Int))]⟩ : Sl TUse)) (Sl.nil : Sl TUse) fun x12 => guardO ((x10 && (decide (x11 = (2 : Int))))) (Z61 x12 (⟨false, [(TUse.mk ([65] : Bs) ([120] : Bs) ([] : Bs) (3 : Int))]⟩ : Sl TUse)) false fun x13 => guardO (((x10 && (decide (x11 = (2 : Int)))) && x13)) (appC 56 (⟨false, [(TUse.mk ([65] : Bs) ([120] : Bs) ([] : Bs) (1 : Int))]⟩ : Sl TUse) (⟨false, [(TUse.mk ([65] : Bs) ([120] : Bs) ([] : Bs) (2 : Int))]⟩ : Sl TUse)) (Sl.nil : Sl TUse) fun x14 => guardO (((x10 && (decide (x11 = (2 : Int)))) && x13)) (Z93 x14) (Sl.nil : Sl TUse) fun x15 => guardO ((((x10 && (decide (x11 = (2 : Int)))) && x13) && (decide (((x15.l.length : Nat) : Int) = (1 : Int))))) (Z92 x3.1 x3.2 (1 : Int)) (Sl.nil : Sl TUse) fun x16 => some ((((x10 && (decide (x11 = (2 : Int)))) && x13) && (decide (((x15.l.length : Nat) : Int) = (1 : Int)))) && (decide (((x16.l.length : Nat) : Int) = (0 : Int))))
theorem Z9_walk    {r : Bool} (hE : Z9  = some r) (H : Heap)  : ACalls Tryz.prog 6 [] H fun v h' => v = .a (.d (.bool r)) ∧ h' = H := by
 unfold Z9 at hE
 refine ACalls.of_wp (fn := Tryz.f6) (c := _) Tryz.tab_ok (fun _ _ => Tryz.call6 _ _) Tryz.func6 rfl (n := 54) rfl (rs := [.tmp 0]) rfl rfl ?_
 refine AWp.tok 4 fun tk1 htk1 => ?_
 refine seqK fun K1 hK1 => ?_
 refine region ?_
 refine s0 assignA rfl ?_
 refine nil ?_
 refine hK1 _ ?_
 clear hK1 K1
 refine seqK fun K2 hK2 => ?_
 refine region ?_
 obtain ⟨x3, gx3, hE⟩ := bindO_some hE
 refine s0 (callP rfl rfl (fun H => Z11_walk gx3 H)) rfl ?_
 refine s0 moveA rfl ?_
 refine s0 (extract rfl rfl) rfl ?_
 refine s0 (extract rfl rfl) rfl ?_
 refine sL (allocLA (TK rfl) rfl) rfl ?_
 refine sL (allocLA (TK rfl) rfl) rfl ?_
 refine sLn (storeLFA (TK rfl) rfl rfl rfl rfl rfl) ?_
 refine sLn (storeLFA (TK rfl) rfl rfl rfl rfl rfl) ?_
 refine nil ?_
 refine hK2 _ ?_
 clear hK2 K2
 refine freezeA 2 _ rfl (Keeps.c (k := 1) (by conv => lhs; whnf) (by rfl) Keeps.nil) ?_
 refine freezeA 1 _ rfl (Keeps.c (k := 2) (by conv => lhs; whnf) (by rfl) Keeps.nil) ?_
 refine seqK fun K4 hK4 => ?_
 refine region ?_
 refine s0 (build Tryz.tab_ok rfl rfl rfl rfl rfl rfl) rfl ?_
 refine s0 (build Tryz.tab_ok rfl rfl rfl rfl rfl rfl) rfl ?_
 refine s0 (build Tryz.tab_ok rfl rfl rfl rfl rfl rfl) rfl ?_
 refine s0 (build Tryz.tab_ok rfl rfl rfl rfl rfl rfl) rfl ?_
 refine s0 (buildSlice (TK rfl) rfl (TK rfl) rfl rfl rfl rfl rfl rfl) rfl ?_
 refine s0 assignA rfl ?_
 refine nil ?_
 refine hK4 _ ?_
 clear hK4 K4
 refine seqK fun K5 hK5 => ?_
 refine region ?_
 refine s0 (loadV (TK rfl) rfl rfl rfl) rfl ?_
 refine s0 (loadV (TK rfl) rfl rfl rfl) rfl ?_
 obtain ⟨x6, gx6, hE⟩ := bindO_some hE
 refine s0 (callP rfl rfl (fun H => Z92_walk gx6 H)) rfl ?_
 refine s0 assignA rfl ?_
 refine nil ?_
 refine hK5 _ ?_
 clear hK5 K5
 refine seqK fun K7 hK7 => ?_
 refine region ?_
 refine s0 (build Tryz.tab_ok rfl rfl rfl rfl rfl rfl) rfl ?_
 refine s0 (buildSliceF (TK rfl) rfl (TK rfl) rfl rfl rfl rfl rfl rfl) rfl ?_
 refine s0 assignA rfl ?_
 refine nil ?_
 refine hK7 _ ?_
 clear hK7 K7
 refine seqK fun K8 hK8 => ?_
 refine region ?_
 refine s0 (build Tryz.tab_ok rfl rfl rfl rfl rfl rfl) rfl ?_
 refine s0 (buildSlice (TK rfl) rfl (TK rfl) rfl rfl rfl rfl rfl rfl) rfl ?_
 refine s0 assignA rfl ?_
 refine nil ?_
 refine hK8 _ ?_
 clear hK8 K8
 refine seqK fun K9 hK9 => ?_
 refine region ?_
 refine s0 moveA rfl ?_
 refine s0 moveA rfl ?_
 obtain ⟨x10, gx10, hE⟩ := bindO_some hE
 refine s0 (callP rfl rfl (fun H => Z61_walk gx10 H)) rfl ?_
 refine s0 moveA rfl ?_
 refine gC rfl rfl (fun hC => moveA) rfl ?_
 obtain ⟨x11, gx11, hE⟩ := guardO_some hE
 refine gC rfl rfl (fun hC => ungdA (k := 27) rfl (callP rfl rfl (fun H => Z91_walk (gx11 hC) H))) rfl ?_
 refine gC rfl rfl (fun hC => ungdA (k := 28) rfl (binI rfl rfl rfl)) rfl ?_
 refine s0 (pickAndA rfl rfl rfl) rfl ?_
 refine s0 moveA rfl ?_
 refine gC rfl rfl (fun hC => moveA) rfl ?_
 refine AOps.gdfData 32 rfl ?_
 refine gC rfl rfl (fun hC => moveA) rfl ?_
 obtain ⟨x12, gx12, hE⟩ := guardO_some hE
 refine gC rfl rfl (fun hC => ungdA (k := 32) rfl (ungdA (k := 33) rfl (callP rfl rfl (fun H => Z90_walk (gx12 hC) H)))) rfl ?_
 refine gC rfl rfl (fun hC => build Tryz.tab_ok rfl rfl rfl rfl rfl rfl) rfl ?_
 refine gC rfl rfl (fun hC => ungdA (k := 35) rfl (buildSlice (TK rfl) rfl (TK rfl) rfl rfl rfl rfl rfl rfl)) rfl ?_
 obtain ⟨x13, gx13, hE⟩ := guardO_some hE
 refine gC rfl rfl (fun hC => ungdA (k := 34) rfl (ungdA (k := 36) rfl (callP rfl rfl (fun H => Z61_walk (gx13 hC) H)))) rfl ?_
 refine s0 (pickAndA rfl rfl rfl) rfl ?_
 refine s0 moveA rfl ?_
 refine gC rfl rfl (fun hC => moveA) rfl ?_
 refine gC rfl rfl (fun hC => moveA) rfl ?_
 obtain ⟨x14, gx14, hE⟩ := guardO_some hE
 refine gC rfl rfl (fun hC => ungdF (k := 40) rfl (by first | exact hC | exact andL hC | exact andL (andL hC) | exact andL (andL (andL hC)) | exact andR hC | simp_all) (ungdA (k := 41) rfl (appFM (f := TUse.c) (TK rfl) rfl (TK rfl) (TK rfl) ⟨_, rfl⟩ rfl rfl (by decide) rfl rfl rfl (by intro q h; cases h <;> decide) rfl rfl (gx14 hC)))) rfl ?_
 obtain ⟨x15, gx15, hE⟩ := guardO_some hE
 refine gC rfl rfl (fun hC => ungdA (k := 42) rfl (callP rfl rfl (fun H => Z93_walk (gx15 hC) H))) rfl ?_
 refine gC rfl rfl (fun hC => ungdA (k := 43) rfl (lenM' (f := TUse.c) (s := x15) (TK rfl) rfl rfl rfl)) rfl ?_
 refine gC rfl rfl (fun hC => ungdA (k := 44) rfl (binI rfl rfl rfl)) rfl ?_
 refine s0 (pickAndA rfl rfl rfl) rfl ?_
 refine s0 moveA rfl ?_
 refine gC rfl rfl (fun hC => loadV (TK rfl) rfl rfl rfl) rfl ?_
 refine gC rfl rfl (fun hC => loadV (TK rfl) rfl rfl rfl) rfl ?_
 obtain ⟨x16, gx16, hE⟩ := guardO_some hE
 refine gC rfl rfl (fun hC => ungdA (k := 48) rfl (ungdA (k := 49) rfl (callP rfl rfl (fun H => Z92_walk (gx16 hC) H)))) rfl ?_
 refine gC rfl rfl (fun hC => ungdA (k := 50) rfl (lenM' (f := TUse.c) (s := x16) (TK rfl) rfl rfl rfl)) rfl ?_
 refine gC rfl rfl (fun hC => ungdA (k := 51) rfl (binI rfl rfl rfl)) rfl ?_
 refine s0 (pickAndA rfl rfl rfl) rfl ?_
 refine s0 assignA rfl ?_
 refine nil ?_
 refine hK9 _ ?_
 clear hK9 K9
 refine AWp.ret ?_
 repeat (first | refine xBlock_ret ?_ | refine xThen_ret ?_)
 obtain rfl := Option.some.inj hE
 refine retQ.retF H rfl ⟨rfl, rfl⟩ ?_
 first | exact Heap.sub_set htk1 | (simp only [Heap.set_set]; exact Heap.sub_set htk1)
end Go.Proofs
