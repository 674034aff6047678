import Derived.Test.YtimiconoebjfbaaDoorV1
set_option maxRecDepth 100000
set_option maxHeartbeats 2000000
set_option linter.unusedVariables false
set_option linter.unusedSimpArgs false
namespace Go.Proofs
open Go Go.Ab
open AOps Cert AWp
def Z46_j14 (y10_l0 : TRef) (y11_l1 : TRef) (y12_l2 : TRef) (k_next_9 : TRef → TRef → TRef → TRef → Option (TRef × Bool)) (y15_l3 : TRef) : Option (TRef × Bool) := (Z38 y10_l0).bind fun x17 => (Z38 y11_l1).bind fun x19 => bif ((!x17.2) || (!x19.2)) then (some (y15_l3, true)) else ((appC 8 y15_l3.FWraps (⟨false, [(2 : Int)]⟩ : Sl Int)).bind fun x25 => k_next_9 x17.1 x19.1 y12_l2 (TRef.mk y15_l3.FName x25))
def Z46_l9  : Nat → TRef → TRef → TRef → TRef → Option (TRef × Bool)
 | 0, _, _, _, _ => none
 | n9 + 1, y10_l0, y11_l1, y12_l2, y13_l3 => (Z40 y10_l0).bind fun x27 => guardO (x27) (Z40 y11_l1) false fun x28 => bif (x27 && x28) then ((appC 8 y13_l3.FWraps (⟨false, [(1 : Int)]⟩ : Sl Int)).bind fun x30 => Z46_j14 y10_l0 y11_l1 y12_l2 ((Z46_l9  n9)) (TRef.mk y13_l3.FName x30)) else (Z46_j14 y10_l0 y11_l1 y12_l2 ((Z46_l9  n9)) y13_l3)
def Z46 (a0 : TRef) (a1 : TRef) : Option (TRef × Bool) := (Z45 a0 a1).bind fun x4 => bif (!x4) then (some ((TRef.mk ([] : Bs) (Sl.nil : Sl Int)), false)) else (Z46_l9 F0 a0 a1 TRef.zero (TRef.mk a0.FName (Sl.nil : Sl Int)))
theorem Z46_walk {a0 : TRef} {a1 : TRef}   {r : (TRef × Bool)} (hE : Z46 a0 a1 = some r) (H : Heap)  : ACalls Tryd.prog 36 [.agg (TRef.c a0), .agg (TRef.c a1)] H fun v h' => v = .tup [.agg (TRef.c r.1), .d (.bool r.2)] ∧ h' = H := by
 unfold Z46 at hE
 refine ACalls.of_wp (fn := Tryd.f36) (c := _) Tryd.tab_ok (fun _ _ => Tryd.call36 _ _) Tryd.func36 rfl (n := 54) rfl (rs := [.cell 4 32, .tmp 5]) rfl rfl ?_
 refine seqK fun K1 hK1 => ?_
 refine region ?_
 refine sL (boxL rfl (by repeat (first | exact Snoc.nil | apply Snoc.cons))) rfl ?_
 refine sL (boxL rfl (by repeat (first | exact Snoc.nil | apply Snoc.cons))) rfl ?_
 refine sL (allocLA (TK rfl) rfl) rfl ?_
 refine s0 assignA rfl ?_
 refine nil ?_
 refine hK1 _ ?_
 clear hK1 K1
 refine seqK fun K2 hK2 => ?_
 refine seqK fun K3 hK3 => ?_
 refine region ?_
 refine s0 (loadL (TK rfl) rfl rfl rfl rfl) rfl ?_
 refine s0 (loadL (TK rfl) rfl rfl rfl rfl) rfl ?_
 obtain ⟨x4, gx4, hE⟩ := bindO_some hE
 refine s0 (callP rfl rfl (fun H => Z45_walk gx4 H)) rfl ?_
 refine s0 (notB rfl) rfl ?_
 refine nil ?_
 refine hK3 _ ?_
 clear hK3 K3
 refine condE hE rfl (fun hc5 hE => ?_) (fun hc5 hE => ?_)
 ·refine seqK fun K6 hK6 => ?_
  refine region ?_
  refine s0 (build Tryd.tab_ok rfl rfl rfl rfl rfl rfl) rfl ?_
  refine sLn (storeLFA (TK rfl) rfl rfl rfl rfl rfl) ?_
  refine s0 assignA rfl ?_
  refine nil ?_
  refine hK6 _ ?_
  clear hK6 K6
  refine AWp.ret ?_
  repeat (first | refine xBlock_ret ?_ | refine xThen_ret ?_)
  obtain rfl := Option.some.inj hE
  refine retQ.retF H rfl ⟨rfl, rfl⟩ ?_
  exact (fun _ _ h => h)
 refine AWp.skip ?_
 refine hK2 _ ?_
 clear hK2 K2
 refine seqK fun K7 hK7 => ?_
 refine region ?_
 refine s0 (fieldL (TK rfl) rfl rfl (TK rfl) rfl rfl) rfl ?_
 refine s0 (loadL (TK rfl) rfl rfl rfl rfl) rfl ?_
 refine s0 (build Tryd.tab_ok rfl rfl rfl rfl rfl rfl) rfl ?_
 refine sL (allocLA (TK rfl) rfl) rfl ?_
 refine AOps.tok 1 fun tk6_8 htk6_8 => ?_
 refine AOps.relocal 3 _ rfl (fun j w cs hh hx => tok_cell 1 1 1 hh (t := tk6_8) hpG hx rfl) ?_
 refine sLn (storeLFA (TK rfl) rfl rfl rfl rfl rfl) ?_
 refine AOps.relocal 3 _ rfl (fun j w cs hh hx => tok_cell 1 1 1 hh (t := tk6_8) hpG hx rfl) ?_
 refine nil ?_
 refine hK7 _ ?_
 clear hK7 K7
 refine block ?_
 refine loopO (KeepsT.A (k := 2) (KeepsT.A (k := 3) (KeepsT.A (k := 4) (KeepsT.A (k := 6) KeepsT.nil)))) (fun (z : Nat × TRef × TRef × TRef × TRef) => []) (fun z => [TRef.c z.2.1, TRef.c z.2.2.1, TRef.c z.2.2.2.1, (strE z.2.2.2.2.FName ++ [Sl.d 1 (intE .i64) (some tk6_8) z.2.2.2.2.FWraps])]) (fun z => (H.set tk6_8 (some (.tok 1 z.2.2.2.2.FWraps.l.length)))) (fun z => z.1) (fun z => Z46_l9 z.1 z.2.1 z.2.2.1 z.2.2.2.1 z.2.2.2.2 = some r) (F0, a0, a1, TRef.zero, (TRef.mk a0.FName (Sl.nil : Sl Int))) hE Weak.toA ?_
 rintro ⟨n9, y10_l0, y11_l1, y12_l2, y13_l3⟩ hE K9 hK9
 try dsimp only at hE
 cases n9 with
 | zero => cases hE
 | succ n9 =>
   rw [Z46_l9] at hE
   refine block ?_
   refine seqJ (KeepsT.A (k := 2) (KeepsT.A (k := 3) (KeepsT.A (k := 4) (KeepsT.A (k := 6) KeepsT.nil)))) (fun (z : TRef) => []) (fun z => [TRef.c y10_l0, TRef.c y11_l1, TRef.c y12_l2, (strE z.FName ++ [Sl.d 1 (intE .i64) (some tk6_8) z.FWraps])]) (fun z => (H.set tk6_8 (some (.tok 1 z.FWraps.l.length)))) (fun z => Z46_j14 y10_l0 y11_l1 y12_l2 ((Z46_l9 n9)) z = some r) ?_ ?_
   ·intro K14 hK14
    refine seqK fun K26 hK26 => ?_
    refine region ?_
    refine s0 (loadL (TK rfl) rfl rfl rfl rfl) rfl ?_
    obtain ⟨x27, gx27, hE⟩ := bindO_some hE
    refine s0 (callP rfl rfl (fun H => Z40_walk gx27 H)) rfl ?_
    refine s0 moveA rfl ?_
    refine gC rfl rfl (fun hC => loadL (TK rfl) rfl rfl rfl rfl) rfl ?_
    obtain ⟨x28, gx28, hE⟩ := guardO_some hE
    refine gC rfl rfl (fun hC => ungdA (k := 22) rfl (callP rfl rfl (fun H => Z40_walk (gx28 hC) H))) rfl ?_
    refine s0 (pickAndA rfl rfl rfl) rfl ?_
    refine nil ?_
    refine hK26 _ ?_
    clear hK26 K26
    refine condE hE rfl (fun hc29 hE => ?_) (fun hc29 hE => ?_)
    ·refine region ?_
     refine s0 (fieldL (TK rfl) rfl rfl (TK rfl) rfl rfl) rfl ?_
     refine s0 (loadL (TK rfl) rfl rfl rfl rfl) rfl ?_
     refine s0 (buildSlice (TK rfl) rfl (TK rfl) rfl rfl rfl rfl rfl rfl) rfl ?_
     obtain ⟨x30, gx30, hE⟩ := bindO_some hE
     refine sH (appM (f := (intE .i64)) (TK rfl) rfl (TK rfl) (TK rfl) ⟨_, rfl⟩ rfl rfl (by decide) rfl rfl rfl rfl hpG rfl gx30) rfl ?_
     refine AOps.heq (h' := (H.set tk6_8 (some (.tok 1 x30.l.length)))) (by first | rfl | (rw [Heap.set_set]; rfl) | (funext n_; simp only [Heap.set]; (repeat' split) <;> first | rfl | (exfalso; simp_all; done) | (simp_all; done))) ?_
     refine s0 (fieldL (TK rfl) rfl rfl (TK rfl) rfl rfl) rfl ?_
     refine sLn (storeL1 (TK rfl) rfl rfl rfl rfl (by repeat (first | exact SetAt.zero | apply SetAt.succ)) (by repeat (first | exact SetAt.zero | apply SetAt.succ))) ?_
     refine nil ?_
     exact hK14 _ (TRef.mk y13_l3.FName x30) Weak.toA hE
    refine AWp.skip ?_
    exact hK14 _ y13_l3 Weak.toA hE
   rintro y15_l3 hE
   try dsimp only at hE
   unfold Z46_j14 at hE
   refine seqK fun K16 hK16 => ?_
   refine region ?_
   refine s0 (loadL (TK rfl) rfl rfl rfl rfl) rfl ?_
   obtain ⟨x17, gx17, hE⟩ := bindO_some hE
   refine s0 (callP rfl rfl (fun H => Z38_walk gx17 H)) rfl ?_
   refine s0 moveA rfl ?_
   refine s0 (extract rfl rfl) rfl ?_
   refine s0 (extract rfl rfl) rfl ?_
   refine sL (allocLA (TK rfl) rfl) rfl ?_
   refine sLn (storeLFA (TK rfl) rfl rfl rfl rfl rfl) ?_
   refine s0 assignA rfl ?_
   refine nil ?_
   refine hK16 _ ?_
   clear hK16 K16
   refine freezeA 7 _ rfl (Keeps.c (k := 2) (by conv => lhs; whnf) (by rfl) (Keeps.c (k := 3) (by conv => lhs; whnf) (by rfl) (Keeps.c (k := 4) (by conv => lhs; whnf) (by rfl) (Keeps.c (k := 6) (by conv => lhs; whnf) (by rfl) (Keeps.c (k := 8) (by conv => lhs; whnf) (by rfl) Keeps.nil))))) ?_
   refine seqK fun K18 hK18 => ?_
   refine region ?_
   refine s0 (loadL (TK rfl) rfl rfl rfl rfl) rfl ?_
   obtain ⟨x19, gx19, hE⟩ := bindO_some hE
   refine s0 (callP rfl rfl (fun H => Z38_walk gx19 H)) rfl ?_
   refine s0 moveA rfl ?_
   refine s0 (extract rfl rfl) rfl ?_
   refine s0 (extract rfl rfl) rfl ?_
   refine sL (allocLA (TK rfl) rfl) rfl ?_
   refine sLn (storeLFA (TK rfl) rfl rfl rfl rfl rfl) ?_
   refine s0 assignA rfl ?_
   refine nil ?_
   refine hK18 _ ?_
   clear hK18 K18
   refine freezeA 9 _ rfl (Keeps.c (k := 2) (by conv => lhs; whnf) (by rfl) (Keeps.c (k := 3) (by conv => lhs; whnf) (by rfl) (Keeps.c (k := 4) (by conv => lhs; whnf) (by rfl) (Keeps.c (k := 6) (by conv => lhs; whnf) (by rfl) (Keeps.c (k := 7) (by conv => lhs; whnf) (by rfl) (Keeps.c (k := 8) (by conv => lhs; whnf) (by rfl) (Keeps.c (k := 10) (by conv => lhs; whnf) (by rfl) Keeps.nil))))))) ?_
   refine seqK fun K20 hK20 => ?_
   refine seqK fun K21 hK21 => ?_
   refine region ?_
   refine s0 moveA rfl ?_
   refine s0 (notB rfl) rfl ?_
   refine s0 moveA rfl ?_
   refine gC rfl rfl (fun hC => moveA) rfl ?_
   refine gC rfl rfl (fun hC => ungdA (k := 43) rfl (notB rfl)) rfl ?_
   refine s0 (pickOrA rfl rfl rfl) rfl ?_
   refine nil ?_
   refine hK21 _ ?_
   clear hK21 K21
   refine condE hE rfl (fun hc22 hE => ?_) (fun hc22 hE => ?_)
   ·refine seqK fun K23 hK23 => ?_
    refine AWp.relocal 3 _ rfl (fun j w cs hh hx => untok_cell 1 hx rfl) ?_
    refine region ?_
    refine s0 (loadL (TK rfl) rfl rfl rfl rfl) rfl ?_
    refine sLn (storeLFA (TK rfl) rfl rfl rfl rfl rfl) ?_
    refine s0 assignA rfl ?_
    refine nil ?_
    refine hK23 _ ?_
    clear hK23 K23
    refine AWp.ret ?_
    repeat (first | refine xBlock_ret ?_ | refine xThen_ret ?_)
    obtain rfl := Option.some.inj hE
    refine retQ.retF H rfl ⟨rfl, rfl⟩ ?_
    first | exact Heap.sub_set htk6_8 | (simp only [Heap.set_set]; exact Heap.sub_set htk6_8)
   refine AWp.skip ?_
   refine hK20 _ ?_
   clear hK20 K20
   refine seqK fun K24 hK24 => ?_
   refine region ?_
   refine s0 (fieldL (TK rfl) rfl rfl (TK rfl) rfl rfl) rfl ?_
   refine s0 (loadL (TK rfl) rfl rfl rfl rfl) rfl ?_
   refine s0 (buildSlice (TK rfl) rfl (TK rfl) rfl rfl rfl rfl rfl rfl) rfl ?_
   obtain ⟨x25, gx25, hE⟩ := bindO_some hE
   refine sH (appM (f := (intE .i64)) (TK rfl) rfl (TK rfl) (TK rfl) ⟨_, rfl⟩ rfl rfl (by decide) rfl rfl rfl rfl hpG rfl gx25) rfl ?_
   refine AOps.heq (h' := (H.set tk6_8 (some (.tok 1 x25.l.length)))) (by first | rfl | (rw [Heap.set_set]; rfl) | (funext n_; simp only [Heap.set]; (repeat' split) <;> first | rfl | (exfalso; simp_all; done) | (simp_all; done))) ?_
   refine s0 (fieldL (TK rfl) rfl rfl (TK rfl) rfl rfl) rfl ?_
   refine sLn (storeL1 (TK rfl) rfl rfl rfl rfl (by repeat (first | exact SetAt.zero | apply SetAt.succ)) (by repeat (first | exact SetAt.zero | apply SetAt.succ))) ?_
   refine nil ?_
   refine hK24 _ ?_
   clear hK24 K24
   refine AWp.draw rfl ?_
   refine DOps.s0 (loadV (TK rfl) rfl rfl rfl) rfl ?_
   refine DOps.s0 (loadV (TK rfl) rfl rfl rfl) rfl ?_
   refine DOps.sLn (storeLFA (TK rfl) rfl rfl rfl rfl rfl) ?_
   refine DOps.sLn (storeLFA (TK rfl) rfl rfl rfl rfl rfl) ?_
   refine DOps.nil (by decide +kernel) ?_
   exact hK9 _ (n9, x17.1, x19.1, y12_l2, (TRef.mk y15_l3.FName x25)) Weak.toA hE (Nat.lt_succ_self _)
def Z44 (a0 : TRef) (a1 : TRef) : Option Bool := guardO (((a0.FName == a1.FName))) (Z34 a0.FWraps a1.FWraps) false fun x3 => some (((a0.FName == a1.FName)) && x3)
theorem Z44_walk {a0 : TRef} {a1 : TRef}   {r : Bool} (hE : Z44 a0 a1 = some r) (H : Heap)  : ACalls Tryd.prog 37 [.agg (TRef.c a0), .agg (TRef.c a1)] H fun v h' => v = .a (.d (.bool r)) ∧ h' = H := by
 unfold Z44 at hE
 refine ACalls.of_wp (fn := Tryd.f37) (c := _) Tryd.tab_ok (fun _ _ => Tryd.call37 _ _) Tryd.func37 rfl (n := 17) rfl (rs := [.tmp 4]) rfl rfl ?_
 refine seqK fun K1 hK1 => ?_
 refine region ?_
 refine s0 (boxV rfl) rfl ?_
 refine s0 (boxV rfl) rfl ?_
 refine s0 assignA rfl ?_
 refine nil ?_
 refine hK1 _ ?_
 clear hK1 K1
 refine seqK fun K2 hK2 => ?_
 refine region ?_
 refine s0 (fieldVA (TK rfl) rfl rfl (TK rfl) rfl rfl) rfl ?_
 refine s0 (loadV (TK rfl) rfl rfl rfl) rfl ?_
 refine s0 (fieldVA (TK rfl) rfl rfl (TK rfl) rfl rfl) rfl ?_
 refine s0 (loadV (TK rfl) rfl rfl rfl) rfl ?_
 refine s0 (binS rfl rfl rfl) rfl ?_
 refine s0 moveA rfl ?_
 refine gC rfl rfl (fun hC => fieldVA (TK rfl) rfl rfl (TK rfl) rfl rfl) rfl ?_
 refine gC rfl rfl (fun hC => ungdA (k := 11) rfl (loadV (TK rfl) rfl rfl rfl)) rfl ?_
 refine gC rfl rfl (fun hC => fieldVA (TK rfl) rfl rfl (TK rfl) rfl rfl) rfl ?_
 refine gC rfl rfl (fun hC => ungdA (k := 13) rfl (loadV (TK rfl) rfl rfl rfl)) rfl ?_
 obtain ⟨x3, gx3, hE⟩ := guardO_some hE
 refine gC rfl rfl (fun hC => ungdA (k := 12) rfl (ungdA (k := 14) rfl (callP rfl rfl (fun H => Z34_walk (gx3 hC) H)))) rfl ?_
 refine s0 (pickAndA rfl rfl rfl) rfl ?_
 refine s0 assignA rfl ?_
 refine nil ?_
 refine hK2 _ ?_
 clear hK2 K2
 refine AWp.ret ?_
 repeat (first | refine xBlock_ret ?_ | refine xThen_ret ?_)
 obtain rfl := Option.some.inj hE
 refine retQ.retF H rfl ⟨rfl, rfl⟩ ?_
 exact (fun _ _ h => h)
def Z37 (a0 : TRef) (a1 : TRef) : Option Bool := (Z46 a0 a1).bind fun x3 => guardO (x3.2) (Z44 x3.1 a1) false fun x5 => some (x3.2 && x5)
theorem Z37_walk {a0 : TRef} {a1 : TRef}   {r : Bool} (hE : Z37 a0 a1 = some r) (H : Heap)  : ACalls Tryd.prog 20 [.agg (TRef.c a0), .agg (TRef.c a1)] H fun v h' => v = .a (.d (.bool r)) ∧ h' = H := by
 unfold Z37 at hE
 refine ACalls.of_wp (fn := Tryd.f20) (c := _) Tryd.tab_ok (fun _ _ => Tryd.call20 _ _) Tryd.func20 rfl (n := 19) rfl (rs := [.tmp 4]) rfl rfl ?_
 refine seqK fun K1 hK1 => ?_
 refine region ?_
 refine s0 (boxV rfl) rfl ?_
 refine s0 (boxV rfl) rfl ?_
 refine s0 assignA rfl ?_
 refine nil ?_
 refine hK1 _ ?_
 clear hK1 K1
 refine seqK fun K2 hK2 => ?_
 refine region ?_
 refine s0 (loadV (TK rfl) rfl rfl rfl) rfl ?_
 refine s0 (loadV (TK rfl) rfl rfl rfl) rfl ?_
 obtain ⟨x3, gx3, hE⟩ := bindO_some hE
 refine s0 (callP rfl rfl (fun H => Z46_walk gx3 H)) rfl ?_
 refine s0 moveA rfl ?_
 refine s0 (extract rfl rfl) rfl ?_
 refine s0 (extract rfl rfl) rfl ?_
 refine sL (allocLA (TK rfl) rfl) rfl ?_
 refine sLn (storeLFA (TK rfl) rfl rfl rfl rfl rfl) ?_
 refine s0 assignA rfl ?_
 refine nil ?_
 refine hK2 _ ?_
 clear hK2 K2
 refine freezeA 5 _ rfl (Keeps.c (k := 3) (by conv => lhs; whnf) (by rfl) (Keeps.c (k := 6) (by conv => lhs; whnf) (by rfl) Keeps.nil)) ?_
 refine seqK fun K4 hK4 => ?_
 refine region ?_
 refine s0 moveA rfl ?_
 refine s0 moveA rfl ?_
 refine gC rfl rfl (fun hC => loadV (TK rfl) rfl rfl rfl) rfl ?_
 refine gC rfl rfl (fun hC => loadV (TK rfl) rfl rfl rfl) rfl ?_
 obtain ⟨x5, gx5, hE⟩ := guardO_some hE
 refine gC rfl rfl (fun hC => ungdA (k := 15) rfl (ungdA (k := 16) rfl (callP rfl rfl (fun H => Z44_walk (gx5 hC) H)))) rfl ?_
 refine s0 (pickAndA rfl rfl rfl) rfl ?_
 refine s0 assignA rfl ?_
 refine nil ?_
 refine hK4 _ ?_
 clear hK4 K4
 refine AWp.ret ?_
 repeat (first | refine xBlock_ret ?_ | refine xThen_ret ?_)
 obtain rfl := Option.some.inj hE
 refine retQ.retF H rfl ⟨rfl, rfl⟩ ?_
 exact (fun _ _ h => h)
def Z50 (a0 : TDoc) (a1 : TVar) (a2 : TRef) (a3 : Bool) : Option Bool := (Z37 a1.FType a2).bind fun x3 => some x3
theorem Z50_walk {a0 : TDoc} {a1 : TVar} {a2 : TRef} {a3 : Bool}   {r : Bool} (hE : Z50 a0 a1 a2 a3 = some r) (H : Heap)  : ACalls Tryd.prog 10 [.agg (TDoc.c a0), .agg (TVar.c a1), .agg (TRef.c a2), .d (.bool a3)] H fun v h' => v = .a (.d (.bool r)) ∧ h' = H := by
 unfold Z50 at hE
 refine ACalls.of_wp (fn := Tryd.f10) (c := _) Tryd.tab_ok (fun _ _ => Tryd.call10 _ _) Tryd.func10 rfl (n := 13) rfl (rs := [.tmp 8]) rfl rfl ?_
 refine seqK fun K1 hK1 => ?_
 refine region ?_
 refine s0 (boxV rfl) rfl ?_
 refine s0 (boxV rfl) rfl ?_
 refine s0 (boxV rfl) rfl ?_
 refine s0 assignA rfl ?_
 refine nil ?_
 refine hK1 _ ?_
 clear hK1 K1
 refine seqK fun K2 hK2 => ?_
 refine region ?_
 refine s0 (fieldVA (TK rfl) rfl rfl (TK rfl) rfl rfl) rfl ?_
 refine s0 (loadV (TK rfl) rfl rfl rfl) rfl ?_
 refine s0 (loadV (TK rfl) rfl rfl rfl) rfl ?_
 obtain ⟨x3, gx3, hE⟩ := bindO_some hE
 refine s0 (callP rfl rfl (fun H => Z37_walk gx3 H)) rfl ?_
 refine s0 assignA rfl ?_
 refine nil ?_
 refine hK2 _ ?_
 clear hK2 K2
 refine AWp.ret ?_
 repeat (first | refine xBlock_ret ?_ | refine xThen_ret ?_)
 obtain rfl := Option.some.inj hE
 refine retQ.retF H rfl ⟨rfl, rfl⟩ ?_
 exact (fun _ _ h => h)
theorem eqt_73 : eqTab Tryd.prog 73 = some [.int .i64, .str] := by kernel_rfl
def Z20_j8   : Option Bool := some true
def Z20_l11 (a0 : (Sl TFault)) (a1 : (Sl TFault))  : Nat → Nat → Option Bool
 | 0, _ => none
 | n11 + 1, s5_12 => bif (decide (((s5_12 : Nat) : Int) < ((a0.l.length : Nat) : Int))) then ((a0.l[s5_12]?).bind fun x19 => (a1.l[s5_12]?).bind fun x20 => bif (!(decide (x19.FErr = x20.FErr) && ((x19.FAt == x20.FAt) && true))) then (some false) else ((Z20_l11 a0 a1 n11) (s5_12 + 1))) else (Z20_j8   )
def Z20 (a0 : (Sl TFault)) (a1 : (Sl TFault)) : Option Bool := bif (!decide (((a0.l.length : Nat) : Int) = ((a1.l.length : Nat) : Int))) then (some false) else (Z20_l11 a0 a1 (a0.l.length + 1) 0)
theorem Z20_walk {a0 : (Sl TFault)} {a1 : (Sl TFault)} {w0 : Option Nat} {w1 : Option Nat}  {r : Bool} (hE : Z20 a0 a1 = some r) (H : Heap)  : ACalls Tryd.prog 14 [.d (Sl.d 2 TFault.c w0 a0), .d (Sl.d 2 TFault.c w1 a1)] H fun v h' => v = .a (.d (.bool r)) ∧ h' = H := by
 unfold Z20 at hE
 refine ACalls.of_wp (fn := Tryd.f14) (c := _) Tryd.tab_ok (fun _ _ => Tryd.call14 _ _) Tryd.func14 rfl (n := 26) rfl (rs := [.tmp 4]) rfl rfl ?_
 refine seqK fun K1 hK1 => ?_
 refine region ?_
 refine s0 assignA rfl ?_
 refine nil ?_
 refine hK1 _ ?_
 clear hK1 K1
 refine seqK fun K2 hK2 => ?_
 refine seqK fun K3 hK3 => ?_
 refine region ?_
 refine s0 moveA rfl ?_
 refine sLen (f := TFault.c) (s := a0) (TK rfl) rfl rfl rfl rfl fun hL4 => ?_
 refine s0 moveA rfl ?_
 refine sLen (f := TFault.c) (s := a1) (TK rfl) rfl rfl rfl rfl fun hL5 => ?_
 refine s0 (binI rfl rfl rfl) rfl ?_
 refine nil ?_
 refine hK3 _ ?_
 clear hK3 K3
 refine condE hE rfl (fun hc6 hE => ?_) (fun hc6 hE => ?_)
 ·refine seqK fun K7 hK7 => ?_
  refine region ?_
  refine s0 assignA rfl ?_
  refine nil ?_
  refine hK7 _ ?_
  clear hK7 K7
  refine AWp.ret ?_
  repeat (first | refine xBlock_ret ?_ | refine xThen_ret ?_)
  obtain rfl := Option.some.inj hE
  refine retQ.retF H rfl ⟨rfl, rfl⟩ ?_
  exact (fun _ _ h => h)
 refine AWp.skip ?_
 refine hK2 _ ?_
 clear hK2 K2
 refine seqJH KeepsT.nil (fun (z : Unit) => []) (fun z => H) (fun z => Z20_j8  = some r) ?_ ?_
 ·intro K8 hK8
  refine seqK fun K10 hK10 => ?_
  refine region ?_
  refine s0 assignA rfl ?_
  refine nil ?_
  refine hK10 _ ?_
  clear hK10 K10
  refine block ?_
  refine loopH (KeepsT.A (k := 0) (KeepsT.A (k := 1) KeepsT.nil)) (fun (z : Nat × Nat) => [(5, .a (.d (.int .i64 ((z.2 : Nat) : Int))))]) (fun z => H) (fun z => z.1) (fun z => Z20_l11 a0 a1 z.1 z.2 = some r) ((a0.l.length + 1), 0) hE Weak.toA ?_
  rintro ⟨n11, s5_12⟩ hE K11 hK11
  try dsimp only at hE
  cases n11 with
  | zero => cases hE
  | succ n11 =>
    rw [Z20_l11] at hE
    refine seqK fun K13 hK13 => ?_
    refine seqK fun K14 hK14 => ?_
    refine region ?_
    refine s0 moveA rfl ?_
    refine s0 moveA rfl ?_
    refine sLen (f := TFault.c) (s := a0) (TK rfl) rfl rfl rfl rfl fun hL15 => ?_
    refine s0 (binI rfl rfl rfl) rfl ?_
    refine nil ?_
    refine hK14 _ ?_
    clear hK14 K14
    refine condE hE rfl (fun hc16 hE => ?_) (fun hc16 hE => ?_)
    ·try dsimp only at hc16
     have hf16 := of_decide_eq_true hc16
     refine AWp.skip ?_
     refine hK13 _ ?_
     clear hK13 K13
     refine seqK fun K17 hK17 => ?_
     refine block ?_
     refine seqK fun K18 hK18 => ?_
     refine AWp.draw rfl ?_
     refine DOps.s0 moveA rfl ?_
     refine DOps.s0 moveA rfl ?_
     obtain ⟨x19, gx19, hE⟩ := bindO_some hE
     refine DOps.s0 (idxMn (f := TFault.c) (n := s5_12) (TK rfl) rfl (TK rfl) rfl rfl rfl gx19) rfl ?_
     refine DOps.s0 (loadV (TK rfl) rfl rfl rfl) rfl ?_
     refine DOps.s0 moveA rfl ?_
     refine DOps.s0 moveA rfl ?_
     obtain ⟨x20, gx20, hE⟩ := bindO_some hE
     refine DOps.s0 (idxMn (f := TFault.c) (n := s5_12) (TK rfl) rfl (TK rfl) rfl rfl rfl gx20) rfl ?_
     refine DOps.s0 (loadV (TK rfl) rfl rfl rfl) rfl ?_
     refine DOps.s0 (neStruct eqt_73 rfl rfl rfl rfl) rfl ?_
     refine DOps.nil (by decide +kernel) ?_
     refine hK18 _ ?_
     clear hK18 K18
     refine condE hE rfl (fun hc21 hE => ?_) (fun hc21 hE => ?_)
     ·refine seqK fun K22 hK22 => ?_
      refine region ?_
      refine s0 assignA rfl ?_
      refine nil ?_
      refine hK22 _ ?_
      clear hK22 K22
      refine AWp.ret ?_
      repeat (first | refine xBlock_ret ?_ | refine xThen_ret ?_)
      obtain rfl := Option.some.inj hE
      refine retQ.retF H rfl ⟨rfl, rfl⟩ ?_
      exact (fun _ _ h => h)
     refine AWp.skip ?_
     refine hK17 _ ?_
     clear hK17 K17
     refine region ?_
     refine s0 moveA rfl ?_
     refine s0 (addIA rfl rfl) rfl ?_
     refine s0 assignA rfl ?_
     refine nil ?_
     exact hK11 _ (n11, (s5_12 + 1)) Weak.toA hE (Nat.lt_succ_self _)
    refine AWp.exit ?_
    exact hK8 _ () Weak.toA hE
 rintro _ hE
 try dsimp only at hE
 unfold Z20_j8 at hE
 refine seqK fun K9 hK9 => ?_
 refine region ?_
 refine s0 assignA rfl ?_
 refine nil ?_
 refine hK9 _ ?_
 clear hK9 K9
 refine AWp.ret ?_
 repeat (first | refine xBlock_ret ?_ | refine xThen_ret ?_)
 obtain rfl := Option.some.inj hE
 refine retQ.retF H rfl ⟨rfl, rfl⟩ ?_
 exact (fun _ _ h => h)
def Z35_j2   : Option Int := some (-1 : Int)
def Z35_l6 (a0 : (Sl TVar)) (a1 : (TVar → Option Bool))  : Nat → Nat → Option Int
 | 0, _ => none
 | n6 + 1, s8_7 => bif (decide (((s8_7 : Nat) : Int) < ((a0.l.length : Nat) : Int))) then ((a0.l[s8_7]?).bind fun x14 => (a1 x14).bind fun x15 => bif x15 then (some ((s8_7 : Nat) : Int)) else ((Z35_l6 a0 a1 n6) (s8_7 + 1))) else (Z35_j2   )
def Z35 (a0 : (Sl TVar)) (a1 : (TVar → Option Bool)) : Option Int := Z35_l6 a0 a1 (a0.l.length + 1) 0
theorem Z35_walk {a0 : (Sl TVar)} {a1 : (TVar → Option Bool)} {w0 : Option Nat} {cl1 : List D} {k1 : Nat} {r : Int} (hE : Z35 a0 a1 = some r) (H : Heap) (hf1 : ∀ x0 r, a1 x0 = some r → ∀ H, ACalls Tryd.prog k1 ([.agg (TVar.c x0)] ++ cl1.map A.d) H fun v h' => v = .a (.d (.bool r)) ∧ h' = H) : ACalls Tryd.prog 58 [.d (Sl.d 9 TVar.c w0 a0), .d (.func k1 cl1)] H fun v h' => v = .a (.d (.int .i64 r)) ∧ h' = H := by
 unfold Z35 at hE
 refine ACalls.of_wp (fn := Tryd.f58) (c := _) Tryd.tab_ok (fun _ _ => Tryd.call58 _ _) Tryd.func58 rfl (n := 19) rfl (rs := [.tmp 4]) rfl rfl ?_
 refine seqK fun K1 hK1 => ?_
 refine region ?_
 refine s0 assignA rfl ?_
 refine nil ?_
 refine hK1 _ ?_
 clear hK1 K1
 refine seqJH KeepsT.nil (fun (z : Unit) => []) (fun z => H) (fun z => Z35_j2  = some r) ?_ ?_
 ·intro K2 hK2
  refine seqK fun K4 hK4 => ?_
  refine region ?_
  refine s0 moveA rfl ?_
  refine sLen (f := TVar.c) (s := a0) (TK rfl) rfl rfl rfl rfl fun hL5 => ?_
  refine s0 moveA rfl ?_
  refine nil ?_
  refine hK4 _ ?_
  clear hK4 K4
  refine block ?_
  refine loopH (KeepsT.A (k := 0) (KeepsT.A (k := 1) (KeepsT.A (k := 7) KeepsT.nil))) (fun (z : Nat × Nat) => [(8, .a (.d (.int .i64 ((z.2 : Nat) : Int))))]) (fun z => H) (fun z => z.1) (fun z => Z35_l6 a0 a1 z.1 z.2 = some r) ((a0.l.length + 1), 0) hE Weak.toA ?_
  rintro ⟨n6, s8_7⟩ hE K6 hK6
  try dsimp only at hE
  cases n6 with
  | zero => cases hE
  | succ n6 =>
    rw [Z35_l6] at hE
    refine seqK fun K8 hK8 => ?_
    refine region ?_
    refine s0 (binI rfl rfl rfl) rfl ?_
    refine nil ?_
    refine hK8 _ ?_
    clear hK8 K8
    refine seqK fun K9 hK9 => ?_
    refine condE hE rfl (fun hc10 hE => ?_) (fun hc10 hE => ?_)
    ·try dsimp only at hc10
     have hf10 := of_decide_eq_true hc10
     refine AWp.skip ?_
     refine hK9 _ ?_
     clear hK9 K9
     refine seqK fun K11 hK11 => ?_
     refine block ?_
     refine seqK fun K12 hK12 => ?_
     refine region ?_
     refine s0 moveA rfl ?_
     refine s0 assignA rfl ?_
     refine nil ?_
     refine hK12 _ ?_
     clear hK12 K12
     refine seqK fun K13 hK13 => ?_
     refine region ?_
     refine s0 moveA rfl ?_
     refine s0 moveA rfl ?_
     refine s0 moveA rfl ?_
     obtain ⟨x14, gx14, hE⟩ := bindO_some hE
     refine s0 (idxMn (f := TVar.c) (n := s8_7) (TK rfl) rfl (TK rfl) rfl rfl rfl gx14) rfl ?_
     refine s0 (loadV (TK rfl) rfl rfl rfl) rfl ?_
     obtain ⟨x15, gx15, hE⟩ := bindO_some hE
     refine s0 (callP rfl rfl (hf1 _ _ gx15)) rfl ?_
     refine nil ?_
     refine hK13 _ ?_
     clear hK13 K13
     refine condE hE rfl (fun hc16 hE => ?_) (fun hc16 hE => ?_)
     ·refine seqK fun K17 hK17 => ?_
      refine region ?_
      refine s0 moveA rfl ?_
      refine s0 assignA rfl ?_
      refine nil ?_
      refine hK17 _ ?_
      clear hK17 K17
      refine AWp.ret ?_
      repeat (first | refine xBlock_ret ?_ | refine xThen_ret ?_)
      obtain rfl := Option.some.inj hE
      refine retQ.retF H rfl ⟨rfl, rfl⟩ ?_
      exact (fun _ _ h => h)
     refine AWp.skip ?_
     refine hK11 _ ?_
     clear hK11 K11
     refine region ?_
     refine s0 (addIA rfl rfl) rfl ?_
     refine s0 moveA rfl ?_
     refine nil ?_
     exact hK6 _ (n6, (s8_7 + 1)) Weak.toA hE (Nat.lt_succ_self _)
    refine AWp.exit ?_
    exact hK2 _ () Weak.toA hE
 rintro _ hE
 try dsimp only at hE
 unfold Z35_j2 at hE
 refine seqK fun K3 hK3 => ?_
 refine region ?_
 refine s0 assignA rfl ?_
 refine nil ?_
 refine hK3 _ ?_
 clear hK3 K3
 refine AWp.ret ?_
 repeat (first | refine xBlock_ret ?_ | refine xThen_ret ?_)
 obtain rfl := Option.some.inj hE
 refine retQ.retF H rfl ⟨rfl, rfl⟩ ?_
 exact (fun _ _ h => h)
def Z31 (a0 : (Sl TVar)) (a1 : (TVar → Option Bool)) : Option Bool := (Z35 a0 a1).bind fun x3 => some (decide ((0 : Int) ≤ x3))
theorem Z31_walk {a0 : (Sl TVar)} {a1 : (TVar → Option Bool)} {w0 : Option Nat} {cl1 : List D} {k1 : Nat} {r : Bool} (hE : Z31 a0 a1 = some r) (H : Heap) (hf1 : ∀ x0 r, a1 x0 = some r → ∀ H, ACalls Tryd.prog k1 ([.agg (TVar.c x0)] ++ cl1.map A.d) H fun v h' => v = .a (.d (.bool r)) ∧ h' = H) : ACalls Tryd.prog 43 [.d (Sl.d 9 TVar.c w0 a0), .d (.func k1 cl1)] H fun v h' => v = .a (.d (.bool r)) ∧ h' = H := by
 unfold Z31 at hE
 refine ACalls.of_wp (fn := Tryd.f43) (c := _) Tryd.tab_ok (fun _ _ => Tryd.call43 _ _) Tryd.func43 rfl (n := 9) rfl (rs := [.tmp 4]) rfl rfl ?_
 refine seqK fun K1 hK1 => ?_
 refine region ?_
 refine s0 assignA rfl ?_
 refine nil ?_
 refine hK1 _ ?_
 clear hK1 K1
 refine seqK fun K2 hK2 => ?_
 refine region ?_
 refine s0 moveA rfl ?_
 refine s0 moveA rfl ?_
 obtain ⟨x3, gx3, hE⟩ := bindO_some hE
 refine s0 (callP rfl rfl (fun H => Z35_walk gx3 H hf1)) rfl ?_
 refine s0 (binI rfl rfl rfl) rfl ?_
 refine s0 assignA rfl ?_
 refine nil ?_
 refine hK2 _ ?_
 clear hK2 K2
 refine AWp.ret ?_
 repeat (first | refine xBlock_ret ?_ | refine xThen_ret ?_)
 obtain rfl := Option.some.inj hE
 refine retQ.retF H rfl ⟨rfl, rfl⟩ ?_
 exact (fun _ _ h => h)
def Z54 (a0 : TVar) (a1 : TVar) : Option Bool := some ((a0.FName == a1.FName))
theorem Z54_walk {a0 : TVar} {a1 : TVar}   {r : Bool} (hE : Z54 a0 a1 = some r) (H : Heap)  : ACalls Tryd.prog 44 [.agg (TVar.c a0), .d (.view (TVar.c a1))] H fun v h' => v = .a (.d (.bool r)) ∧ h' = H := by
 unfold Z54 at hE
 refine ACalls.of_wp (fn := Tryd.f44) (c := _) Tryd.tab_ok (fun _ _ => Tryd.call44 _ _) Tryd.func44 rfl (n := 9) rfl (rs := [.tmp 3]) rfl rfl ?_
 refine seqK fun K1 hK1 => ?_
 refine region ?_
 refine s0 (boxV rfl) rfl ?_
 refine s0 assignA rfl ?_
 refine nil ?_
 refine hK1 _ ?_
 clear hK1 K1
 refine seqK fun K2 hK2 => ?_
 refine region ?_
 refine s0 (fieldVA (TK rfl) rfl rfl (TK rfl) rfl rfl) rfl ?_
 refine s0 (loadV (TK rfl) rfl rfl rfl) rfl ?_
 refine s0 (fieldVA (TK rfl) rfl rfl (TK rfl) rfl rfl) rfl ?_
 refine s0 (loadV (TK rfl) rfl rfl rfl) rfl ?_
 refine s0 (binS rfl rfl rfl) rfl ?_
 refine s0 assignA rfl ?_
 refine nil ?_
 refine hK2 _ ?_
 clear hK2 K2
 refine AWp.ret ?_
 repeat (first | refine xBlock_ret ?_ | refine xThen_ret ?_)
 obtain rfl := Option.some.inj hE
 refine retQ.retF H rfl ⟨rfl, rfl⟩ ?_
 exact (fun _ _ h => h)
def Z52 (a0 : Vars_checker) (a1 : Bool) (a2 : Int) (a3 : Bs) : Option Vars_checker := bif a1 then ((appC 24 a0.Fout (⟨false, [(TFault.mk a2 a3)]⟩ : Sl TFault)).bind fun x3 => some (Vars_checker.mk a0.Fd a0.Fvars x3)) else (some a0)
theorem Z52_walk {a0 : Vars_checker} {a1 : Bool} {a2 : Int} {a3 : Bs}  {c0 : Nat} {c0_2 : Nat} {r : Vars_checker} (hE : Z52 a0 a1 a2 a3 = some r) (H : Heap) (hc0 : H c0 = some (.cells (Vars_checker.cg (some c0_2) a0))) (ht0_2 : H c0_2 = some (.tok 2 a0.Fout.l.length)) : ACalls Tryd.prog 45 [.d (.ptr c0 0), .d (.bool a1), .d (.int .i64 a2), .d (.str a3)] H fun v h' => v = .tup [] ∧ h' = ((H.set c0_2 (some (.tok 2 r.Fout.l.length))).set c0 (some (.cells (Vars_checker.cg (some c0_2) r)))) := by
 unfold Z52 at hE
 refine ACalls.of_wp (fn := Tryd.f45) (c := _) Tryd.tab_ok (fun _ _ => Tryd.call45 _ _) Tryd.func45 rfl (n := 21) rfl (rs := []) rfl rfl ?_
 have ne_c0_c0_2 : c0 ≠ c0_2 := fun e_ => by subst e_; simp_all
 refine AWp.heqA (h' := ((H.set c0_2 (some (.tok 2 a0.Fout.l.length))).set c0 (some (.cells (Vars_checker.cg (some c0_2) a0))))) (by funext n_; simp only [Heap.set]; (repeat' split) <;> simp_all) ?_
 refine seqK fun K1 hK1 => ?_
 refine region ?_
 refine s0 moveA rfl ?_
 refine nil ?_
 refine hK1 _ ?_
 clear hK1 K1
 refine condE hE rfl (fun hc2 hE => ?_) (fun hc2 hE => ?_)
 ·refine region ?_
  refine s0 moveA rfl ?_
  refine s0 moveA rfl ?_
  refine s0 (nilP rfl) rfl ?_
  refine s0 (fieldP (TK rfl) rfl rfl (TK rfl) rfl rfl) rfl ?_
  refine s0 (loadP (TK rfl) rfl rfl hpG rfl) rfl ?_
  refine s0 moveA rfl ?_
  refine s0 moveA rfl ?_
  refine s0 (build Tryd.tab_ok rfl rfl rfl rfl rfl rfl) rfl ?_
  refine s0 (buildSlice (TK rfl) rfl (TK rfl) rfl rfl rfl rfl rfl rfl) rfl ?_
  obtain ⟨x3, gx3, hE⟩ := bindO_some hE
  refine sH (appM (f := TFault.c) (TK rfl) rfl (TK rfl) (TK rfl) ⟨_, rfl⟩ rfl rfl (by decide) rfl rfl rfl rfl hpG rfl gx3) rfl ?_
  refine AOps.heq (h' := ((H.set c0_2 (some (.tok 2 x3.l.length))).set c0 (some (.cells (Vars_checker.cg (some c0_2) a0))))) (by first | rfl | (rw [Heap.set_set]; rfl) | (funext n_; simp only [Heap.set]; (repeat' split) <;> first | rfl | (exfalso; simp_all; done) | (simp_all; done))) ?_
  refine s0 (nilP rfl) rfl ?_
  refine s0 (fieldP (TK rfl) rfl rfl (TK rfl) rfl rfl) rfl ?_
  refine sHn (storeP1 (TK rfl) rfl rfl hpG rfl (by repeat (first | exact SetAt.zero | apply SetAt.succ))) rfl rfl ?_
  refine AOps.heq (h' := ((H.set c0_2 (some (.tok 2 x3.l.length))).set c0 (some (.cells (Vars_checker.cg (some c0_2) (Vars_checker.mk a0.Fd a0.Fvars x3)))))) (by first | rfl | (rw [Heap.set_set]; rfl) | (funext n_; simp only [Heap.set]; (repeat' split) <;> first | rfl | (exfalso; simp_all; done) | (simp_all; done))) ?_
  refine nil ?_
  repeat (first | refine xBlock_normal ?_ | refine xThen_exit ?_ | refine xBlock_exit ?_)
  obtain rfl := Option.some.inj hE
  refine retQ.normalF ((H.set c0_2 (some (.tok 2 x3.l.length))).set c0 (some (.cells (Vars_checker.cg (some c0_2) (Vars_checker.mk a0.Fd a0.Fvars x3))))) (xs := []) rfl ⟨rfl, rfl⟩ ?_
  exact (fun _ _ h => h)
 refine AWp.skip ?_
 repeat (first | refine xBlock_normal ?_ | refine xThen_exit ?_ | refine xBlock_exit ?_)
 obtain rfl := Option.some.inj hE
 refine retQ.normalF ((H.set c0_2 (some (.tok 2 a0.Fout.l.length))).set c0 (some (.cells (Vars_checker.cg (some c0_2) a0)))) (xs := []) rfl ⟨rfl, rfl⟩ ?_
 exact (fun _ _ h => h)
def Z23_j2  (y3_l0 : TDef) : Option (TDef × Bool) := some ((TDef.mk (0 : Int) ([] : Bs) (Sl.nil : Sl Bs) (Sl.nil : Sl TDir) (Sl.nil : Sl TField) (Sl.nil : Sl TMember) (Sl.nil : Sl TInput)), false)
def Z23_l7 (a0 : TDoc) (a1 : Bs)  : Nat → Nat → TDef → Option (TDef × Bool)
 | 0, _, _ => none
 | n7 + 1, s11_8, y9_l0 => bif (decide (((s11_8 : Nat) : Int) < ((a0.FDefs.l.length : Nat) : Int))) then ((a0.FDefs.l[s11_8]?).bind fun x15 => bif ((x15.FName == a1)) then (some (x15, true)) else ((Z23_l7 a0 a1 n7) (s11_8 + 1) y9_l0)) else (Z23_j2   y9_l0)
def Z23 (a0 : TDoc) (a1 : Bs) : Option (TDef × Bool) := Z23_l7 a0 a1 (a0.FDefs.l.length + 1) 0 TDef.zero
theorem Z23_walk {a0 : TDoc} {a1 : Bs}   {r : (TDef × Bool)} (hE : Z23 a0 a1 = some r) (H : Heap)  : ACalls Tryd.prog 46 [.agg (TDoc.c a0), .d (.str a1)] H fun v h' => v = .tup [.agg (TDef.c r.1), .d (.bool r.2)] ∧ h' = H := by
 unfold Z23 at hE
 refine ACalls.of_wp (fn := Tryd.f46) (c := _) Tryd.tab_ok (fun _ _ => Tryd.call46 _ _) Tryd.func46 rfl (n := 22) rfl (rs := [.cell 4 67, .tmp 5]) rfl rfl ?_
 refine seqK fun K1 hK1 => ?_
 refine region ?_
 refine s0 (boxV rfl) rfl ?_
 refine sL (allocLA (TK rfl) rfl) rfl ?_
 refine s0 assignA rfl ?_
 refine nil ?_
 refine hK1 _ ?_
 clear hK1 K1
 refine seqJ (KeepsT.A (k := 4) KeepsT.nil) (fun (z : TDef) => []) (fun z => [TDef.c z]) (fun z => H) (fun z => Z23_j2 z = some r) ?_ ?_
 ·intro K2 hK2
  refine seqK fun K5 hK5 => ?_
  refine region ?_
  refine s0 (fieldVA (TK rfl) rfl rfl (TK rfl) rfl rfl) rfl ?_
  refine s0 (loadV (TK rfl) rfl rfl rfl) rfl ?_
  refine sLen (f := TDef.c) (s := a0.FDefs) (TK rfl) rfl rfl rfl rfl fun hL6 => ?_
  refine s0 moveA rfl ?_
  refine nil ?_
  refine hK5 _ ?_
  clear hK5 K5
  refine block ?_
  refine loopO (KeepsT.A (k := 1) (KeepsT.A (k := 4) (KeepsT.A (k := 9) (KeepsT.A (k := 10) KeepsT.nil)))) (fun (z : Nat × Nat × TDef) => [(11, .a (.d (.int .i64 ((z.2.1 : Nat) : Int))))]) (fun z => [TDef.c z.2.2]) (fun z => H) (fun z => z.1) (fun z => Z23_l7 a0 a1 z.1 z.2.1 z.2.2 = some r) ((a0.FDefs.l.length + 1), 0, TDef.zero) hE Weak.toA ?_
  rintro ⟨n7, s11_8, y9_l0⟩ hE K7 hK7
  try dsimp only at hE
  cases n7 with
  | zero => cases hE
  | succ n7 =>
    rw [Z23_l7] at hE
    refine seqK fun K10 hK10 => ?_
    refine region ?_
    refine s0 (binI rfl rfl rfl) rfl ?_
    refine nil ?_
    refine hK10 _ ?_
    clear hK10 K10
    refine seqK fun K11 hK11 => ?_
    refine condE hE rfl (fun hc12 hE => ?_) (fun hc12 hE => ?_)
    ·try dsimp only at hc12
     have hf12 := of_decide_eq_true hc12
     refine AWp.skip ?_
     refine hK11 _ ?_
     clear hK11 K11
     refine seqK fun K13 hK13 => ?_
     refine block ?_
     refine seqK fun K14 hK14 => ?_
     refine region ?_
     obtain ⟨x15, gx15, hE⟩ := bindO_some hE
     refine s0 (idxMn (f := TDef.c) (n := s11_8) (TK rfl) rfl (TK rfl) rfl rfl rfl gx15) rfl ?_
     refine s0 (loadV (TK rfl) rfl rfl rfl) rfl ?_
     refine sL (allocLA (TK rfl) rfl) rfl ?_
     refine sLn (storeLFA (TK rfl) rfl rfl rfl rfl rfl) ?_
     refine nil ?_
     refine hK14 _ ?_
     clear hK14 K14
     refine freezeA 7 _ rfl (Keeps.c (k := 1) (by conv => lhs; whnf) (by rfl) (Keeps.c (k := 4) (by conv => lhs; whnf) (by rfl) (Keeps.c (k := 9) (by conv => lhs; whnf) (by rfl) (Keeps.c (k := 10) (by conv => lhs; whnf) (by rfl) (Keeps.c (k := 11) (by conv => lhs; whnf) (by rfl) Keeps.nil))))) ?_
     refine seqK fun K16 hK16 => ?_
     refine region ?_
     refine s0 (fieldVA (TK rfl) rfl rfl (TK rfl) rfl rfl) rfl ?_
     refine s0 (loadV (TK rfl) rfl rfl rfl) rfl ?_
     refine s0 moveA rfl ?_
     refine s0 (binS rfl rfl rfl) rfl ?_
     refine nil ?_
     refine hK16 _ ?_
     clear hK16 K16
     refine condE hE rfl (fun hc17 hE => ?_) (fun hc17 hE => ?_)
     ·refine seqK fun K18 hK18 => ?_
      refine region ?_
      refine s0 (loadV (TK rfl) rfl rfl rfl) rfl ?_
      refine sLn (storeLFA (TK rfl) rfl rfl rfl rfl rfl) ?_
      refine s0 assignA rfl ?_
      refine nil ?_
      refine hK18 _ ?_
      clear hK18 K18
      refine AWp.ret ?_
      repeat (first | refine xBlock_ret ?_ | refine xThen_ret ?_)
      obtain rfl := Option.some.inj hE
      refine retQ.retF H rfl ⟨rfl, rfl⟩ ?_
      exact (fun _ _ h => h)
     refine AWp.skip ?_
     refine hK13 _ ?_
     clear hK13 K13
     refine region ?_
     refine s0 (addIA rfl rfl) rfl ?_
     refine s0 moveA rfl ?_
     refine nil ?_
     exact hK7 _ (n7, (s11_8 + 1), y9_l0) Weak.toA hE (Nat.lt_succ_self _)
    refine AWp.exit ?_
    exact hK2 _ y9_l0 Weak.toA hE
 rintro y3_l0 hE
 try dsimp only at hE
 unfold Z23_j2 at hE
 refine seqK fun K4 hK4 => ?_
 refine region ?_
 refine s0 (build Tryd.tab_ok rfl rfl rfl rfl rfl rfl) rfl ?_
 refine sLn (storeLFA (TK rfl) rfl rfl rfl rfl rfl) ?_
 refine s0 assignA rfl ?_
 refine nil ?_
 refine hK4 _ ?_
 clear hK4 K4
 refine AWp.ret ?_
 repeat (first | refine xBlock_ret ?_ | refine xThen_ret ?_)
 obtain rfl := Option.some.inj hE
 refine retQ.retF H rfl ⟨rfl, rfl⟩ ?_
 exact (fun _ _ h => h)
def Z28 (a0 : Bs) : Option Bool := some (((((a0 == ([73, 110, 116] : Bs))) || ((a0 == ([83, 116, 114, 105, 110, 103] : Bs)))) || ((a0 == ([66, 111, 111, 108, 101, 97, 110] : Bs)))) || ((a0 == ([73, 68] : Bs))))
theorem Z28_walk {a0 : Bs}   {r : Bool} (hE : Z28 a0 = some r) (H : Heap)  : ACalls Tryd.prog 47 [.d (.str a0)] H fun v h' => v = .a (.d (.bool r)) ∧ h' = H := by
 unfold Z28 at hE
 refine ACalls.of_wp (fn := Tryd.f47) (c := _) Tryd.tab_ok (fun _ _ => Tryd.call47 _ _) Tryd.func47 rfl (n := 17) rfl (rs := [.tmp 2]) rfl rfl ?_
 refine seqK fun K1 hK1 => ?_
 refine region ?_
 refine s0 assignA rfl ?_
 refine nil ?_
 refine hK1 _ ?_
 clear hK1 K1
 refine seqK fun K2 hK2 => ?_
 refine region ?_
 refine s0 moveA rfl ?_
 refine s0 (binS rfl rfl rfl) rfl ?_
 refine s0 moveA rfl ?_
 refine gC rfl rfl (fun hC => moveA) rfl ?_
 refine gC rfl rfl (fun hC => ungdA (k := 6) rfl (binS rfl rfl rfl)) rfl ?_
 refine s0 (pickOrA rfl rfl rfl) rfl ?_
 refine s0 moveA rfl ?_
 refine gC rfl rfl (fun hC => moveA) rfl ?_
 refine gC rfl rfl (fun hC => ungdA (k := 10) rfl (binS rfl rfl rfl)) rfl ?_
 refine s0 (pickOrA rfl rfl rfl) rfl ?_
 refine s0 moveA rfl ?_
 refine gC rfl rfl (fun hC => moveA) rfl ?_
 refine gC rfl rfl (fun hC => ungdA (k := 14) rfl (binS rfl rfl rfl)) rfl ?_
 refine s0 (pickOrA rfl rfl rfl) rfl ?_
 refine s0 assignA rfl ?_
 refine nil ?_
 refine hK2 _ ?_
 clear hK2 K2
 refine AWp.ret ?_
 repeat (first | refine xBlock_ret ?_ | refine xThen_ret ?_)
 obtain rfl := Option.some.inj hE
 refine retQ.retF H rfl ⟨rfl, rfl⟩ ?_
 exact (fun _ _ h => h)
def Z29 (a0 : TDoc) (a1 : Bs) : Option Int := (Z23 a0 a1).bind fun x3 => some x3.1.FKind
theorem Z29_walk {a0 : TDoc} {a1 : Bs}   {r : Int} (hE : Z29 a0 a1 = some r) (H : Heap)  : ACalls Tryd.prog 60 [.agg (TDoc.c a0), .d (.str a1)] H fun v h' => v = .a (.d (.int .i64 r)) ∧ h' = H := by
 unfold Z29 at hE
 refine ACalls.of_wp (fn := Tryd.f60) (c := _) Tryd.tab_ok (fun _ _ => Tryd.call60 _ _) Tryd.func60 rfl (n := 15) rfl (rs := [.tmp 4]) rfl rfl ?_
 refine seqK fun K1 hK1 => ?_
 refine region ?_
 refine s0 (boxV rfl) rfl ?_
 refine s0 assignA rfl ?_
 refine nil ?_
 refine hK1 _ ?_
 clear hK1 K1
 refine seqK fun K2 hK2 => ?_
 refine region ?_
 refine s0 (loadV (TK rfl) rfl rfl rfl) rfl ?_
 refine s0 moveA rfl ?_
 obtain ⟨x3, gx3, hE⟩ := bindO_some hE
 refine s0 (callP rfl rfl (fun H => Z23_walk gx3 H)) rfl ?_
 refine s0 moveA rfl ?_
 refine s0 (extract rfl rfl) rfl ?_
 refine s0 (extract rfl rfl) rfl ?_
 refine sL (allocLA (TK rfl) rfl) rfl ?_
 refine sLn (storeLFA (TK rfl) rfl rfl rfl rfl rfl) ?_
 refine s0 assignA rfl ?_
 refine nil ?_
 refine hK2 _ ?_
 clear hK2 K2
 refine freezeA 5 _ rfl Keeps.nil ?_
 refine seqK fun K4 hK4 => ?_
 refine region ?_
 refine s0 (fieldVA (TK rfl) rfl rfl (TK rfl) rfl rfl) rfl ?_
 refine s0 (loadV (TK rfl) rfl rfl rfl) rfl ?_
 refine s0 assignA rfl ?_
 refine nil ?_
 refine hK4 _ ?_
 clear hK4 K4
 refine AWp.ret ?_
 repeat (first | refine xBlock_ret ?_ | refine xThen_ret ?_)
 obtain rfl := Option.some.inj hE
 refine retQ.retF H rfl ⟨rfl, rfl⟩ ?_
 exact (fun _ _ h => h)
def Z26 (a0 : TDoc) (a1 : Bs) : Option Bool := (Z28 a1).bind fun x3 => guardO (!x3) (Z29 a0 a1) (0 : Int) fun x4 => some (x3 || (decide (x4 = (4 : Int))))
theorem Z26_walk {a0 : TDoc} {a1 : Bs}   {r : Bool} (hE : Z26 a0 a1 = some r) (H : Heap)  : ACalls Tryd.prog 59 [.agg (TDoc.c a0), .d (.str a1)] H fun v h' => v = .a (.d (.bool r)) ∧ h' = H := by
 unfold Z26 at hE
 refine ACalls.of_wp (fn := Tryd.f59) (c := _) Tryd.tab_ok (fun _ _ => Tryd.call59 _ _) Tryd.func59 rfl (n := 13) rfl (rs := [.tmp 4]) rfl rfl ?_
 refine seqK fun K1 hK1 => ?_
 refine region ?_
 refine s0 (boxV rfl) rfl ?_
 refine s0 assignA rfl ?_
 refine nil ?_
 refine hK1 _ ?_
 clear hK1 K1
 refine seqK fun K2 hK2 => ?_
 refine region ?_
 refine s0 moveA rfl ?_
 obtain ⟨x3, gx3, hE⟩ := bindO_some hE
 refine s0 (callP rfl rfl (fun H => Z28_walk gx3 H)) rfl ?_
 refine s0 moveA rfl ?_
 refine gC rfl rfl (fun hC => loadV (TK rfl) rfl rfl rfl) rfl ?_
 refine gC rfl rfl (fun hC => moveA) rfl ?_
 obtain ⟨x4, gx4, hE⟩ := guardO_some hE
 refine gC rfl rfl (fun hC => ungdA (k := 8) rfl (ungdA (k := 9) rfl (callP rfl rfl (fun H => Z29_walk (gx4 hC) H)))) rfl ?_
 refine gC rfl rfl (fun hC => ungdA (k := 10) rfl (binI rfl rfl rfl)) rfl ?_
 refine s0 (pickOrA rfl rfl rfl) rfl ?_
 refine s0 assignA rfl ?_
 refine nil ?_
 refine hK2 _ ?_
 clear hK2 K2
 refine AWp.ret ?_
 repeat (first | refine xBlock_ret ?_ | refine xThen_ret ?_)
 obtain rfl := Option.some.inj hE
 refine retQ.retF H rfl ⟨rfl, rfl⟩ ?_
 exact (fun _ _ h => h)
def Z25 (a0 : TDoc) (a1 : Bs) : Option Bool := (Z26 a0 a1).bind fun x3 => guardO (!x3) (Z29 a0 a1) (0 : Int) fun x4 => some (x3 || (decide (x4 = (5 : Int))))
theorem Z25_walk {a0 : TDoc} {a1 : Bs}   {r : Bool} (hE : Z25 a0 a1 = some r) (H : Heap)  : ACalls Tryd.prog 48 [.agg (TDoc.c a0), .d (.str a1)] H fun v h' => v = .a (.d (.bool r)) ∧ h' = H := by
 unfold Z25 at hE
 refine ACalls.of_wp (fn := Tryd.f48) (c := _) Tryd.tab_ok (fun _ _ => Tryd.call48 _ _) Tryd.func48 rfl (n := 14) rfl (rs := [.tmp 4]) rfl rfl ?_
 refine seqK fun K1 hK1 => ?_
 refine region ?_
 refine s0 (boxV rfl) rfl ?_
 refine s0 assignA rfl ?_
 refine nil ?_
 refine hK1 _ ?_
 clear hK1 K1
 refine seqK fun K2 hK2 => ?_
 refine region ?_
 refine s0 (loadV (TK rfl) rfl rfl rfl) rfl ?_
 refine s0 moveA rfl ?_
 obtain ⟨x3, gx3, hE⟩ := bindO_some hE
 refine s0 (callP rfl rfl (fun H => Z26_walk gx3 H)) rfl ?_
 refine s0 moveA rfl ?_
 refine gC rfl rfl (fun hC => loadV (TK rfl) rfl rfl rfl) rfl ?_
 refine gC rfl rfl (fun hC => moveA) rfl ?_
 obtain ⟨x4, gx4, hE⟩ := guardO_some hE
 refine gC rfl rfl (fun hC => ungdA (k := 9) rfl (ungdA (k := 10) rfl (callP rfl rfl (fun H => Z29_walk (gx4 hC) H)))) rfl ?_
 refine gC rfl rfl (fun hC => ungdA (k := 11) rfl (binI rfl rfl rfl)) rfl ?_
 refine s0 (pickOrA rfl rfl rfl) rfl ?_
 refine s0 assignA rfl ?_
 refine nil ?_
 refine hK2 _ ?_
 clear hK2 K2
 refine AWp.ret ?_
 repeat (first | refine xBlock_ret ?_ | refine xThen_ret ?_)
 obtain rfl := Option.some.inj hE
 refine retQ.retF H rfl ⟨rfl, rfl⟩ ?_
 exact (fun _ _ h => h)
def Z0 (a0 : TDoc) (a1 : TRef) (a2 : TValue) (a3 : TValue) : Option (TValue × Int) := none
theorem Z0_walk {a0 : TDoc} {a1 : TRef} {a2 : TValue} {a3 : TValue}   {r : (TValue × Int)} (hE : Z0 a0 a1 a2 a3 = some r) (H : Heap)  : ACalls Tryd.prog 49 [.agg (TDoc.c a0), .agg (TRef.c a1), .agg (TValue.c a2), .agg (TValue.c a3)] H fun v h' => v = .tup [.agg (TValue.c r.1), .d (.int .i64 r.2)] ∧ h' = H := by cases hE
end Go.Proofs

namespace Go.Proofs
open Go Go.Ab
open AOps Cert AWp
def Z53_j10 (s17_5 : Nat) (k_next_4 : Nat → Vars_checker → Option Vars_checker) (y11_c0 : Vars_checker) : Option Vars_checker := k_next_4 (s17_5 + 1) y11_c0
def Z53_j29 (a1 : TOp) (a2 : (Sl Bs)) (s17_5 : Nat) (x13 : TVar) (k_next_4 : Nat → Vars_checker → Option Vars_checker) (y30_c0 : Vars_checker) : Option Vars_checker := (Z32 a2 x13.FName).bind fun x31 => (Z52 y30_c0 (!x31) (26 : Int) a1.FName).bind fun x32 => Z53_j10 s17_5 k_next_4 x32
def Z53_l4 (a1 : TOp) (a2 : (Sl Bs))  : Nat → Nat → Vars_checker → Option Vars_checker
 | 0, _, _ => none
 | n4 + 1, s17_5, y6_c0 => bif (decide (((s17_5 : Nat) : Int) < ((a1.FVars.l.length : Nat) : Int))) then ((a1.FVars.l[s17_5]?).bind fun x13 => (partC a1.FVars none (some ((s17_5 : Nat) : Int))).bind fun x15 => (Z31 x15 (fun y0 => Z54 y0 x13)).bind fun x16 => (Z52 y6_c0 x16 (7 : Int) a1.FName).bind fun x18 => (Z23 x18.Fd x13.FType.FName).bind fun x20 => guardO (!x20.2) (Z28 x13.FType.FName) false fun x22 => (Z25 x18.Fd x13.FType.FName).bind fun x24 => (Z52 x18 (!(x20.2 || x22)) (8 : Int) a1.FName).bind fun x26 => (Z52 x26 ((x20.2 || x22) && (!x24)) (10 : Int) a1.FName).bind fun x28 => bif (x13.FHas && x24) then ((Z0 x28.Fd x13.FType x13.FDefault (TValue.mk (6 : Int) (0 : Int) ([] : Bs) true ([]) (Sl.nil : Sl Bs))).bind fun x36 => (Z52 x28 (!decide (x36.2 = (0 : Int))) (23 : Int) a1.FName).bind fun x37 => Z53_j29 a1 a2 s17_5 x13 ((Z53_l4 a1 a2 n4)) x37) else (Z53_j29 a1 a2 s17_5 x13 ((Z53_l4 a1 a2 n4)) x28)) else (some y6_c0)
def Z53 (a0 : Vars_checker) (a1 : TOp) (a2 : (Sl Bs)) : Option Vars_checker := Z53_l4 a1 a2 (a1.FVars.l.length + 1) 0 a0
theorem Z53_walk {a0 : Vars_checker} {a1 : TOp} {a2 : (Sl Bs)} {w2 : Option Nat} {c0 : Nat} {c0_2 : Nat} {r : Vars_checker} (hE : Z53 a0 a1 a2 = some r) (H : Heap) (hc0 : H c0 = some (.cells (Vars_checker.cg (some c0_2) a0))) (ht0_2 : H c0_2 = some (.tok 2 a0.Fout.l.length)) : ACalls Tryd.prog 24 [.d (.ptr c0 0), .agg (TOp.c a1), .d (Sl.d 1 strE w2 a2)] H fun v h' => v = .tup [] ∧ h' = ((H.set c0_2 (some (.tok 2 r.Fout.l.length))).set c0 (some (.cells (Vars_checker.cg (some c0_2) r)))) := by
 unfold Z53 at hE
 refine ACalls.of_wp (fn := Tryd.f24) (c := _) Tryd.tab_ok (fun _ _ => Tryd.call24 _ _) Tryd.func24 rfl (n := 108) rfl (rs := []) rfl rfl ?_
 have ne_c0_c0_2 : c0 ≠ c0_2 := fun e_ => by subst e_; simp_all
 refine AWp.heqA (h' := ((H.set c0_2 (some (.tok 2 a0.Fout.l.length))).set c0 (some (.cells (Vars_checker.cg (some c0_2) a0))))) (by funext n_; simp only [Heap.set]; (repeat' split) <;> simp_all) ?_
 refine seqK fun K1 hK1 => ?_
 refine region ?_
 refine s0 (boxV rfl) rfl ?_
 refine nil ?_
 refine hK1 _ ?_
 clear hK1 K1
 refine seqK fun K2 hK2 => ?_
 refine region ?_
 refine s0 (fieldVA (TK rfl) rfl rfl (TK rfl) rfl rfl) rfl ?_
 refine s0 (loadV (TK rfl) rfl rfl rfl) rfl ?_
 refine sLen (f := TVar.c) (s := a1.FVars) (TK rfl) rfl rfl rfl rfl fun hL3 => ?_
 refine s0 moveA rfl ?_
 refine nil ?_
 refine hK2 _ ?_
 clear hK2 K2
 refine block ?_
 refine loopH (KeepsT.A (k := 0) (KeepsT.A (k := 2) (KeepsT.A (k := 4) (KeepsT.A (k := 15) (KeepsT.A (k := 16) KeepsT.nil))))) (fun (z : Nat × Nat × Vars_checker) => [(17, .a (.d (.int .i64 ((z.2.1 : Nat) : Int))))]) (fun z => ((H.set c0_2 (some (.tok 2 z.2.2.Fout.l.length))).set c0 (some (.cells (Vars_checker.cg (some c0_2) z.2.2))))) (fun z => z.1) (fun z => Z53_l4 a1 a2 z.1 z.2.1 z.2.2 = some r) ((a1.FVars.l.length + 1), 0, a0) hE Weak.toA ?_
 rintro ⟨n4, s17_5, y6_c0⟩ hE K4 hK4
 try dsimp only at hE
 cases n4 with
 | zero => cases hE
 | succ n4 =>
   rw [Z53_l4] at hE
   refine seqK fun K7 hK7 => ?_
   refine region ?_
   refine s0 (binI rfl rfl rfl) rfl ?_
   refine nil ?_
   refine hK7 _ ?_
   clear hK7 K7
   refine seqK fun K8 hK8 => ?_
   refine condE hE rfl (fun hc9 hE => ?_) (fun hc9 hE => ?_)
   ·try dsimp only at hc9
    have hf9 := of_decide_eq_true hc9
    refine AWp.skip ?_
    refine hK8 _ ?_
    clear hK8 K8
    refine seqJH (KeepsT.A (k := 0) (KeepsT.A (k := 2) (KeepsT.A (k := 4) (KeepsT.A (k := 15) (KeepsT.A (k := 16) (KeepsT.A (k := 17) KeepsT.nil)))))) (fun (z : Vars_checker) => []) (fun z => ((H.set c0_2 (some (.tok 2 z.Fout.l.length))).set c0 (some (.cells (Vars_checker.cg (some c0_2) z))))) (fun z => Z53_j10 s17_5 ((Z53_l4 a1 a2 n4)) z = some r) ?_ ?_
    ·intro K10 hK10
     refine block ?_
     refine seqK fun K12 hK12 => ?_
     refine region ?_
     refine s0 moveA rfl ?_
     obtain ⟨x13, gx13, hE⟩ := bindO_some hE
     refine s0 (idxMn (f := TVar.c) (n := s17_5) (TK rfl) rfl (TK rfl) rfl rfl rfl gx13) rfl ?_
     refine s0 (loadV (TK rfl) rfl rfl rfl) rfl ?_
     refine sL (allocLA (TK rfl) rfl) rfl ?_
     refine s0 assignA rfl ?_
     refine sLn (storeLFA (TK rfl) rfl rfl rfl rfl rfl) ?_
     refine nil ?_
     refine hK12 _ ?_
     clear hK12 K12
     refine freezeA 7 _ rfl (Keeps.c (k := 0) (by conv => lhs; whnf) (by rfl) (Keeps.c (k := 2) (by conv => lhs; whnf) (by rfl) (Keeps.c (k := 4) (by conv => lhs; whnf) (by rfl) (Keeps.c (k := 6) (by conv => lhs; whnf) (by rfl) (Keeps.c (k := 15) (by conv => lhs; whnf) (by rfl) (Keeps.c (k := 16) (by conv => lhs; whnf) (by rfl) (Keeps.c (k := 17) (by conv => lhs; whnf) (by rfl) Keeps.nil))))))) ?_
     refine seqK fun K14 hK14 => ?_
     refine region ?_
     refine s0 (fieldVA (TK rfl) rfl rfl (TK rfl) rfl rfl) rfl ?_
     refine s0 (loadV (TK rfl) rfl rfl rfl) rfl ?_
     refine s0 moveA rfl ?_
     obtain ⟨x15, gx15, hE⟩ := bindO_some hE
     refine s0 (partM (f := TVar.c) (l := none) (r := (some ((s17_5 : Nat) : Int))) (TK rfl) rfl (TK rfl) rfl rfl trivial rfl gx15) rfl ?_
     refine s0 (makeFunc rfl) rfl ?_
     obtain ⟨x16, gx16, hE⟩ := bindO_some hE
     refine s0 (callP rfl rfl (fun H => Z31_walk gx16 H (fun _ _ hx => Z54_walk hx))) rfl ?_
     refine s0 assignA rfl ?_
     refine nil ?_
     refine hK14 _ ?_
     clear hK14 K14
     refine seqK fun K17 hK17 => ?_
     refine region ?_
     refine s0 moveA rfl ?_
     refine s0 moveA rfl ?_
     refine s0 (fieldVA (TK rfl) rfl rfl (TK rfl) rfl rfl) rfl ?_
     refine s0 (loadV (TK rfl) rfl rfl rfl) rfl ?_
     obtain ⟨x18, gx18, hE⟩ := bindO_some hE
     refine sH (callH rfl rfl (Z52_walk gx18 _ hpG hpG)) rfl ?_
     refine AOps.heq (h' := ((H.set c0_2 (some (.tok 2 x18.Fout.l.length))).set c0 (some (.cells (Vars_checker.cg (some c0_2) x18))))) (by first | rfl | (rw [Heap.set_set]; rfl) | (funext n_; simp only [Heap.set]; (repeat' split) <;> first | rfl | (exfalso; simp_all; done) | (simp_all; done))) ?_
     refine nil ?_
     refine hK17 _ ?_
     clear hK17 K17
     refine seqK fun K19 hK19 => ?_
     refine AWp.draw rfl ?_
     refine DOps.s0 moveA rfl ?_
     refine DOps.s0 (nilP rfl) rfl ?_
     refine DOps.s0 (fieldP (TK rfl) rfl rfl (TK rfl) rfl rfl) rfl ?_
     refine DOps.s0 (loadP (TK rfl) rfl rfl hpG rfl) rfl ?_
     refine DOps.s0 (fieldVA (TK rfl) rfl rfl (TK rfl) rfl rfl) rfl ?_
     refine DOps.s0 (fieldVA (TK rfl) rfl rfl (TK rfl) rfl rfl) rfl ?_
     refine DOps.s0 (loadV (TK rfl) rfl rfl rfl) rfl ?_
     obtain ⟨x20, gx20, hE⟩ := bindO_some hE
     refine DOps.s0 (callP rfl rfl (fun H => Z23_walk gx20 H)) rfl ?_
     refine DOps.s0 moveA rfl ?_
     refine DOps.s0 (extract rfl rfl) rfl ?_
     refine DOps.s0 (extract rfl rfl) rfl ?_
     refine DOps.sL (allocLA (TK rfl) rfl) rfl ?_
     refine DOps.sLn (storeLFA (TK rfl) rfl rfl rfl rfl rfl) ?_
     refine DOps.s0 assignA rfl ?_
     refine DOps.nil (by decide +kernel) ?_
     refine hK19 _ ?_
     clear hK19 K19
     refine freezeA 9 _ rfl (Keeps.c (k := 0) (by conv => lhs; whnf) (by rfl) (Keeps.c (k := 2) (by conv => lhs; whnf) (by rfl) (Keeps.c (k := 4) (by conv => lhs; whnf) (by rfl) (Keeps.c (k := 7) (by conv => lhs; whnf) (by rfl) (Keeps.c (k := 10) (by conv => lhs; whnf) (by rfl) (Keeps.c (k := 15) (by conv => lhs; whnf) (by rfl) (Keeps.c (k := 16) (by conv => lhs; whnf) (by rfl) (Keeps.c (k := 17) (by conv => lhs; whnf) (by rfl) Keeps.nil)))))))) ?_
     refine seqK fun K21 hK21 => ?_
     refine region ?_
     refine s0 moveA rfl ?_
     refine s0 moveA rfl ?_
     refine gC rfl rfl (fun hC => fieldVA (TK rfl) rfl rfl (TK rfl) rfl rfl) rfl ?_
     refine gC rfl rfl (fun hC => ungdA (k := 46) rfl (fieldVA (TK rfl) rfl rfl (TK rfl) rfl rfl)) rfl ?_
     refine gC rfl rfl (fun hC => ungdA (k := 47) rfl (loadV (TK rfl) rfl rfl rfl)) rfl ?_
     obtain ⟨x22, gx22, hE⟩ := guardO_some hE
     refine gC rfl rfl (fun hC => ungdA (k := 48) rfl (callP rfl rfl (fun H => Z28_walk (gx22 hC) H))) rfl ?_
     refine s0 (pickOrA rfl rfl rfl) rfl ?_
     refine s0 assignA rfl ?_
     refine nil ?_
     refine hK21 _ ?_
     clear hK21 K21
     refine seqK fun K23 hK23 => ?_
     refine AWp.draw rfl ?_
     refine DOps.s0 moveA rfl ?_
     refine DOps.s0 (nilP rfl) rfl ?_
     refine DOps.s0 (fieldP (TK rfl) rfl rfl (TK rfl) rfl rfl) rfl ?_
     refine DOps.s0 (loadP (TK rfl) rfl rfl hpG rfl) rfl ?_
     refine DOps.s0 (fieldVA (TK rfl) rfl rfl (TK rfl) rfl rfl) rfl ?_
     refine DOps.s0 (fieldVA (TK rfl) rfl rfl (TK rfl) rfl rfl) rfl ?_
     refine DOps.s0 (loadV (TK rfl) rfl rfl rfl) rfl ?_
     obtain ⟨x24, gx24, hE⟩ := bindO_some hE
     refine DOps.s0 (callP rfl rfl (fun H => Z25_walk gx24 H)) rfl ?_
     refine DOps.s0 assignA rfl ?_
     refine DOps.nil (by decide +kernel) ?_
     refine hK23 _ ?_
     clear hK23 K23
     refine seqK fun K25 hK25 => ?_
     refine region ?_
     refine s0 moveA rfl ?_
     refine s0 moveA rfl ?_
     refine s0 (notB rfl) rfl ?_
     refine s0 (fieldVA (TK rfl) rfl rfl (TK rfl) rfl rfl) rfl ?_
     refine s0 (loadV (TK rfl) rfl rfl rfl) rfl ?_
     obtain ⟨x26, gx26, hE⟩ := bindO_some hE
     refine sH (callH rfl rfl (Z52_walk gx26 _ hpG hpG)) rfl ?_
     refine AOps.heq (h' := ((H.set c0_2 (some (.tok 2 x26.Fout.l.length))).set c0 (some (.cells (Vars_checker.cg (some c0_2) x26))))) (by first | rfl | (rw [Heap.set_set]; rfl) | (funext n_; simp only [Heap.set]; (repeat' split) <;> first | rfl | (exfalso; simp_all; done) | (simp_all; done))) ?_
     refine nil ?_
     refine hK25 _ ?_
     clear hK25 K25
     refine seqK fun K27 hK27 => ?_
     refine region ?_
     refine s0 moveA rfl ?_
     refine s0 moveA rfl ?_
     refine s0 moveA rfl ?_
     refine gC rfl rfl (fun hC => moveA) rfl ?_
     refine gC rfl rfl (fun hC => ungdA (k := 68) rfl (notB rfl)) rfl ?_
     refine s0 (pickAndA rfl rfl rfl) rfl ?_
     refine s0 (fieldVA (TK rfl) rfl rfl (TK rfl) rfl rfl) rfl ?_
     refine s0 (loadV (TK rfl) rfl rfl rfl) rfl ?_
     obtain ⟨x28, gx28, hE⟩ := bindO_some hE
     refine sH (callH rfl rfl (Z52_walk gx28 _ hpG hpG)) rfl ?_
     refine AOps.heq (h' := ((H.set c0_2 (some (.tok 2 x28.Fout.l.length))).set c0 (some (.cells (Vars_checker.cg (some c0_2) x28))))) (by first | rfl | (rw [Heap.set_set]; rfl) | (funext n_; simp only [Heap.set]; (repeat' split) <;> first | rfl | (exfalso; simp_all; done) | (simp_all; done))) ?_
     refine nil ?_
     refine hK27 _ ?_
     clear hK27 K27
     refine seqJH (KeepsT.A (k := 0) (KeepsT.A (k := 2) (KeepsT.A (k := 4) (KeepsT.A (k := 7) (KeepsT.A (k := 15) (KeepsT.A (k := 16) (KeepsT.A (k := 17) KeepsT.nil))))))) (fun (z : Vars_checker) => []) (fun z => ((H.set c0_2 (some (.tok 2 z.Fout.l.length))).set c0 (some (.cells (Vars_checker.cg (some c0_2) z))))) (fun z => Z53_j29 a1 a2 s17_5 x13 ((Z53_l4 a1 a2 n4)) z = some r) ?_ ?_
     ·intro K29 hK29
      refine seqK fun K33 hK33 => ?_
      refine region ?_
      refine s0 (fieldVA (TK rfl) rfl rfl (TK rfl) rfl rfl) rfl ?_
      refine s0 (loadV (TK rfl) rfl rfl rfl) rfl ?_
      refine s0 moveA rfl ?_
      refine gC rfl rfl (fun hC => moveA) rfl ?_
      refine s0 (pickAndA rfl rfl rfl) rfl ?_
      refine nil ?_
      refine hK33 _ ?_
      clear hK33 K33
      refine condE hE rfl (fun hc34 hE => ?_) (fun hc34 hE => ?_)
      ·refine seqK fun K35 hK35 => ?_
       refine AWp.draw rfl ?_
       refine DOps.s0 moveA rfl ?_
       refine DOps.s0 (nilP rfl) rfl ?_
       refine DOps.s0 (fieldP (TK rfl) rfl rfl (TK rfl) rfl rfl) rfl ?_
       refine DOps.s0 (loadP (TK rfl) rfl rfl hpG rfl) rfl ?_
       refine DOps.s0 (fieldVA (TK rfl) rfl rfl (TK rfl) rfl rfl) rfl ?_
       refine DOps.s0 (loadV (TK rfl) rfl rfl rfl) rfl ?_
       refine DOps.s0 (fieldVA (TK rfl) rfl rfl (TK rfl) rfl rfl) rfl ?_
       refine DOps.s0 (loadV (TK rfl) rfl rfl rfl) rfl ?_
       refine DOps.s0 (build Tryd.tab_ok rfl rfl rfl rfl rfl rfl) rfl ?_
       obtain ⟨x36, gx36, hE⟩ := bindO_some hE
       refine DOps.s0 (callP rfl rfl (fun H => Z0_walk gx36 H)) rfl ?_
       refine DOps.s0 moveA rfl ?_
       refine DOps.s0 (extract rfl rfl) rfl ?_
       refine DOps.s0 (extract rfl rfl) rfl ?_
       refine DOps.sL (allocLA (TK rfl) rfl) rfl ?_
       refine DOps.sLn (storeLFA (TK rfl) rfl rfl rfl rfl rfl) ?_
       refine DOps.s0 assignA rfl ?_
       refine DOps.nil (by decide +kernel) ?_
       refine hK35 _ ?_
       clear hK35 K35
       refine freezeA 12 _ rfl (Keeps.c (k := 0) (by conv => lhs; whnf) (by rfl) (Keeps.c (k := 2) (by conv => lhs; whnf) (by rfl) (Keeps.c (k := 4) (by conv => lhs; whnf) (by rfl) (Keeps.c (k := 7) (by conv => lhs; whnf) (by rfl) (Keeps.c (k := 13) (by conv => lhs; whnf) (by rfl) (Keeps.c (k := 15) (by conv => lhs; whnf) (by rfl) (Keeps.c (k := 16) (by conv => lhs; whnf) (by rfl) (Keeps.c (k := 17) (by conv => lhs; whnf) (by rfl) Keeps.nil)))))))) ?_
       refine region ?_
       refine s0 moveA rfl ?_
       refine s0 moveA rfl ?_
       refine s0 (binI rfl rfl rfl) rfl ?_
       refine s0 (fieldVA (TK rfl) rfl rfl (TK rfl) rfl rfl) rfl ?_
       refine s0 (loadV (TK rfl) rfl rfl rfl) rfl ?_
       obtain ⟨x37, gx37, hE⟩ := bindO_some hE
       refine sH (callH rfl rfl (Z52_walk gx37 _ hpG hpG)) rfl ?_
       refine AOps.heq (h' := ((H.set c0_2 (some (.tok 2 x37.Fout.l.length))).set c0 (some (.cells (Vars_checker.cg (some c0_2) x37))))) (by first | rfl | (rw [Heap.set_set]; rfl) | (funext n_; simp only [Heap.set]; (repeat' split) <;> first | rfl | (exfalso; simp_all; done) | (simp_all; done))) ?_
       refine nil ?_
       exact hK29 _ x37 Weak.toA hE
      refine AWp.skip ?_
      exact hK29 _ x28 Weak.toA hE
     rintro y30_c0 hE
     try dsimp only at hE
     unfold Z53_j29 at hE
     refine AWp.draw rfl ?_
     refine DOps.s0 moveA rfl ?_
     refine DOps.s0 moveA rfl ?_
     refine DOps.s0 (fieldVA (TK rfl) rfl rfl (TK rfl) rfl rfl) rfl ?_
     refine DOps.s0 (loadV (TK rfl) rfl rfl rfl) rfl ?_
     obtain ⟨x31, gx31, hE⟩ := bindO_some hE
     refine DOps.s0 (callP rfl rfl (fun H => Z32_walk gx31 H)) rfl ?_
     refine DOps.s0 (notB rfl) rfl ?_
     refine DOps.s0 (fieldVA (TK rfl) rfl rfl (TK rfl) rfl rfl) rfl ?_
     refine DOps.s0 (loadV (TK rfl) rfl rfl rfl) rfl ?_
     obtain ⟨x32, gx32, hE⟩ := bindO_some hE
     refine DOps.sH (callH rfl rfl (Z52_walk gx32 _ hpG hpG)) rfl ?_
     refine DOps.heq (h' := ((H.set c0_2 (some (.tok 2 x32.Fout.l.length))).set c0 (some (.cells (Vars_checker.cg (some c0_2) x32))))) (by first | rfl | (rw [Heap.set_set]; rfl) | (funext n_; simp only [Heap.set]; (repeat' split) <;> first | rfl | (exfalso; simp_all; done) | (simp_all; done))) ?_
     refine DOps.nil (by decide +kernel) ?_
     exact hK10 _ x32 Weak.toA hE
    rintro y11_c0 hE
    try dsimp only at hE
    unfold Z53_j10 at hE
    refine region ?_
    refine s0 (addIA rfl rfl) rfl ?_
    refine s0 moveA rfl ?_
    refine nil ?_
    exact hK4 _ (n4, (s17_5 + 1), y11_c0) Weak.toA hE (Nat.lt_succ_self _)
   refine AWp.exit ?_
   repeat (first | refine xBlock_normal ?_ | refine xThen_exit ?_ | refine xBlock_exit ?_)
   obtain rfl := Option.some.inj hE
   refine retQ.normalF ((H.set c0_2 (some (.tok 2 y6_c0.Fout.l.length))).set c0 (some (.cells (Vars_checker.cg (some c0_2) y6_c0)))) (xs := []) rfl ⟨rfl, rfl⟩ ?_
   exact (fun _ _ h => h)
def Z24_j2  (y3_l0 : TInput) : Option (TInput × Bool) := some ((TInput.mk ([] : Bs) TRef.zero false TValue.zero (Sl.nil : Sl TDir)), false)
def Z24_l7 (a0 : (Sl TInput)) (a1 : Bs)  : Nat → Nat → TInput → Option (TInput × Bool)
 | 0, _, _ => none
 | n7 + 1, s10_8, y9_l0 => bif (decide (((s10_8 : Nat) : Int) < ((a0.l.length : Nat) : Int))) then ((a0.l[s10_8]?).bind fun x15 => bif ((x15.FName == a1)) then (some (x15, true)) else ((Z24_l7 a0 a1 n7) (s10_8 + 1) y9_l0)) else (Z24_j2   y9_l0)
def Z24 (a0 : (Sl TInput)) (a1 : Bs) : Option (TInput × Bool) := Z24_l7 a0 a1 (a0.l.length + 1) 0 TInput.zero
theorem Z24_walk {a0 : (Sl TInput)} {a1 : Bs} {w0 : Option Nat}  {r : (TInput × Bool)} (hE : Z24 a0 a1 = some r) (H : Heap)  : ACalls Tryd.prog 69 [.d (Sl.d 10 TInput.c w0 a0), .d (.str a1)] H fun v h' => v = .tup [.agg (TInput.c r.1), .d (.bool r.2)] ∧ h' = H := by
 unfold Z24 at hE
 refine ACalls.of_wp (fn := Tryd.f69) (c := _) Tryd.tab_ok (fun _ _ => Tryd.call69 _ _) Tryd.func69 rfl (n := 21) rfl (rs := [.cell 4 60, .tmp 5]) rfl rfl ?_
 refine seqK fun K1 hK1 => ?_
 refine region ?_
 refine sL (allocLA (TK rfl) rfl) rfl ?_
 refine s0 assignA rfl ?_
 refine nil ?_
 refine hK1 _ ?_
 clear hK1 K1
 refine seqJ (KeepsT.A (k := 4) KeepsT.nil) (fun (z : TInput) => []) (fun z => [TInput.c z]) (fun z => H) (fun z => Z24_j2 z = some r) ?_ ?_
 ·intro K2 hK2
  refine seqK fun K5 hK5 => ?_
  refine region ?_
  refine s0 moveA rfl ?_
  refine sLen (f := TInput.c) (s := a0) (TK rfl) rfl rfl rfl rfl fun hL6 => ?_
  refine s0 moveA rfl ?_
  refine nil ?_
  refine hK5 _ ?_
  clear hK5 K5
  refine block ?_
  refine loopO (KeepsT.A (k := 1) (KeepsT.A (k := 4) (KeepsT.A (k := 8) (KeepsT.A (k := 9) KeepsT.nil)))) (fun (z : Nat × Nat × TInput) => [(10, .a (.d (.int .i64 ((z.2.1 : Nat) : Int))))]) (fun z => [TInput.c z.2.2]) (fun z => H) (fun z => z.1) (fun z => Z24_l7 a0 a1 z.1 z.2.1 z.2.2 = some r) ((a0.l.length + 1), 0, TInput.zero) hE Weak.toA ?_
  rintro ⟨n7, s10_8, y9_l0⟩ hE K7 hK7
  try dsimp only at hE
  cases n7 with
  | zero => cases hE
  | succ n7 =>
    rw [Z24_l7] at hE
    refine seqK fun K10 hK10 => ?_
    refine region ?_
    refine s0 (binI rfl rfl rfl) rfl ?_
    refine nil ?_
    refine hK10 _ ?_
    clear hK10 K10
    refine seqK fun K11 hK11 => ?_
    refine condE hE rfl (fun hc12 hE => ?_) (fun hc12 hE => ?_)
    ·try dsimp only at hc12
     have hf12 := of_decide_eq_true hc12
     refine AWp.skip ?_
     refine hK11 _ ?_
     clear hK11 K11
     refine seqK fun K13 hK13 => ?_
     refine block ?_
     refine seqK fun K14 hK14 => ?_
     refine region ?_
     obtain ⟨x15, gx15, hE⟩ := bindO_some hE
     refine s0 (idxMn (f := TInput.c) (n := s10_8) (TK rfl) rfl (TK rfl) rfl rfl rfl gx15) rfl ?_
     refine s0 (loadV (TK rfl) rfl rfl rfl) rfl ?_
     refine sL (allocLA (TK rfl) rfl) rfl ?_
     refine sLn (storeLFA (TK rfl) rfl rfl rfl rfl rfl) ?_
     refine nil ?_
     refine hK14 _ ?_
     clear hK14 K14
     refine freezeA 7 _ rfl (Keeps.c (k := 1) (by conv => lhs; whnf) (by rfl) (Keeps.c (k := 4) (by conv => lhs; whnf) (by rfl) (Keeps.c (k := 8) (by conv => lhs; whnf) (by rfl) (Keeps.c (k := 9) (by conv => lhs; whnf) (by rfl) (Keeps.c (k := 10) (by conv => lhs; whnf) (by rfl) Keeps.nil))))) ?_
     refine seqK fun K16 hK16 => ?_
     refine region ?_
     refine s0 (fieldVA (TK rfl) rfl rfl (TK rfl) rfl rfl) rfl ?_
     refine s0 (loadV (TK rfl) rfl rfl rfl) rfl ?_
     refine s0 moveA rfl ?_
     refine s0 (binS rfl rfl rfl) rfl ?_
     refine nil ?_
     refine hK16 _ ?_
     clear hK16 K16
     refine condE hE rfl (fun hc17 hE => ?_) (fun hc17 hE => ?_)
     ·refine seqK fun K18 hK18 => ?_
      refine region ?_
      refine s0 (loadV (TK rfl) rfl rfl rfl) rfl ?_
      refine sLn (storeLFA (TK rfl) rfl rfl rfl rfl rfl) ?_
      refine s0 assignA rfl ?_
      refine nil ?_
      refine hK18 _ ?_
      clear hK18 K18
      refine AWp.ret ?_
      repeat (first | refine xBlock_ret ?_ | refine xThen_ret ?_)
      obtain rfl := Option.some.inj hE
      refine retQ.retF H rfl ⟨rfl, rfl⟩ ?_
      exact (fun _ _ h => h)
     refine AWp.skip ?_
     refine hK13 _ ?_
     clear hK13 K13
     refine region ?_
     refine s0 (addIA rfl rfl) rfl ?_
     refine s0 moveA rfl ?_
     refine nil ?_
     exact hK7 _ (n7, (s10_8 + 1), y9_l0) Weak.toA hE (Nat.lt_succ_self _)
    refine AWp.exit ?_
    exact hK2 _ y9_l0 Weak.toA hE
 rintro y3_l0 hE
 try dsimp only at hE
 unfold Z24_j2 at hE
 refine seqK fun K4 hK4 => ?_
 refine region ?_
 refine s0 (build Tryd.tab_ok rfl rfl rfl rfl rfl rfl) rfl ?_
 refine sLn (storeLFA (TK rfl) rfl rfl rfl rfl rfl) ?_
 refine s0 assignA rfl ?_
 refine nil ?_
 refine hK4 _ ?_
 clear hK4 K4
 refine AWp.ret ?_
 repeat (first | refine xBlock_ret ?_ | refine xThen_ret ?_)
 obtain rfl := Option.some.inj hE
 refine retQ.retF H rfl ⟨rfl, rfl⟩ ?_
 exact (fun _ _ h => h)
def Z58 (a0 : TVar) (a1 : TValue) : Option Bool := some ((a0.FName == a1.FText))
theorem Z58_walk {a0 : TVar} {a1 : TValue}   {r : Bool} (hE : Z58 a0 a1 = some r) (H : Heap)  : ACalls Tryd.prog 80 [.agg (TVar.c a0), .d (.view (TValue.c a1))] H fun v h' => v = .a (.d (.bool r)) ∧ h' = H := by
 unfold Z58 at hE
 refine ACalls.of_wp (fn := Tryd.f80) (c := _) Tryd.tab_ok (fun _ _ => Tryd.call80 _ _) Tryd.func80 rfl (n := 9) rfl (rs := [.tmp 3]) rfl rfl ?_
 refine seqK fun K1 hK1 => ?_
 refine region ?_
 refine s0 (boxV rfl) rfl ?_
 refine s0 assignA rfl ?_
 refine nil ?_
 refine hK1 _ ?_
 clear hK1 K1
 refine seqK fun K2 hK2 => ?_
 refine region ?_
 refine s0 (fieldVA (TK rfl) rfl rfl (TK rfl) rfl rfl) rfl ?_
 refine s0 (loadV (TK rfl) rfl rfl rfl) rfl ?_
 refine s0 (fieldVA (TK rfl) rfl rfl (TK rfl) rfl rfl) rfl ?_
 refine s0 (loadV (TK rfl) rfl rfl rfl) rfl ?_
 refine s0 (binS rfl rfl rfl) rfl ?_
 refine s0 assignA rfl ?_
 refine nil ?_
 refine hK2 _ ?_
 clear hK2 K2
 refine AWp.ret ?_
 repeat (first | refine xBlock_ret ?_ | refine xThen_ret ?_)
 obtain rfl := Option.some.inj hE
 refine retQ.retF H rfl ⟨rfl, rfl⟩ ?_
 exact (fun _ _ h => h)
def Z57_l16 (a1 : TValue) (a3 : Bool) (a4 : Bs) (x13 : (TRef × Bool)) (k_rec_64 : Vars_checker → TValue → TRef → Bool → Bs → Option Vars_checker) : Nat → Nat → Vars_checker → Option Vars_checker
 | 0, _, _ => none
 | n16 + 1, s66_17, y18_c0 => bif (decide (((s66_17 : Nat) : Int) < ((a1.FItems.l.length : Nat) : Int))) then ((a1.FItems.l[s66_17]?).bind fun x24 => (k_rec_64 y18_c0 x24 x13.1 (a3 && x13.2) a4).bind fun x25 => (Z57_l16 a1 a3 a4 x13 k_rec_64 n16) (s66_17 + 1) x25) else (some y18_c0)
def Z57_j39 (s104_34 : Nat) (k_next_33 : Nat → Vars_checker → Option Vars_checker) (y40_c0 : Vars_checker) : Option Vars_checker := k_next_33 (s104_34 + 1) y40_c0
def Z57_j45 (a4 : Bs) (s104_34 : Nat) (y35_c0 : Vars_checker) (x42 : TValue) (k_next_33 : Nat → Vars_checker → Option Vars_checker) (k_rec_64 : Vars_checker → TValue → TRef → Bool → Bs → Option Vars_checker) (s20_46 : Bool) (y47_l0 : TInput) : Option Vars_checker := (k_rec_64 y35_c0 x42 y47_l0.FType s20_46 a4).bind fun x48 => Z57_j39 s104_34 k_next_33 x48
def Z57_l33 (a1 : TValue) (a3 : Bool) (a4 : Bs) (x29 : (TDef × Bool)) (k_rec_64 : Vars_checker → TValue → TRef → Bool → Bs → Option Vars_checker) : Nat → Nat → Vars_checker → Option Vars_checker
 | 0, _, _ => none
 | n33 + 1, s104_34, y35_c0 => bif (decide (((s104_34 : Nat) : Int) < ((a1.FItems.l.length : Nat) : Int))) then ((a1.FItems.l[s104_34]?).bind fun x42 => bif (((x29.2 && a3) && (decide (x29.1.FKind = (5 : Int)))) && (decide (((s104_34 : Nat) : Int) < ((a1.FKeys.l.length : Nat) : Int)))) then ((a1.FKeys.l[s104_34]?).bind fun x51 => (Z24 x29.1.FInputs x51).bind fun x52 => Z57_j45 a4 s104_34 y35_c0 x42 ((Z57_l33 a1 a3 a4 x29 k_rec_64 n33)) k_rec_64 x52.2 x52.1) else (Z57_j45 a4 s104_34 y35_c0 x42 ((Z57_l33 a1 a3 a4 x29 k_rec_64 n33)) k_rec_64 false TInput.zero)) else (some y35_c0)
def Z57_n : Nat → Vars_checker → TValue → TRef → Bool → Bs → Option Vars_checker
 | 0, _, _, _, _, _ => none
 | n + 1, a0, a1, a2, a3, a4 => bif (decide (a1.FKind = (7 : Int))) then ((Z35 a0.Fvars (fun y0 => Z58 y0 a1)).bind fun x6 => guardO ((!(decide (x6 < (0 : Int))) && a3)) (idxC a0.Fvars.l (if (0 : Int) > x6 then (0 : Int) else x6)) TVar.zero fun x7 => guardO ((!(decide (x6 < (0 : Int))) && a3)) (Z50 a0.Fd x7 a2 false) false fun x8 => (Z52 a0 ((decide (x6 < (0 : Int))) || (a3 && (!x8))) (27 : Int) a4).bind fun x9 => some x9) else (bif (decide (a1.FKind = (5 : Int))) then ((Z38 a2).bind fun x13 => Z57_l16 a1 a3 a4 x13 (Z57_n n) (a1.FItems.l.length + 1) 0 a0) else (bif (decide (a1.FKind = (6 : Int))) then ((Z23 a0.Fd a2.FName).bind fun x29 => Z57_l33 a1 a3 a4 x29 (Z57_n n) (a1.FItems.l.length + 1) 0 a0) else (some a0)))
theorem Z57_step (n : Nat) (ih_64 : ∀ {a0 : Vars_checker} {a1 : TValue} {a2 : TRef} {a3 : Bool} {a4 : Bs}  {c0 : Nat} {c0_2 : Nat} {r : Vars_checker}, Z57_n n a0 a1 a2 a3 a4 = some r → ∀ (H : Heap) (hc0 : H c0 = some (.cells (Vars_checker.cg (some c0_2) a0))) (ht0_2 : H c0_2 = some (.tok 2 a0.Fout.l.length)), ACalls Tryd.prog 64 [.d (.ptr c0 0), .agg (TValue.c a1), .agg (TRef.c a2), .d (.bool a3), .d (.str a4)] H fun v h' => v = .tup [] ∧ h' = ((H.set c0_2 (some (.tok 2 r.Fout.l.length))).set c0 (some (.cells (Vars_checker.cg (some c0_2) r))))) : ∀ {a0 : Vars_checker} {a1 : TValue} {a2 : TRef} {a3 : Bool} {a4 : Bs}  {c0 : Nat} {c0_2 : Nat} {r : Vars_checker}, Z57_n (n + 1) a0 a1 a2 a3 a4 = some r → ∀ (H : Heap) (hc0 : H c0 = some (.cells (Vars_checker.cg (some c0_2) a0))) (ht0_2 : H c0_2 = some (.tok 2 a0.Fout.l.length)), ACalls Tryd.prog 64 [.d (.ptr c0 0), .agg (TValue.c a1), .agg (TRef.c a2), .d (.bool a3), .d (.str a4)] H fun v h' => v = .tup [] ∧ h' = ((H.set c0_2 (some (.tok 2 r.Fout.l.length))).set c0 (some (.cells (Vars_checker.cg (some c0_2) r)))) := by
 intro a0 a1 a2 a3 a4  c0 c0_2 r hE H hc0 ht0_2
 rw [Z57_n] at hE
 refine ACalls.of_wp (fn := Tryd.f64) (c := _) Tryd.tab_ok (fun _ _ => Tryd.call64 _ _) Tryd.func64 rfl (n := 136) rfl (rs := []) rfl rfl ?_
 have ne_c0_c0_2 : c0 ≠ c0_2 := fun e_ => by subst e_; simp_all
 refine AWp.heqA (h' := ((H.set c0_2 (some (.tok 2 a0.Fout.l.length))).set c0 (some (.cells (Vars_checker.cg (some c0_2) a0))))) (by funext n_; simp only [Heap.set]; (repeat' split) <;> simp_all) ?_
 refine seqK fun K1 hK1 => ?_
 refine region ?_
 refine s0 (boxV rfl) rfl ?_
 refine s0 (boxV rfl) rfl ?_
 refine nil ?_
 refine hK1 _ ?_
 clear hK1 K1
 refine seqK fun K2 hK2 => ?_
 refine region ?_
 refine s0 (fieldVA (TK rfl) rfl rfl (TK rfl) rfl rfl) rfl ?_
 refine s0 (loadV (TK rfl) rfl rfl rfl) rfl ?_
 refine nil ?_
 refine hK2 _ ?_
 clear hK2 K2
 refine block ?_
 refine seqK fun K3 hK3 => ?_
 refine region ?_
 refine s0 (binI rfl rfl rfl) rfl ?_
 refine s0 assignA rfl ?_
 refine nil ?_
 refine hK3 _ ?_
 clear hK3 K3
 refine condE hE rfl (fun hc4 hE => ?_) (fun hc4 hE => ?_)
 ·refine seqK fun K5 hK5 => ?_
  refine region ?_
  refine s0 moveA rfl ?_
  refine s0 (nilP rfl) rfl ?_
  refine s0 (fieldP (TK rfl) rfl rfl (TK rfl) rfl rfl) rfl ?_
  refine s0 (loadP (TK rfl) rfl rfl hpG rfl) rfl ?_
  refine s0 (makeFunc rfl) rfl ?_
  obtain ⟨x6, gx6, hE⟩ := bindO_some hE
  refine s0 (callP rfl rfl (fun H => Z35_walk gx6 H (fun _ _ hx => Z58_walk hx))) rfl ?_
  refine s0 assignA rfl ?_
  refine nil ?_
  refine hK5 _ ?_
  clear hK5 K5
  refine AWp.draw rfl ?_
  refine DOps.s0 moveA rfl ?_
  refine DOps.s0 moveA rfl ?_
  refine DOps.s0 (binI rfl rfl rfl) rfl ?_
  refine DOps.s0 moveA rfl ?_
  refine DOps.gC rfl rfl (fun hC => moveA) rfl ?_
  refine DOps.gC rfl rfl (fun hC => ungdA (k := 35) rfl moveA) rfl ?_
  refine DOps.gC rfl rfl (fun hC => moveA) rfl ?_
  refine DOps.gC rfl rfl (fun hC => ungdA (k := 37) rfl (nilP rfl)) rfl ?_
  refine DOps.gC rfl rfl (fun hC => ungdA (k := 38) rfl (fieldP (TK rfl) rfl rfl (TK rfl) rfl rfl)) rfl ?_
  refine DOps.gC rfl rfl (fun hC => ungdA (k := 39) rfl (loadP (TK rfl) rfl rfl hpG rfl)) rfl ?_
  refine DOps.gC rfl rfl (fun hC => moveA) rfl ?_
  refine DOps.gC rfl rfl (fun hC => ungdA (k := 41) rfl (nilP rfl)) rfl ?_
  refine DOps.gC rfl rfl (fun hC => ungdA (k := 42) rfl (fieldP (TK rfl) rfl rfl (TK rfl) rfl rfl)) rfl ?_
  refine DOps.gC rfl rfl (fun hC => ungdA (k := 43) rfl (loadP (TK rfl) rfl rfl hpG rfl)) rfl ?_
  refine DOps.gC rfl rfl (fun hC => moveA) rfl ?_
  refine DOps.gC rfl rfl (fun hC => ungdA (k := 45) rfl (maxM rfl rfl)) rfl ?_
  obtain ⟨x7, gx7, hE⟩ := guardO_some hE
  refine DOps.gC rfl rfl (fun hC => ungdA (k := 44) rfl (ungdA (k := 46) rfl (idxM (f := TVar.c) (TK rfl) rfl (TK rfl) rfl rfl rfl (gx7 hC)))) rfl ?_
  refine DOps.gC rfl rfl (fun hC => ungdA (k := 47) rfl (loadV (TK rfl) rfl rfl rfl)) rfl ?_
  refine DOps.gC rfl rfl (fun hC => loadV (TK rfl) rfl rfl rfl) rfl ?_
  obtain ⟨x8, gx8, hE⟩ := guardO_some hE
  refine DOps.gC rfl rfl (fun hC => ungdA (k := 40) rfl (ungdA (k := 48) rfl (ungdA (k := 49) rfl (callP rfl rfl (fun H => Z50_walk (gx8 hC) H))))) rfl ?_
  refine DOps.gC rfl rfl (fun hC => ungdA (k := 50) rfl (notB rfl)) rfl ?_
  refine DOps.gC rfl rfl (fun hC => ungdA (k := 36) rfl (pickAndA rfl rfl rfl)) rfl ?_
  refine DOps.s0 (pickOrA rfl rfl rfl) rfl ?_
  refine DOps.s0 moveA rfl ?_
  obtain ⟨x9, gx9, hE⟩ := bindO_some hE
  refine DOps.sH (callH rfl rfl (Z52_walk gx9 _ hpG hpG)) rfl ?_
  refine DOps.heq (h' := ((H.set c0_2 (some (.tok 2 x9.Fout.l.length))).set c0 (some (.cells (Vars_checker.cg (some c0_2) x9))))) (by first | rfl | (rw [Heap.set_set]; rfl) | (funext n_; simp only [Heap.set]; (repeat' split) <;> first | rfl | (exfalso; simp_all; done) | (simp_all; done))) ?_
  refine DOps.nil (by decide +kernel) ?_
  repeat (first | refine xBlock_normal ?_ | refine xThen_exit ?_ | refine xBlock_exit ?_)
  obtain rfl := Option.some.inj hE
  refine retQ.normalF ((H.set c0_2 (some (.tok 2 x9.Fout.l.length))).set c0 (some (.cells (Vars_checker.cg (some c0_2) x9)))) (xs := []) rfl ⟨rfl, rfl⟩ ?_
  exact (fun _ _ h => h)
 refine seqK fun K10 hK10 => ?_
 refine region ?_
 refine s0 (binI rfl rfl rfl) rfl ?_
 refine s0 assignA rfl ?_
 refine nil ?_
 refine hK10 _ ?_
 clear hK10 K10
 refine condE hE rfl (fun hc11 hE => ?_) (fun hc11 hE => ?_)
 ·refine seqK fun K12 hK12 => ?_
  refine region ?_
  refine s0 (loadV (TK rfl) rfl rfl rfl) rfl ?_
  obtain ⟨x13, gx13, hE⟩ := bindO_some hE
  refine s0 (callP rfl rfl (fun H => Z38_walk gx13 H)) rfl ?_
  refine s0 moveA rfl ?_
  refine s0 (extract rfl rfl) rfl ?_
  refine s0 (extract rfl rfl) rfl ?_
  refine sL (allocLA (TK rfl) rfl) rfl ?_
  refine sLn (storeLFA (TK rfl) rfl rfl rfl rfl rfl) ?_
  refine s0 assignA rfl ?_
  refine nil ?_
  refine hK12 _ ?_
  clear hK12 K12
  refine freezeA 11 _ rfl (Keeps.c (k := 0) (by conv => lhs; whnf) (by rfl) (Keeps.c (k := 3) (by conv => lhs; whnf) (by rfl) (Keeps.c (k := 4) (by conv => lhs; whnf) (by rfl) (Keeps.c (k := 6) (by conv => lhs; whnf) (by rfl) (Keeps.c (k := 12) (by conv => lhs; whnf) (by rfl) Keeps.nil))))) ?_
  refine seqK fun K14 hK14 => ?_
  refine region ?_
  refine s0 (fieldVA (TK rfl) rfl rfl (TK rfl) rfl rfl) rfl ?_
  refine s0 (loadV (TK rfl) rfl rfl (congrArg (fun x => some (A.d x)) (TValue.FItemsD_eq _))) rfl ?_
  refine sLen (f := TValue.c) (s := a1.FItems) (TK rfl) rfl rfl rfl rfl fun hL15 => ?_
  refine s0 moveA rfl ?_
  refine nil ?_
  refine hK14 _ ?_
  clear hK14 K14
  refine block ?_
  refine loopH (KeepsT.A (k := 0) (KeepsT.A (k := 3) (KeepsT.A (k := 4) (KeepsT.A (k := 11) (KeepsT.A (k := 12) (KeepsT.A (k := 64) (KeepsT.A (k := 65) KeepsT.nil))))))) (fun (z : Nat × Nat × Vars_checker) => [(66, .a (.d (.int .i64 ((z.2.1 : Nat) : Int))))]) (fun z => ((H.set c0_2 (some (.tok 2 z.2.2.Fout.l.length))).set c0 (some (.cells (Vars_checker.cg (some c0_2) z.2.2))))) (fun z => z.1) (fun z => Z57_l16 a1 a3 a4 x13 (Z57_n n) z.1 z.2.1 z.2.2 = some r) ((a1.FItems.l.length + 1), 0, a0) hE Weak.toA ?_
  rintro ⟨n16, s66_17, y18_c0⟩ hE K16 hK16
  try dsimp only at hE
  cases n16 with
  | zero => cases hE
  | succ n16 =>
    rw [Z57_l16] at hE
    refine seqK fun K19 hK19 => ?_
    refine region ?_
    refine s0 (binI rfl rfl rfl) rfl ?_
    refine nil ?_
    refine hK19 _ ?_
    clear hK19 K19
    refine seqK fun K20 hK20 => ?_
    refine condE hE rfl (fun hc21 hE => ?_) (fun hc21 hE => ?_)
    ·try dsimp only at hc21
     have hf21 := of_decide_eq_true hc21
     refine AWp.skip ?_
     refine hK20 _ ?_
     clear hK20 K20
     refine seqK fun K22 hK22 => ?_
     refine block ?_
     refine seqK fun K23 hK23 => ?_
     refine region ?_
     obtain ⟨x24, gx24, hE⟩ := bindO_some hE
     refine s0 (idxMn (f := TValue.c) (n := s66_17) (TK rfl) rfl (TK rfl) rfl rfl rfl gx24) rfl ?_
     refine s0 (loadV (TK rfl) rfl rfl rfl) rfl ?_
     refine sL (allocLA (TK rfl) rfl) rfl ?_
     refine sLn (storeLFA (TK rfl) rfl rfl rfl rfl rfl) ?_
     refine nil ?_
     refine hK23 _ ?_
     clear hK23 K23
     refine freezeA 14 _ rfl (Keeps.c (k := 0) (by conv => lhs; whnf) (by rfl) (Keeps.c (k := 3) (by conv => lhs; whnf) (by rfl) (Keeps.c (k := 4) (by conv => lhs; whnf) (by rfl) (Keeps.c (k := 11) (by conv => lhs; whnf) (by rfl) (Keeps.c (k := 12) (by conv => lhs; whnf) (by rfl) (Keeps.c (k := 64) (by conv => lhs; whnf) (by rfl) (Keeps.c (k := 65) (by conv => lhs; whnf) (by rfl) (Keeps.c (k := 66) (by conv => lhs; whnf) (by rfl) Keeps.nil)))))))) ?_
     refine region ?_
     refine s0 moveA rfl ?_
     refine s0 (loadV (TK rfl) rfl rfl rfl) rfl ?_
     refine s0 (loadV (TK rfl) rfl rfl rfl) rfl ?_
     refine s0 moveA rfl ?_
     refine s0 moveA rfl ?_
     refine gC rfl rfl (fun hC => moveA) rfl ?_
     refine s0 (pickAndA rfl rfl rfl) rfl ?_
     refine s0 moveA rfl ?_
     obtain ⟨x25, gx25, hE⟩ := bindO_some hE
     refine sH (callH rfl rfl (ih_64 gx25 _ hpG hpG)) rfl ?_
     refine AOps.heq (h' := ((H.set c0_2 (some (.tok 2 x25.Fout.l.length))).set c0 (some (.cells (Vars_checker.cg (some c0_2) x25))))) (by first | rfl | (rw [Heap.set_set]; rfl) | (funext n_; simp only [Heap.set]; (repeat' split) <;> first | rfl | (exfalso; simp_all; done) | (simp_all; done))) ?_
     refine nil ?_
     refine hK22 _ ?_
     clear hK22 K22
     refine region ?_
     refine s0 (addIA rfl rfl) rfl ?_
     refine s0 moveA rfl ?_
     refine nil ?_
     exact hK16 _ (n16, (s66_17 + 1), x25) Weak.toA hE (Nat.lt_succ_self _)
    refine AWp.exit ?_
    repeat (first | refine xBlock_normal ?_ | refine xThen_exit ?_ | refine xBlock_exit ?_)
    obtain rfl := Option.some.inj hE
    refine retQ.normalF ((H.set c0_2 (some (.tok 2 y18_c0.Fout.l.length))).set c0 (some (.cells (Vars_checker.cg (some c0_2) y18_c0)))) (xs := []) rfl ⟨rfl, rfl⟩ ?_
    exact (fun _ _ h => h)
 refine seqK fun K26 hK26 => ?_
 refine region ?_
 refine s0 (binI rfl rfl rfl) rfl ?_
 refine s0 assignA rfl ?_
 refine nil ?_
 refine hK26 _ ?_
 clear hK26 K26
 refine condE hE rfl (fun hc27 hE => ?_) (fun hc27 hE => ?_)
 ·refine seqK fun K28 hK28 => ?_
  refine AWp.draw rfl ?_
  refine DOps.s0 moveA rfl ?_
  refine DOps.s0 (nilP rfl) rfl ?_
  refine DOps.s0 (fieldP (TK rfl) rfl rfl (TK rfl) rfl rfl) rfl ?_
  refine DOps.s0 (loadP (TK rfl) rfl rfl hpG rfl) rfl ?_
  refine DOps.s0 (fieldVA (TK rfl) rfl rfl (TK rfl) rfl rfl) rfl ?_
  refine DOps.s0 (loadV (TK rfl) rfl rfl rfl) rfl ?_
  obtain ⟨x29, gx29, hE⟩ := bindO_some hE
  refine DOps.s0 (callP rfl rfl (fun H => Z23_walk gx29 H)) rfl ?_
  refine DOps.s0 moveA rfl ?_
  refine DOps.s0 (extract rfl rfl) rfl ?_
  refine DOps.s0 (extract rfl rfl) rfl ?_
  refine DOps.sL (allocLA (TK rfl) rfl) rfl ?_
  refine DOps.sLn (storeLFA (TK rfl) rfl rfl rfl rfl rfl) ?_
  refine DOps.s0 assignA rfl ?_
  refine DOps.nil (by decide +kernel) ?_
  refine hK28 _ ?_
  clear hK28 K28
  refine freezeA 15 _ rfl (Keeps.c (k := 0) (by conv => lhs; whnf) (by rfl) (Keeps.c (k := 3) (by conv => lhs; whnf) (by rfl) (Keeps.c (k := 4) (by conv => lhs; whnf) (by rfl) (Keeps.c (k := 6) (by conv => lhs; whnf) (by rfl) (Keeps.c (k := 16) (by conv => lhs; whnf) (by rfl) Keeps.nil))))) ?_
  refine seqK fun K30 hK30 => ?_
  refine region ?_
  refine s0 moveA rfl ?_
  refine s0 moveA rfl ?_
  refine gC rfl rfl (fun hC => moveA) rfl ?_
  refine s0 (pickAndA rfl rfl rfl) rfl ?_
  refine s0 moveA rfl ?_
  refine gC rfl rfl (fun hC => fieldVA (TK rfl) rfl rfl (TK rfl) rfl rfl) rfl ?_
  refine gC rfl rfl (fun hC => ungdA (k := 97) rfl (loadV (TK rfl) rfl rfl rfl)) rfl ?_
  refine gC rfl rfl (fun hC => ungdA (k := 98) rfl (binI rfl rfl rfl)) rfl ?_
  refine s0 (pickAndA rfl rfl rfl) rfl ?_
  refine s0 assignA rfl ?_
  refine nil ?_
  refine hK30 _ ?_
  clear hK30 K30
  refine seqK fun K31 hK31 => ?_
  refine region ?_
  refine s0 (fieldVA (TK rfl) rfl rfl (TK rfl) rfl rfl) rfl ?_
  refine s0 (loadV (TK rfl) rfl rfl (congrArg (fun x => some (A.d x)) (TValue.FItemsD_eq _))) rfl ?_
  refine sLen (f := TValue.c) (s := a1.FItems) (TK rfl) rfl rfl rfl rfl fun hL32 => ?_
  refine s0 moveA rfl ?_
  refine nil ?_
  refine hK31 _ ?_
  clear hK31 K31
  refine block ?_
  refine loopH (KeepsT.A (k := 0) (KeepsT.A (k := 4) (KeepsT.A (k := 6) (KeepsT.A (k := 15) (KeepsT.A (k := 16) (KeepsT.A (k := 102) (KeepsT.A (k := 103) KeepsT.nil))))))) (fun (z : Nat × Nat × Vars_checker) => [(104, .a (.d (.int .i64 ((z.2.1 : Nat) : Int))))]) (fun z => ((H.set c0_2 (some (.tok 2 z.2.2.Fout.l.length))).set c0 (some (.cells (Vars_checker.cg (some c0_2) z.2.2))))) (fun z => z.1) (fun z => Z57_l33 a1 a3 a4 x29 (Z57_n n) z.1 z.2.1 z.2.2 = some r) ((a1.FItems.l.length + 1), 0, a0) hE Weak.toA ?_
  rintro ⟨n33, s104_34, y35_c0⟩ hE K33 hK33
  try dsimp only at hE
  cases n33 with
  | zero => cases hE
  | succ n33 =>
    rw [Z57_l33] at hE
    refine seqK fun K36 hK36 => ?_
    refine region ?_
    refine s0 (binI rfl rfl rfl) rfl ?_
    refine nil ?_
    refine hK36 _ ?_
    clear hK36 K36
    refine seqK fun K37 hK37 => ?_
    refine condE hE rfl (fun hc38 hE => ?_) (fun hc38 hE => ?_)
    ·try dsimp only at hc38
     have hf38 := of_decide_eq_true hc38
     refine AWp.skip ?_
     refine hK37 _ ?_
     clear hK37 K37
     refine seqJH (KeepsT.A (k := 0) (KeepsT.A (k := 4) (KeepsT.A (k := 6) (KeepsT.A (k := 15) (KeepsT.A (k := 16) (KeepsT.A (k := 102) (KeepsT.A (k := 103) (KeepsT.A (k := 104) KeepsT.nil)))))))) (fun (z : Vars_checker) => []) (fun z => ((H.set c0_2 (some (.tok 2 z.Fout.l.length))).set c0 (some (.cells (Vars_checker.cg (some c0_2) z))))) (fun z => Z57_j39 s104_34 ((Z57_l33 a1 a3 a4 x29 (Z57_n n) n33)) z = some r) ?_ ?_
     ·intro K39 hK39
      refine block ?_
      refine seqK fun K41 hK41 => ?_
      refine region ?_
      refine s0 moveA rfl ?_
      obtain ⟨x42, gx42, hE⟩ := bindO_some hE
      refine s0 (idxMn (f := TValue.c) (n := s104_34) (TK rfl) rfl (TK rfl) rfl rfl rfl gx42) rfl ?_
      refine s0 (loadV (TK rfl) rfl rfl rfl) rfl ?_
      refine sL (allocLA (TK rfl) rfl) rfl ?_
      refine s0 assignA rfl ?_
      refine sLn (storeLFA (TK rfl) rfl rfl rfl rfl rfl) ?_
      refine nil ?_
      refine hK41 _ ?_
      clear hK41 K41
      refine freezeA 18 _ rfl (Keeps.c (k := 0) (by conv => lhs; whnf) (by rfl) (Keeps.c (k := 4) (by conv => lhs; whnf) (by rfl) (Keeps.c (k := 6) (by conv => lhs; whnf) (by rfl) (Keeps.c (k := 15) (by conv => lhs; whnf) (by rfl) (Keeps.c (k := 16) (by conv => lhs; whnf) (by rfl) (Keeps.c (k := 17) (by conv => lhs; whnf) (by rfl) (Keeps.c (k := 102) (by conv => lhs; whnf) (by rfl) (Keeps.c (k := 103) (by conv => lhs; whnf) (by rfl) (Keeps.c (k := 104) (by conv => lhs; whnf) (by rfl) Keeps.nil))))))))) ?_
      refine seqK fun K43 hK43 => ?_
      refine region ?_
      refine sL (allocLA (TK rfl) rfl) rfl ?_
      refine nil ?_
      refine hK43 _ ?_
      clear hK43 K43
      refine seqK fun K44 hK44 => ?_
      refine region ?_
      refine s0 assignA rfl ?_
      refine nil ?_
      refine hK44 _ ?_
      clear hK44 K44
      refine seqJ (KeepsT.A (k := 0) (KeepsT.A (k := 4) (KeepsT.A (k := 6) (KeepsT.A (k := 15) (KeepsT.A (k := 16) (KeepsT.A (k := 18) (KeepsT.A (k := 19) (KeepsT.A (k := 102) (KeepsT.A (k := 103) (KeepsT.A (k := 104) KeepsT.nil)))))))))) (fun (z : Bool × TInput) => [(20, .a (.d (.bool z.1)))]) (fun z => [TInput.c z.2]) (fun z => ((H.set c0_2 (some (.tok 2 y35_c0.Fout.l.length))).set c0 (some (.cells (Vars_checker.cg (some c0_2) y35_c0))))) (fun z => Z57_j45 a4 s104_34 y35_c0 x42 ((Z57_l33 a1 a3 a4 x29 (Z57_n n) n33)) (Z57_n n) z.1 z.2 = some r) ?_ ?_
      ·intro K45 hK45
       refine seqK fun K49 hK49 => ?_
       refine region ?_
       refine s0 moveA rfl ?_
       refine s0 moveA rfl ?_
       refine gC rfl rfl (fun hC => moveA) rfl ?_
       refine gC rfl rfl (fun hC => fieldVA (TK rfl) rfl rfl (TK rfl) rfl rfl) rfl ?_
       refine gC rfl rfl (fun hC => ungdA (k := 112) rfl (loadV (TK rfl) rfl rfl rfl)) rfl ?_
       refine gC rfl rfl (fun hC => ungdA (k := 113) rfl (lenM' (f := strE) (s := a1.FKeys) (TK rfl) rfl rfl rfl)) rfl ?_
       refine gC rfl rfl (fun hC => ungdA (k := 111) rfl (ungdA (k := 114) rfl (binI rfl rfl rfl))) rfl ?_
       refine s0 (pickAndA rfl rfl rfl) rfl ?_
       refine nil ?_
       refine hK49 _ ?_
       clear hK49 K49
       refine condE hE rfl (fun hc50 hE => ?_) (fun hc50 hE => ?_)
       ·refine AWp.draw rfl ?_
        refine DOps.s0 (fieldVA (TK rfl) rfl rfl (TK rfl) rfl rfl) rfl ?_
        refine DOps.s0 (loadV (TK rfl) rfl rfl rfl) rfl ?_
        refine DOps.s0 (fieldVA (TK rfl) rfl rfl (TK rfl) rfl rfl) rfl ?_
        refine DOps.s0 (loadV (TK rfl) rfl rfl rfl) rfl ?_
        refine DOps.s0 moveA rfl ?_
        obtain ⟨x51, gx51, hE⟩ := bindO_some hE
        refine DOps.s0 (idxMn (f := strE) (n := s104_34) (TK rfl) rfl (TK rfl) rfl rfl rfl gx51) rfl ?_
        refine DOps.s0 (loadV (TK rfl) rfl rfl rfl) rfl ?_
        obtain ⟨x52, gx52, hE⟩ := bindO_some hE
        refine DOps.s0 (callP rfl rfl (fun H => Z24_walk gx52 H)) rfl ?_
        refine DOps.s0 moveA rfl ?_
        refine DOps.s0 (extract rfl rfl) rfl ?_
        refine DOps.s0 (extract rfl rfl) rfl ?_
        refine DOps.sLn (storeLFA (TK rfl) rfl rfl rfl rfl rfl) ?_
        refine DOps.s0 assignA rfl ?_
        refine DOps.nil (by decide +kernel) ?_
        exact hK45 _ (x52.2, x52.1) Weak.toA hE
       refine AWp.skip ?_
       exact hK45 _ (false, TInput.zero) Weak.toA hE
      rintro ⟨s20_46, y47_l0⟩ hE
      try dsimp only at hE
      unfold Z57_j45 at hE
      refine region ?_
      refine s0 moveA rfl ?_
      refine s0 (loadV (TK rfl) rfl rfl rfl) rfl ?_
      refine s0 (fieldL (TK rfl) rfl rfl (TK rfl) rfl rfl) rfl ?_
      refine s0 (loadL (TK rfl) rfl rfl rfl rfl) rfl ?_
      refine s0 moveA rfl ?_
      refine s0 moveA rfl ?_
      obtain ⟨x48, gx48, hE⟩ := bindO_some hE
      refine sH (callH rfl rfl (ih_64 gx48 _ hpG hpG)) rfl ?_
      refine AOps.heq (h' := ((H.set c0_2 (some (.tok 2 x48.Fout.l.length))).set c0 (some (.cells (Vars_checker.cg (some c0_2) x48))))) (by first | rfl | (rw [Heap.set_set]; rfl) | (funext n_; simp only [Heap.set]; (repeat' split) <;> first | rfl | (exfalso; simp_all; done) | (simp_all; done))) ?_
      refine nil ?_
      exact hK39 _ x48 Weak.toA hE
     rintro y40_c0 hE
     try dsimp only at hE
     unfold Z57_j39 at hE
     refine region ?_
     refine s0 (addIA rfl rfl) rfl ?_
     refine s0 moveA rfl ?_
     refine nil ?_
     exact hK33 _ (n33, (s104_34 + 1), y40_c0) Weak.toA hE (Nat.lt_succ_self _)
    refine AWp.exit ?_
    repeat (first | refine xBlock_normal ?_ | refine xThen_exit ?_ | refine xBlock_exit ?_)
    obtain rfl := Option.some.inj hE
    refine retQ.normalF ((H.set c0_2 (some (.tok 2 y35_c0.Fout.l.length))).set c0 (some (.cells (Vars_checker.cg (some c0_2) y35_c0)))) (xs := []) rfl ⟨rfl, rfl⟩ ?_
    exact (fun _ _ h => h)
 refine AWp.skip ?_
 repeat (first | refine xBlock_normal ?_ | refine xThen_exit ?_ | refine xBlock_exit ?_)
 obtain rfl := Option.some.inj hE
 refine retQ.normalF ((H.set c0_2 (some (.tok 2 a0.Fout.l.length))).set c0 (some (.cells (Vars_checker.cg (some c0_2) a0)))) (xs := []) rfl ⟨rfl, rfl⟩ ?_
 exact (fun _ _ h => h)
theorem Z57_all : ∀ (n : Nat), (∀ {a0 : Vars_checker} {a1 : TValue} {a2 : TRef} {a3 : Bool} {a4 : Bs}  {c0 : Nat} {c0_2 : Nat} {r : Vars_checker}, Z57_n n a0 a1 a2 a3 a4 = some r → ∀ (H : Heap) (hc0 : H c0 = some (.cells (Vars_checker.cg (some c0_2) a0))) (ht0_2 : H c0_2 = some (.tok 2 a0.Fout.l.length)), ACalls Tryd.prog 64 [.d (.ptr c0 0), .agg (TValue.c a1), .agg (TRef.c a2), .d (.bool a3), .d (.str a4)] H fun v h' => v = .tup [] ∧ h' = ((H.set c0_2 (some (.tok 2 r.Fout.l.length))).set c0 (some (.cells (Vars_checker.cg (some c0_2) r)))))
 | 0 => fun hE => by first | cases hE | (rw [Z57_n] at hE; cases hE)
 | n + 1 => Z57_step n (Z57_all n)
def Z57 (a0 : Vars_checker) (a1 : TValue) (a2 : TRef) (a3 : Bool) (a4 : Bs) : Option Vars_checker := Z57_n F0 a0 a1 a2 a3 a4
theorem Z57_walk {a0 : Vars_checker} {a1 : TValue} {a2 : TRef} {a3 : Bool} {a4 : Bs}  {c0 : Nat} {c0_2 : Nat} {r : Vars_checker} (hE : Z57 a0 a1 a2 a3 a4 = some r) (H : Heap) (hc0 : H c0 = some (.cells (Vars_checker.cg (some c0_2) a0))) (ht0_2 : H c0_2 = some (.tok 2 a0.Fout.l.length)) : ACalls Tryd.prog 64 [.d (.ptr c0 0), .agg (TValue.c a1), .agg (TRef.c a2), .d (.bool a3), .d (.str a4)] H fun v h' => v = .tup [] ∧ h' = ((H.set c0_2 (some (.tok 2 r.Fout.l.length))).set c0 (some (.cells (Vars_checker.cg (some c0_2) r)))) := (Z57_all F0) hE H hc0 ht0_2
def Z42 (a0 : TRef) : Option TRef := (Z40 a0).bind fun x4 => bif x4 then ((Z30 a0.FWraps).bind fun x7 => some (TRef.mk a0.FName x7)) else ((appC 8 (⟨false, [(1 : Int)]⟩ : Sl Int) a0.FWraps).bind fun x9 => some (TRef.mk a0.FName x9))
theorem Z42_walk {a0 : TRef}   {r : TRef} (hE : Z42 a0 = some r) (H : Heap)  : ACalls Tryd.prog 65 [.agg (TRef.c a0)] H fun v h' => v = .a (.agg (TRef.c r)) ∧ h' = H := by
 unfold Z42 at hE
 refine ACalls.of_wp (fn := Tryd.f65) (c := _) Tryd.tab_ok (fun _ _ => Tryd.call65 _ _) Tryd.func65 rfl (n := 18) rfl (rs := [.cell 2 32]) rfl rfl ?_
 refine seqK fun K1 hK1 => ?_
 refine region ?_
 refine s0 (boxV rfl) rfl ?_
 refine sL (allocLA (TK rfl) rfl) rfl ?_
 refine nil ?_
 refine hK1 _ ?_
 clear hK1 K1
 refine seqK fun K2 hK2 => ?_
 refine seqK fun K3 hK3 => ?_
 refine region ?_
 refine s0 (loadV (TK rfl) rfl rfl rfl) rfl ?_
 obtain ⟨x4, gx4, hE⟩ := bindO_some hE
 refine s0 (callP rfl rfl (fun H => Z40_walk gx4 H)) rfl ?_
 refine nil ?_
 refine hK3 _ ?_
 clear hK3 K3
 refine condE hE rfl (fun hc5 hE => ?_) (fun hc5 hE => ?_)
 ·refine seqK fun K6 hK6 => ?_
  refine AWp.draw rfl ?_
  refine DOps.s0 (fieldVA (TK rfl) rfl rfl (TK rfl) rfl rfl) rfl ?_
  refine DOps.s0 (loadV (TK rfl) rfl rfl rfl) rfl ?_
  refine DOps.s0 (fieldVA (TK rfl) rfl rfl (TK rfl) rfl rfl) rfl ?_
  refine DOps.s0 (loadV (TK rfl) rfl rfl rfl) rfl ?_
  obtain ⟨x7, gx7, hE⟩ := bindO_some hE
  refine DOps.s0 (callP rfl rfl (fun H => Z30_walk gx7 H)) rfl ?_
  refine DOps.s0 (build Tryd.tab_ok rfl rfl rfl rfl rfl rfl) rfl ?_
  refine DOps.sLn (storeLFA (TK rfl) rfl rfl rfl rfl rfl) ?_
  refine DOps.nil (by decide +kernel) ?_
  refine hK6 _ ?_
  clear hK6 K6
  refine AWp.ret ?_
  repeat (first | refine xBlock_ret ?_ | refine xThen_ret ?_)
  obtain rfl := Option.some.inj hE
  refine retQ.retF H rfl ⟨rfl, rfl⟩ ?_
  exact (fun _ _ h => h)
 refine AWp.skip ?_
 refine hK2 _ ?_
 clear hK2 K2
 refine seqK fun K8 hK8 => ?_
 refine AWp.draw rfl ?_
 refine DOps.s0 (fieldVA (TK rfl) rfl rfl (TK rfl) rfl rfl) rfl ?_
 refine DOps.s0 (loadV (TK rfl) rfl rfl rfl) rfl ?_
 refine DOps.s0 (buildSliceF (TK rfl) rfl (TK rfl) rfl rfl rfl rfl rfl rfl) rfl ?_
 refine DOps.s0 (fieldVA (TK rfl) rfl rfl (TK rfl) rfl rfl) rfl ?_
 refine DOps.s0 (loadV (TK rfl) rfl rfl rfl) rfl ?_
 obtain ⟨x9, gx9, hE⟩ := bindO_some hE
 refine DOps.s0 (appFM (f := (intE .i64)) (TK rfl) rfl (TK rfl) (TK rfl) ⟨_, rfl⟩ rfl rfl (by decide) rfl rfl rfl (by intro q h; cases h <;> decide) rfl rfl gx9) rfl ?_
 refine DOps.s0 (build Tryd.tab_ok rfl rfl rfl rfl rfl rfl) rfl ?_
 refine DOps.sLn (storeLFA (TK rfl) rfl rfl rfl rfl rfl) ?_
 refine DOps.nil (by decide +kernel) ?_
 refine hK8 _ ?_
 clear hK8 K8
 refine AWp.ret ?_
 repeat (first | refine xBlock_ret ?_ | refine xThen_ret ?_)
 obtain rfl := Option.some.inj hE
 refine retQ.retF H rfl ⟨rfl, rfl⟩ ?_
 exact (fun _ _ h => h)
def Z41 (a0 : Bs) : Option TRef := some (TRef.mk a0 (Sl.nil : Sl Int))
theorem Z41_walk {a0 : Bs}   {r : TRef} (hE : Z41 a0 = some r) (H : Heap)  : ACalls Tryd.prog 66 [.d (.str a0)] H fun v h' => v = .a (.agg (TRef.c r)) ∧ h' = H := by
 unfold Z41 at hE
 refine ACalls.of_wp (fn := Tryd.f66) (c := _) Tryd.tab_ok (fun _ _ => Tryd.call66 _ _) Tryd.func66 rfl (n := 5) rfl (rs := [.cell 2 32]) rfl rfl ?_
 refine seqK fun K1 hK1 => ?_
 refine region ?_
 refine sL (allocLA (TK rfl) rfl) rfl ?_
 refine nil ?_
 refine hK1 _ ?_
 clear hK1 K1
 refine seqK fun K2 hK2 => ?_
 refine region ?_
 refine s0 moveA rfl ?_
 refine s0 (build Tryd.tab_ok rfl rfl rfl rfl rfl rfl) rfl ?_
 refine sLn (storeLFA (TK rfl) rfl rfl rfl rfl rfl) ?_
 refine nil ?_
 refine hK2 _ ?_
 clear hK2 K2
 refine AWp.ret ?_
 repeat (first | refine xBlock_ret ?_ | refine xThen_ret ?_)
 obtain rfl := Option.some.inj hE
 refine retQ.retF H rfl ⟨rfl, rfl⟩ ?_
 exact (fun _ _ h => h)
end Go.Proofs
