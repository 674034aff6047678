import Derived.Test.YtimiconoebjfbaaDoorV2
set_option maxRecDepth 100000
set_option maxHeartbeats 2000000
set_option linter.unusedVariables false
set_option linter.unusedSimpArgs false
namespace Go.Proofs
open Go Go.Ab
open AOps Cert AWp
def Z26 (a0 : (Sl TVar)) (a1 : (TVar → Option Bool)) : Option Bool := (Z30 a0 a1).bind fun x3 => some (decide ((0 : Int) ≤ x3))
theorem Z26_walk {a0 : (Sl TVar)} {a1 : (TVar → Option Bool)} {w0 : Option Nat} {cl1 : List D} {k1 : Nat} {r : Bool} (hE : Z26 a0 a1 = some r) (H : Heap) (hf1 : ∀ x0 r, a1 x0 = some r → ∀ H, ACalls Tryd.prog k1 ([.agg (TVar.c x0)] ++ cl1.map A.d) H fun v h' => v = .a (.d (.bool r)) ∧ h' = H) : ACalls Tryd.prog 43 [.d (Sl.d 9 TVar.c w0 a0), .d (.func k1 cl1)] H fun v h' => v = .a (.d (.bool r)) ∧ h' = H := by
 unfold Z26 at hE
 refine ACalls.of_wp (fn := Tryd.f43) (c := _) Tryd.tab_ok (fun _ _ => Tryd.call43 _ _) Tryd.func43 rfl (n := 9) rfl (rs := [.tmp 4]) rfl rfl ?_
 refine seqK fun K1 hK1 => ?_
 refine region ?_
 refine s0 assignA rfl ?_
 refine nil ?_
 refine hK1 _ ?_
 clear hK1 K1
 refine seqK fun K2 hK2 => ?_
 refine region ?_
 refine s0 moveA rfl ?_
 refine s0 moveA rfl ?_
 obtain ⟨x3, gx3, hE⟩ := bindO_some hE
 refine s0 (callP rfl rfl (fun H => Z30_walk gx3 H hf1)) rfl ?_
 refine s0 (binI rfl rfl rfl) rfl ?_
 refine s0 assignA rfl ?_
 refine nil ?_
 refine hK2 _ ?_
 clear hK2 K2
 refine AWp.ret ?_
 repeat (first | refine xBlock_ret ?_ | refine xThen_ret ?_)
 obtain rfl := Option.some.inj hE
 refine retQ.retF H rfl ⟨rfl, rfl⟩ ?_
 exact (fun _ _ h => h)
def Z49 (a0 : TVar) (a1 : TVar) : Option Bool := some ((a0.FName == a1.FName))
theorem Z49_walk {a0 : TVar} {a1 : TVar}   {r : Bool} (hE : Z49 a0 a1 = some r) (H : Heap)  : ACalls Tryd.prog 44 [.agg (TVar.c a0), .d (.view (TVar.c a1))] H fun v h' => v = .a (.d (.bool r)) ∧ h' = H := by
 unfold Z49 at hE
 refine ACalls.of_wp (fn := Tryd.f44) (c := _) Tryd.tab_ok (fun _ _ => Tryd.call44 _ _) Tryd.func44 rfl (n := 9) rfl (rs := [.tmp 3]) rfl rfl ?_
 refine seqK fun K1 hK1 => ?_
 refine region ?_
 refine s0 (boxV rfl) rfl ?_
 refine s0 assignA rfl ?_
 refine nil ?_
 refine hK1 _ ?_
 clear hK1 K1
 refine seqK fun K2 hK2 => ?_
 refine region ?_
 refine s0 (fieldVA (TK rfl) rfl rfl (TK rfl) rfl rfl) rfl ?_
 refine s0 (loadV (TK rfl) rfl rfl rfl) rfl ?_
 refine s0 (fieldVA (TK rfl) rfl rfl (TK rfl) rfl rfl) rfl ?_
 refine s0 (loadV (TK rfl) rfl rfl rfl) rfl ?_
 refine s0 (binS rfl rfl rfl) rfl ?_
 refine s0 assignA rfl ?_
 refine nil ?_
 refine hK2 _ ?_
 clear hK2 K2
 refine AWp.ret ?_
 repeat (first | refine xBlock_ret ?_ | refine xThen_ret ?_)
 obtain rfl := Option.some.inj hE
 refine retQ.retF H rfl ⟨rfl, rfl⟩ ?_
 exact (fun _ _ h => h)
def Z47 (a0 : Vars_checker) (a1 : Bool) (a2 : Int) (a3 : Bs) : Option Vars_checker := bif a1 then ((appC 24 a0.Fout (⟨false, [(TFault.mk a2 a3)]⟩ : Sl TFault)).bind fun x3 => some (Vars_checker.mk a0.Fd a0.Fvars x3)) else (some a0)
theorem Z47_walk {a0 : Vars_checker} {a1 : Bool} {a2 : Int} {a3 : Bs}  {c0 : Nat} {c0_2 : Nat} {r : Vars_checker} (hE : Z47 a0 a1 a2 a3 = some r) (H : Heap) (hc0 : H c0 = some (.cells (Vars_checker.cg (some c0_2) a0))) (ht0_2 : H c0_2 = some (.tok 2 a0.Fout.l.length)) : ACalls Tryd.prog 45 [.d (.ptr c0 0), .d (.bool a1), .d (.int .i64 a2), .d (.str a3)] H fun v h' => v = .tup [] ∧ h' = ((H.set c0_2 (some (.tok 2 r.Fout.l.length))).set c0 (some (.cells (Vars_checker.cg (some c0_2) r)))) := by
 unfold Z47 at hE
 refine ACalls.of_wp (fn := Tryd.f45) (c := _) Tryd.tab_ok (fun _ _ => Tryd.call45 _ _) Tryd.func45 rfl (n := 21) rfl (rs := []) rfl rfl ?_
 have ne_c0_c0_2 : c0 ≠ c0_2 := fun e_ => by subst e_; simp_all
 refine AWp.heqA (h' := ((H.set c0_2 (some (.tok 2 a0.Fout.l.length))).set c0 (some (.cells (Vars_checker.cg (some c0_2) a0))))) (by funext n_; simp only [Heap.set]; (repeat' split) <;> simp_all) ?_
 refine seqK fun K1 hK1 => ?_
 refine region ?_
 refine s0 moveA rfl ?_
 refine nil ?_
 refine hK1 _ ?_
 clear hK1 K1
 refine condE hE rfl (fun hc2 hE => ?_) (fun hc2 hE => ?_)
 ·refine region ?_
  refine s0 moveA rfl ?_
  refine s0 moveA rfl ?_
  refine s0 (nilP rfl) rfl ?_
  refine s0 (fieldP (TK rfl) rfl rfl (TK rfl) rfl rfl) rfl ?_
  refine s0 (loadP (TK rfl) rfl rfl hpG rfl) rfl ?_
  refine s0 moveA rfl ?_
  refine s0 moveA rfl ?_
  refine s0 (build Tryd.tab_ok rfl rfl rfl rfl rfl rfl) rfl ?_
  refine s0 (buildSlice (TK rfl) rfl (TK rfl) rfl rfl rfl rfl rfl rfl) rfl ?_
  obtain ⟨x3, gx3, hE⟩ := bindO_some hE
  refine sH (appM (f := TFault.c) (TK rfl) rfl (TK rfl) (TK rfl) ⟨_, rfl⟩ rfl rfl (by decide) rfl rfl rfl rfl hpG rfl gx3) rfl ?_
  refine AOps.heq (h' := ((H.set c0_2 (some (.tok 2 x3.l.length))).set c0 (some (.cells (Vars_checker.cg (some c0_2) a0))))) (by first | rfl | (rw [Heap.set_set]; rfl) | (funext n_; simp only [Heap.set]; (repeat' split) <;> first | rfl | (exfalso; simp_all; done) | (simp_all; done))) ?_
  refine s0 (nilP rfl) rfl ?_
  refine s0 (fieldP (TK rfl) rfl rfl (TK rfl) rfl rfl) rfl ?_
  refine sHn (storeP1 (TK rfl) rfl rfl hpG rfl (by repeat (first | exact SetAt.zero | apply SetAt.succ))) rfl rfl ?_
  refine AOps.heq (h' := ((H.set c0_2 (some (.tok 2 x3.l.length))).set c0 (some (.cells (Vars_checker.cg (some c0_2) (Vars_checker.mk a0.Fd a0.Fvars x3)))))) (by first | rfl | (rw [Heap.set_set]; rfl) | (funext n_; simp only [Heap.set]; (repeat' split) <;> first | rfl | (exfalso; simp_all; done) | (simp_all; done))) ?_
  refine nil ?_
  repeat (first | refine xBlock_normal ?_ | refine xThen_exit ?_ | refine xBlock_exit ?_)
  obtain rfl := Option.some.inj hE
  refine retQ.normalF ((H.set c0_2 (some (.tok 2 x3.l.length))).set c0 (some (.cells (Vars_checker.cg (some c0_2) (Vars_checker.mk a0.Fd a0.Fvars x3))))) (xs := []) rfl ⟨rfl, rfl⟩ ?_
  exact (fun _ _ h => h)
 refine AWp.skip ?_
 repeat (first | refine xBlock_normal ?_ | refine xThen_exit ?_ | refine xBlock_exit ?_)
 obtain rfl := Option.some.inj hE
 refine retQ.normalF ((H.set c0_2 (some (.tok 2 a0.Fout.l.length))).set c0 (some (.cells (Vars_checker.cg (some c0_2) a0)))) (xs := []) rfl ⟨rfl, rfl⟩ ?_
 exact (fun _ _ h => h)
def Z18_j2  (y3_l0 : TDef) : Option (TDef × Bool) := some ((TDef.mk (0 : Int) ([] : Bs) (Sl.nil : Sl Bs) (Sl.nil : Sl TDir) (Sl.nil : Sl TField) (Sl.nil : Sl TMember) (Sl.nil : Sl TInput)), false)
def Z18_l7 (a0 : TDoc) (a1 : Bs)  : Nat → Nat → TDef → Option (TDef × Bool)
 | 0, _, _ => none
 | n7 + 1, s11_8, y9_l0 => bif (decide (((s11_8 : Nat) : Int) < ((a0.FDefs.l.length : Nat) : Int))) then ((a0.FDefs.l[s11_8]?).bind fun x15 => bif ((x15.FName == a1)) then (some (x15, true)) else ((Z18_l7 a0 a1 n7) (s11_8 + 1) y9_l0)) else (Z18_j2   y9_l0)
def Z18 (a0 : TDoc) (a1 : Bs) : Option (TDef × Bool) := Z18_l7 a0 a1 (a0.FDefs.l.length + 1) 0 TDef.zero
theorem Z18_walk {a0 : TDoc} {a1 : Bs}   {r : (TDef × Bool)} (hE : Z18 a0 a1 = some r) (H : Heap)  : ACalls Tryd.prog 46 [.agg (TDoc.c a0), .d (.str a1)] H fun v h' => v = .tup [.agg (TDef.c r.1), .d (.bool r.2)] ∧ h' = H := by
 unfold Z18 at hE
 refine ACalls.of_wp (fn := Tryd.f46) (c := _) Tryd.tab_ok (fun _ _ => Tryd.call46 _ _) Tryd.func46 rfl (n := 22) rfl (rs := [.cell 4 67, .tmp 5]) rfl rfl ?_
 refine seqK fun K1 hK1 => ?_
 refine region ?_
 refine s0 (boxV rfl) rfl ?_
 refine sL (allocLA (TK rfl) rfl) rfl ?_
 refine s0 assignA rfl ?_
 refine nil ?_
 refine hK1 _ ?_
 clear hK1 K1
 refine seqJ (KeepsT.A (k := 4) KeepsT.nil) (fun (z : TDef) => []) (fun z => [TDef.c z]) (fun z => H) (fun z => Z18_j2 z = some r) ?_ ?_
 ·intro K2 hK2
  refine seqK fun K5 hK5 => ?_
  refine region ?_
  refine s0 (fieldVA (TK rfl) rfl rfl (TK rfl) rfl rfl) rfl ?_
  refine s0 (loadV (TK rfl) rfl rfl rfl) rfl ?_
  refine sLen (f := TDef.c) (s := a0.FDefs) (TK rfl) rfl rfl rfl rfl fun hL6 => ?_
  refine s0 moveA rfl ?_
  refine nil ?_
  refine hK5 _ ?_
  clear hK5 K5
  refine block ?_
  refine loopO (KeepsT.A (k := 1) (KeepsT.A (k := 4) (KeepsT.A (k := 9) (KeepsT.A (k := 10) KeepsT.nil)))) (fun (z : Nat × Nat × TDef) => [(11, .a (.d (.int .i64 ((z.2.1 : Nat) : Int))))]) (fun z => [TDef.c z.2.2]) (fun z => H) (fun z => z.1) (fun z => Z18_l7 a0 a1 z.1 z.2.1 z.2.2 = some r) ((a0.FDefs.l.length + 1), 0, TDef.zero) hE Weak.toA ?_
  rintro ⟨n7, s11_8, y9_l0⟩ hE K7 hK7
  try dsimp only at hE
  cases n7 with
  | zero => cases hE
  | succ n7 =>
    rw [Z18_l7] at hE
    refine seqK fun K10 hK10 => ?_
    refine region ?_
    refine s0 (binI rfl rfl rfl) rfl ?_
    refine nil ?_
    refine hK10 _ ?_
    clear hK10 K10
    refine seqK fun K11 hK11 => ?_
    refine condE hE rfl (fun hc12 hE => ?_) (fun hc12 hE => ?_)
    ·try dsimp only at hc12
     have hf12 := of_decide_eq_true hc12
     refine AWp.skip ?_
     refine hK11 _ ?_
     clear hK11 K11
     refine seqK fun K13 hK13 => ?_
     refine block ?_
     refine seqK fun K14 hK14 => ?_
     refine region ?_
     obtain ⟨x15, gx15, hE⟩ := bindO_some hE
     refine s0 (idxMn (f := TDef.c) (n := s11_8) (TK rfl) rfl (TK rfl) rfl rfl rfl gx15) rfl ?_
     refine s0 (loadV (TK rfl) rfl rfl rfl) rfl ?_
     refine sL (allocLA (TK rfl) rfl) rfl ?_
     refine sLn (storeLFA (TK rfl) rfl rfl rfl rfl rfl) ?_
     refine nil ?_
     refine hK14 _ ?_
     clear hK14 K14
     refine freezeA 7 _ rfl (Keeps.c (k := 1) (by conv => lhs; whnf) (by rfl) (Keeps.c (k := 4) (by conv => lhs; whnf) (by rfl) (Keeps.c (k := 9) (by conv => lhs; whnf) (by rfl) (Keeps.c (k := 10) (by conv => lhs; whnf) (by rfl) (Keeps.c (k := 11) (by conv => lhs; whnf) (by rfl) Keeps.nil))))) ?_
     refine seqK fun K16 hK16 => ?_
     refine region ?_
     refine s0 (fieldVA (TK rfl) rfl rfl (TK rfl) rfl rfl) rfl ?_
     refine s0 (loadV (TK rfl) rfl rfl rfl) rfl ?_
     refine s0 moveA rfl ?_
     refine s0 (binS rfl rfl rfl) rfl ?_
     refine nil ?_
     refine hK16 _ ?_
     clear hK16 K16
     refine condE hE rfl (fun hc17 hE => ?_) (fun hc17 hE => ?_)
     ·refine seqK fun K18 hK18 => ?_
      refine region ?_
      refine s0 (loadV (TK rfl) rfl rfl rfl) rfl ?_
      refine sLn (storeLFA (TK rfl) rfl rfl rfl rfl rfl) ?_
      refine s0 assignA rfl ?_
      refine nil ?_
      refine hK18 _ ?_
      clear hK18 K18
      refine AWp.ret ?_
      repeat (first | refine xBlock_ret ?_ | refine xThen_ret ?_)
      obtain rfl := Option.some.inj hE
      refine retQ.retF H rfl ⟨rfl, rfl⟩ ?_
      exact (fun _ _ h => h)
     refine AWp.skip ?_
     refine hK13 _ ?_
     clear hK13 K13
     refine region ?_
     refine s0 (addIA rfl rfl) rfl ?_
     refine s0 moveA rfl ?_
     refine nil ?_
     exact hK7 _ (n7, (s11_8 + 1), y9_l0) Weak.toA hE (Nat.lt_succ_self _)
    refine AWp.exit ?_
    exact hK2 _ y9_l0 Weak.toA hE
 rintro y3_l0 hE
 try dsimp only at hE
 unfold Z18_j2 at hE
 refine seqK fun K4 hK4 => ?_
 refine region ?_
 refine s0 (build Tryd.tab_ok rfl rfl rfl rfl rfl rfl) rfl ?_
 refine sLn (storeLFA (TK rfl) rfl rfl rfl rfl rfl) ?_
 refine s0 assignA rfl ?_
 refine nil ?_
 refine hK4 _ ?_
 clear hK4 K4
 refine AWp.ret ?_
 repeat (first | refine xBlock_ret ?_ | refine xThen_ret ?_)
 obtain rfl := Option.some.inj hE
 refine retQ.retF H rfl ⟨rfl, rfl⟩ ?_
 exact (fun _ _ h => h)
def Z23 (a0 : Bs) : Option Bool := some (((((a0 == ([73, 110, 116] : Bs))) || ((a0 == ([83, 116, 114, 105, 110, 103] : Bs)))) || ((a0 == ([66, 111, 111, 108, 101, 97, 110] : Bs)))) || ((a0 == ([73, 68] : Bs))))
theorem Z23_walk {a0 : Bs}   {r : Bool} (hE : Z23 a0 = some r) (H : Heap)  : ACalls Tryd.prog 47 [.d (.str a0)] H fun v h' => v = .a (.d (.bool r)) ∧ h' = H := by
 unfold Z23 at hE
 refine ACalls.of_wp (fn := Tryd.f47) (c := _) Tryd.tab_ok (fun _ _ => Tryd.call47 _ _) Tryd.func47 rfl (n := 17) rfl (rs := [.tmp 2]) rfl rfl ?_
 refine seqK fun K1 hK1 => ?_
 refine region ?_
 refine s0 assignA rfl ?_
 refine nil ?_
 refine hK1 _ ?_
 clear hK1 K1
 refine seqK fun K2 hK2 => ?_
 refine region ?_
 refine s0 moveA rfl ?_
 refine s0 (binS rfl rfl rfl) rfl ?_
 refine s0 moveA rfl ?_
 refine gC rfl rfl (fun hC => moveA) rfl ?_
 refine gC rfl rfl (fun hC => ungdA (k := 6) rfl (binS rfl rfl rfl)) rfl ?_
 refine s0 (pickOrA rfl rfl rfl) rfl ?_
 refine s0 moveA rfl ?_
 refine gC rfl rfl (fun hC => moveA) rfl ?_
 refine gC rfl rfl (fun hC => ungdA (k := 10) rfl (binS rfl rfl rfl)) rfl ?_
 refine s0 (pickOrA rfl rfl rfl) rfl ?_
 refine s0 moveA rfl ?_
 refine gC rfl rfl (fun hC => moveA) rfl ?_
 refine gC rfl rfl (fun hC => ungdA (k := 14) rfl (binS rfl rfl rfl)) rfl ?_
 refine s0 (pickOrA rfl rfl rfl) rfl ?_
 refine s0 assignA rfl ?_
 refine nil ?_
 refine hK2 _ ?_
 clear hK2 K2
 refine AWp.ret ?_
 repeat (first | refine xBlock_ret ?_ | refine xThen_ret ?_)
 obtain rfl := Option.some.inj hE
 refine retQ.retF H rfl ⟨rfl, rfl⟩ ?_
 exact (fun _ _ h => h)
def Z24 (a0 : TDoc) (a1 : Bs) : Option Int := (Z18 a0 a1).bind fun x3 => some x3.1.FKind
theorem Z24_walk {a0 : TDoc} {a1 : Bs}   {r : Int} (hE : Z24 a0 a1 = some r) (H : Heap)  : ACalls Tryd.prog 60 [.agg (TDoc.c a0), .d (.str a1)] H fun v h' => v = .a (.d (.int .i64 r)) ∧ h' = H := by
 unfold Z24 at hE
 refine ACalls.of_wp (fn := Tryd.f60) (c := _) Tryd.tab_ok (fun _ _ => Tryd.call60 _ _) Tryd.func60 rfl (n := 15) rfl (rs := [.tmp 4]) rfl rfl ?_
 refine seqK fun K1 hK1 => ?_
 refine region ?_
 refine s0 (boxV rfl) rfl ?_
 refine s0 assignA rfl ?_
 refine nil ?_
 refine hK1 _ ?_
 clear hK1 K1
 refine seqK fun K2 hK2 => ?_
 refine region ?_
 refine s0 (loadV (TK rfl) rfl rfl rfl) rfl ?_
 refine s0 moveA rfl ?_
 obtain ⟨x3, gx3, hE⟩ := bindO_some hE
 refine s0 (callP rfl rfl (fun H => Z18_walk gx3 H)) rfl ?_
 refine s0 moveA rfl ?_
 refine s0 (extract rfl rfl) rfl ?_
 refine s0 (extract rfl rfl) rfl ?_
 refine sL (allocLA (TK rfl) rfl) rfl ?_
 refine sLn (storeLFA (TK rfl) rfl rfl rfl rfl rfl) ?_
 refine s0 assignA rfl ?_
 refine nil ?_
 refine hK2 _ ?_
 clear hK2 K2
 refine freezeA 5 _ rfl Keeps.nil ?_
 refine seqK fun K4 hK4 => ?_
 refine region ?_
 refine s0 (fieldVA (TK rfl) rfl rfl (TK rfl) rfl rfl) rfl ?_
 refine s0 (loadV (TK rfl) rfl rfl rfl) rfl ?_
 refine s0 assignA rfl ?_
 refine nil ?_
 refine hK4 _ ?_
 clear hK4 K4
 refine AWp.ret ?_
 repeat (first | refine xBlock_ret ?_ | refine xThen_ret ?_)
 obtain rfl := Option.some.inj hE
 refine retQ.retF H rfl ⟨rfl, rfl⟩ ?_
 exact (fun _ _ h => h)
def Z21 (a0 : TDoc) (a1 : Bs) : Option Bool := (Z23 a1).bind fun x3 => guardO (!x3) (Z24 a0 a1) (0 : Int) fun x4 => some (x3 || (decide (x4 = (4 : Int))))
theorem Z21_walk {a0 : TDoc} {a1 : Bs}   {r : Bool} (hE : Z21 a0 a1 = some r) (H : Heap)  : ACalls Tryd.prog 59 [.agg (TDoc.c a0), .d (.str a1)] H fun v h' => v = .a (.d (.bool r)) ∧ h' = H := by
 unfold Z21 at hE
 refine ACalls.of_wp (fn := Tryd.f59) (c := _) Tryd.tab_ok (fun _ _ => Tryd.call59 _ _) Tryd.func59 rfl (n := 13) rfl (rs := [.tmp 4]) rfl rfl ?_
 refine seqK fun K1 hK1 => ?_
 refine region ?_
 refine s0 (boxV rfl) rfl ?_
 refine s0 assignA rfl ?_
 refine nil ?_
 refine hK1 _ ?_
 clear hK1 K1
 refine seqK fun K2 hK2 => ?_
 refine region ?_
 refine s0 moveA rfl ?_
 obtain ⟨x3, gx3, hE⟩ := bindO_some hE
 refine s0 (callP rfl rfl (fun H => Z23_walk gx3 H)) rfl ?_
 refine s0 moveA rfl ?_
 refine gC rfl rfl (fun hC => loadV (TK rfl) rfl rfl rfl) rfl ?_
 refine gC rfl rfl (fun hC => moveA) rfl ?_
 obtain ⟨x4, gx4, hE⟩ := guardO_some hE
 refine gC rfl rfl (fun hC => ungdA (k := 8) rfl (ungdA (k := 9) rfl (callP rfl rfl (fun H => Z24_walk (gx4 hC) H)))) rfl ?_
 refine gC rfl rfl (fun hC => ungdA (k := 10) rfl (binI rfl rfl rfl)) rfl ?_
 refine s0 (pickOrA rfl rfl rfl) rfl ?_
 refine s0 assignA rfl ?_
 refine nil ?_
 refine hK2 _ ?_
 clear hK2 K2
 refine AWp.ret ?_
 repeat (first | refine xBlock_ret ?_ | refine xThen_ret ?_)
 obtain rfl := Option.some.inj hE
 refine retQ.retF H rfl ⟨rfl, rfl⟩ ?_
 exact (fun _ _ h => h)
def Z20 (a0 : TDoc) (a1 : Bs) : Option Bool := (Z21 a0 a1).bind fun x3 => guardO (!x3) (Z24 a0 a1) (0 : Int) fun x4 => some (x3 || (decide (x4 = (5 : Int))))
theorem Z20_walk {a0 : TDoc} {a1 : Bs}   {r : Bool} (hE : Z20 a0 a1 = some r) (H : Heap)  : ACalls Tryd.prog 48 [.agg (TDoc.c a0), .d (.str a1)] H fun v h' => v = .a (.d (.bool r)) ∧ h' = H := by
 unfold Z20 at hE
 refine ACalls.of_wp (fn := Tryd.f48) (c := _) Tryd.tab_ok (fun _ _ => Tryd.call48 _ _) Tryd.func48 rfl (n := 14) rfl (rs := [.tmp 4]) rfl rfl ?_
 refine seqK fun K1 hK1 => ?_
 refine region ?_
 refine s0 (boxV rfl) rfl ?_
 refine s0 assignA rfl ?_
 refine nil ?_
 refine hK1 _ ?_
 clear hK1 K1
 refine seqK fun K2 hK2 => ?_
 refine region ?_
 refine s0 (loadV (TK rfl) rfl rfl rfl) rfl ?_
 refine s0 moveA rfl ?_
 obtain ⟨x3, gx3, hE⟩ := bindO_some hE
 refine s0 (callP rfl rfl (fun H => Z21_walk gx3 H)) rfl ?_
 refine s0 moveA rfl ?_
 refine gC rfl rfl (fun hC => loadV (TK rfl) rfl rfl rfl) rfl ?_
 refine gC rfl rfl (fun hC => moveA) rfl ?_
 obtain ⟨x4, gx4, hE⟩ := guardO_some hE
 refine gC rfl rfl (fun hC => ungdA (k := 9) rfl (ungdA (k := 10) rfl (callP rfl rfl (fun H => Z24_walk (gx4 hC) H)))) rfl ?_
 refine gC rfl rfl (fun hC => ungdA (k := 11) rfl (binI rfl rfl rfl)) rfl ?_
 refine s0 (pickOrA rfl rfl rfl) rfl ?_
 refine s0 assignA rfl ?_
 refine nil ?_
 refine hK2 _ ?_
 clear hK2 K2
 refine AWp.ret ?_
 repeat (first | refine xBlock_ret ?_ | refine xThen_ret ?_)
 obtain rfl := Option.some.inj hE
 refine retQ.retF H rfl ⟨rfl, rfl⟩ ?_
 exact (fun _ _ h => h)
def Z0 (a0 : TDoc) (a1 : TRef) (a2 : TValue) (a3 : TValue) : Option (TValue × Int) := none
theorem Z0_walk {a0 : TDoc} {a1 : TRef} {a2 : TValue} {a3 : TValue}   {r : (TValue × Int)} (hE : Z0 a0 a1 a2 a3 = some r) (H : Heap)  : ACalls Tryd.prog 49 [.agg (TDoc.c a0), .agg (TRef.c a1), .agg (TValue.c a2), .agg (TValue.c a3)] H fun v h' => v = .tup [.agg (TValue.c r.1), .d (.int .i64 r.2)] ∧ h' = H := by cases hE
def Z48_j10 (s17_5 : Nat) (k_next_4 : Nat → Vars_checker → Option Vars_checker) (y11_c0 : Vars_checker) : Option Vars_checker := k_next_4 (s17_5 + 1) y11_c0
def Z48_j29 (a1 : TOp) (a2 : (Sl Bs)) (s17_5 : Nat) (x13 : TVar) (k_next_4 : Nat → Vars_checker → Option Vars_checker) (y30_c0 : Vars_checker) : Option Vars_checker := (Z27 a2 x13.FName).bind fun x31 => (Z47 y30_c0 (!x31) (26 : Int) a1.FName).bind fun x32 => Z48_j10 s17_5 k_next_4 x32
def Z48_l4 (a1 : TOp) (a2 : (Sl Bs))  : Nat → Nat → Vars_checker → Option Vars_checker
 | 0, _, _ => none
 | n4 + 1, s17_5, y6_c0 => bif (decide (((s17_5 : Nat) : Int) < ((a1.FVars.l.length : Nat) : Int))) then ((a1.FVars.l[s17_5]?).bind fun x13 => (partC a1.FVars none (some ((s17_5 : Nat) : Int))).bind fun x15 => (Z26 x15 (fun y0 => Z49 y0 x13)).bind fun x16 => (Z47 y6_c0 x16 (7 : Int) a1.FName).bind fun x18 => (Z18 x18.Fd x13.FType.FName).bind fun x20 => guardO (!x20.2) (Z23 x13.FType.FName) false fun x22 => (Z20 x18.Fd x13.FType.FName).bind fun x24 => (Z47 x18 (!(x20.2 || x22)) (8 : Int) a1.FName).bind fun x26 => (Z47 x26 ((x20.2 || x22) && (!x24)) (10 : Int) a1.FName).bind fun x28 => bif (x13.FHas && x24) then ((Z0 x28.Fd x13.FType x13.FDefault (TValue.mk (6 : Int) (0 : Int) ([] : Bs) true ([]) (Sl.nil : Sl Bs))).bind fun x36 => (Z47 x28 (!decide (x36.2 = (0 : Int))) (23 : Int) a1.FName).bind fun x37 => Z48_j29 a1 a2 s17_5 x13 ((Z48_l4 a1 a2 n4)) x37) else (Z48_j29 a1 a2 s17_5 x13 ((Z48_l4 a1 a2 n4)) x28)) else (some y6_c0)
def Z48 (a0 : Vars_checker) (a1 : TOp) (a2 : (Sl Bs)) : Option Vars_checker := Z48_l4 a1 a2 (a1.FVars.l.length + 1) 0 a0
theorem Z48_walk {a0 : Vars_checker} {a1 : TOp} {a2 : (Sl Bs)} {w2 : Option Nat} {c0 : Nat} {c0_2 : Nat} {r : Vars_checker} (hE : Z48 a0 a1 a2 = some r) (H : Heap) (hc0 : H c0 = some (.cells (Vars_checker.cg (some c0_2) a0))) (ht0_2 : H c0_2 = some (.tok 2 a0.Fout.l.length)) : ACalls Tryd.prog 24 [.d (.ptr c0 0), .agg (TOp.c a1), .d (Sl.d 1 strE w2 a2)] H fun v h' => v = .tup [] ∧ h' = ((H.set c0_2 (some (.tok 2 r.Fout.l.length))).set c0 (some (.cells (Vars_checker.cg (some c0_2) r)))) := by
 unfold Z48 at hE
 refine ACalls.of_wp (fn := Tryd.f24) (c := _) Tryd.tab_ok (fun _ _ => Tryd.call24 _ _) Tryd.func24 rfl (n := 108) rfl (rs := []) rfl rfl ?_
 have ne_c0_c0_2 : c0 ≠ c0_2 := fun e_ => by subst e_; simp_all
 refine AWp.heqA (h' := ((H.set c0_2 (some (.tok 2 a0.Fout.l.length))).set c0 (some (.cells (Vars_checker.cg (some c0_2) a0))))) (by funext n_; simp only [Heap.set]; (repeat' split) <;> simp_all) ?_
 refine seqK fun K1 hK1 => ?_
 refine region ?_
 refine s0 (boxV rfl) rfl ?_
 refine nil ?_
 refine hK1 _ ?_
 clear hK1 K1
 refine seqK fun K2 hK2 => ?_
 refine region ?_
 refine s0 (fieldVA (TK rfl) rfl rfl (TK rfl) rfl rfl) rfl ?_
 refine s0 (loadV (TK rfl) rfl rfl rfl) rfl ?_
 refine sLen (f := TVar.c) (s := a1.FVars) (TK rfl) rfl rfl rfl rfl fun hL3 => ?_
 refine s0 moveA rfl ?_
 refine nil ?_
 refine hK2 _ ?_
 clear hK2 K2
 refine block ?_
 refine loopH (KeepsT.A (k := 0) (KeepsT.A (k := 2) (KeepsT.A (k := 4) (KeepsT.A (k := 15) (KeepsT.A (k := 16) KeepsT.nil))))) (fun (z : Nat × Nat × Vars_checker) => [(17, .a (.d (.int .i64 ((z.2.1 : Nat) : Int))))]) (fun z => ((H.set c0_2 (some (.tok 2 z.2.2.Fout.l.length))).set c0 (some (.cells (Vars_checker.cg (some c0_2) z.2.2))))) (fun z => z.1) (fun z => Z48_l4 a1 a2 z.1 z.2.1 z.2.2 = some r) ((a1.FVars.l.length + 1), 0, a0) hE Weak.toA ?_
 rintro ⟨n4, s17_5, y6_c0⟩ hE K4 hK4
 try dsimp only at hE
 cases n4 with
 | zero => cases hE
 | succ n4 =>
   rw [Z48_l4] at hE
   refine seqK fun K7 hK7 => ?_
   refine region ?_
   refine s0 (binI rfl rfl rfl) rfl ?_
   refine nil ?_
   refine hK7 _ ?_
   clear hK7 K7
   refine seqK fun K8 hK8 => ?_
   refine condE hE rfl (fun hc9 hE => ?_) (fun hc9 hE => ?_)
   ·try dsimp only at hc9
    have hf9 := of_decide_eq_true hc9
    refine AWp.skip ?_
    refine hK8 _ ?_
    clear hK8 K8
    refine seqJH (KeepsT.A (k := 0) (KeepsT.A (k := 2) (KeepsT.A (k := 4) (KeepsT.A (k := 15) (KeepsT.A (k := 16) (KeepsT.A (k := 17) KeepsT.nil)))))) (fun (z : Vars_checker) => []) (fun z => ((H.set c0_2 (some (.tok 2 z.Fout.l.length))).set c0 (some (.cells (Vars_checker.cg (some c0_2) z))))) (fun z => Z48_j10 s17_5 ((Z48_l4 a1 a2 n4)) z = some r) ?_ ?_
    ·intro K10 hK10
     refine block ?_
     refine seqK fun K12 hK12 => ?_
     refine region ?_
     refine s0 moveA rfl ?_
     obtain ⟨x13, gx13, hE⟩ := bindO_some hE
     refine s0 (idxMn (f := TVar.c) (n := s17_5) (TK rfl) rfl (TK rfl) rfl rfl rfl gx13) rfl ?_
     refine s0 (loadV (TK rfl) rfl rfl rfl) rfl ?_
     refine sL (allocLA (TK rfl) rfl) rfl ?_
     refine s0 assignA rfl ?_
     refine sLn (storeLFA (TK rfl) rfl rfl rfl rfl rfl) ?_
     refine nil ?_
     refine hK12 _ ?_
     clear hK12 K12
     refine freezeA 7 _ rfl (Keeps.c (k := 0) (by conv => lhs; whnf) (by rfl) (Keeps.c (k := 2) (by conv => lhs; whnf) (by rfl) (Keeps.c (k := 4) (by conv => lhs; whnf) (by rfl) (Keeps.c (k := 6) (by conv => lhs; whnf) (by rfl) (Keeps.c (k := 15) (by conv => lhs; whnf) (by rfl) (Keeps.c (k := 16) (by conv => lhs; whnf) (by rfl) (Keeps.c (k := 17) (by conv => lhs; whnf) (by rfl) Keeps.nil))))))) ?_
     refine seqK fun K14 hK14 => ?_
     refine region ?_
     refine s0 (fieldVA (TK rfl) rfl rfl (TK rfl) rfl rfl) rfl ?_
     refine s0 (loadV (TK rfl) rfl rfl rfl) rfl ?_
     refine s0 moveA rfl ?_
     obtain ⟨x15, gx15, hE⟩ := bindO_some hE
     refine s0 (partM (f := TVar.c) (l := none) (r := (some ((s17_5 : Nat) : Int))) (TK rfl) rfl (TK rfl) rfl rfl trivial rfl gx15) rfl ?_
     refine s0 (makeFunc rfl) rfl ?_
     obtain ⟨x16, gx16, hE⟩ := bindO_some hE
     refine s0 (callP rfl rfl (fun H => Z26_walk gx16 H (fun _ _ hx => Z49_walk hx))) rfl ?_
     refine s0 assignA rfl ?_
     refine nil ?_
     refine hK14 _ ?_
     clear hK14 K14
     refine seqK fun K17 hK17 => ?_
     refine region ?_
     refine s0 moveA rfl ?_
     refine s0 moveA rfl ?_
     refine s0 (fieldVA (TK rfl) rfl rfl (TK rfl) rfl rfl) rfl ?_
     refine s0 (loadV (TK rfl) rfl rfl rfl) rfl ?_
     obtain ⟨x18, gx18, hE⟩ := bindO_some hE
     refine sH (callH rfl rfl (Z47_walk gx18 _ hpG hpG)) rfl ?_
     refine AOps.heq (h' := ((H.set c0_2 (some (.tok 2 x18.Fout.l.length))).set c0 (some (.cells (Vars_checker.cg (some c0_2) x18))))) (by first | rfl | (rw [Heap.set_set]; rfl) | (funext n_; simp only [Heap.set]; (repeat' split) <;> first | rfl | (exfalso; simp_all; done) | (simp_all; done))) ?_
     refine nil ?_
     refine hK17 _ ?_
     clear hK17 K17
     refine seqK fun K19 hK19 => ?_
     refine AWp.draw rfl ?_
     refine DOps.s0 moveA rfl ?_
     refine DOps.s0 (nilP rfl) rfl ?_
     refine DOps.s0 (fieldP (TK rfl) rfl rfl (TK rfl) rfl rfl) rfl ?_
     refine DOps.s0 (loadP (TK rfl) rfl rfl hpG rfl) rfl ?_
     refine DOps.s0 (fieldVA (TK rfl) rfl rfl (TK rfl) rfl rfl) rfl ?_
     refine DOps.s0 (fieldVA (TK rfl) rfl rfl (TK rfl) rfl rfl) rfl ?_
     refine DOps.s0 (loadV (TK rfl) rfl rfl rfl) rfl ?_
     obtain ⟨x20, gx20, hE⟩ := bindO_some hE
     refine DOps.s0 (callP rfl rfl (fun H => Z18_walk gx20 H)) rfl ?_
     refine DOps.s0 moveA rfl ?_
     refine DOps.s0 (extract rfl rfl) rfl ?_
     refine DOps.s0 (extract rfl rfl) rfl ?_
     refine DOps.sL (allocLA (TK rfl) rfl) rfl ?_
     refine DOps.sLn (storeLFA (TK rfl) rfl rfl rfl rfl rfl) ?_
     refine DOps.s0 assignA rfl ?_
     refine DOps.nil (by decide +kernel) ?_
     refine hK19 _ ?_
     clear hK19 K19
     refine freezeA 9 _ rfl (Keeps.c (k := 0) (by conv => lhs; whnf) (by rfl) (Keeps.c (k := 2) (by conv => lhs; whnf) (by rfl) (Keeps.c (k := 4) (by conv => lhs; whnf) (by rfl) (Keeps.c (k := 7) (by conv => lhs; whnf) (by rfl) (Keeps.c (k := 10) (by conv => lhs; whnf) (by rfl) (Keeps.c (k := 15) (by conv => lhs; whnf) (by rfl) (Keeps.c (k := 16) (by conv => lhs; whnf) (by rfl) (Keeps.c (k := 17) (by conv => lhs; whnf) (by rfl) Keeps.nil)))))))) ?_
     refine seqK fun K21 hK21 => ?_
     refine region ?_
     refine s0 moveA rfl ?_
     refine s0 moveA rfl ?_
     refine gC rfl rfl (fun hC => fieldVA (TK rfl) rfl rfl (TK rfl) rfl rfl) rfl ?_
     refine gC rfl rfl (fun hC => ungdA (k := 46) rfl (fieldVA (TK rfl) rfl rfl (TK rfl) rfl rfl)) rfl ?_
     refine gC rfl rfl (fun hC => ungdA (k := 47) rfl (loadV (TK rfl) rfl rfl rfl)) rfl ?_
     obtain ⟨x22, gx22, hE⟩ := guardO_some hE
     refine gC rfl rfl (fun hC => ungdA (k := 48) rfl (callP rfl rfl (fun H => Z23_walk (gx22 hC) H))) rfl ?_
     refine s0 (pickOrA rfl rfl rfl) rfl ?_
     refine s0 assignA rfl ?_
     refine nil ?_
     refine hK21 _ ?_
     clear hK21 K21
     refine seqK fun K23 hK23 => ?_
     refine AWp.draw rfl ?_
     refine DOps.s0 moveA rfl ?_
     refine DOps.s0 (nilP rfl) rfl ?_
     refine DOps.s0 (fieldP (TK rfl) rfl rfl (TK rfl) rfl rfl) rfl ?_
     refine DOps.s0 (loadP (TK rfl) rfl rfl hpG rfl) rfl ?_
     refine DOps.s0 (fieldVA (TK rfl) rfl rfl (TK rfl) rfl rfl) rfl ?_
     refine DOps.s0 (fieldVA (TK rfl) rfl rfl (TK rfl) rfl rfl) rfl ?_
     refine DOps.s0 (loadV (TK rfl) rfl rfl rfl) rfl ?_
     obtain ⟨x24, gx24, hE⟩ := bindO_some hE
     refine DOps.s0 (callP rfl rfl (fun H => Z20_walk gx24 H)) rfl ?_
     refine DOps.s0 assignA rfl ?_
     refine DOps.nil (by decide +kernel) ?_
     refine hK23 _ ?_
     clear hK23 K23
     refine seqK fun K25 hK25 => ?_
     refine region ?_
     refine s0 moveA rfl ?_
     refine s0 moveA rfl ?_
     refine s0 (notB rfl) rfl ?_
     refine s0 (fieldVA (TK rfl) rfl rfl (TK rfl) rfl rfl) rfl ?_
     refine s0 (loadV (TK rfl) rfl rfl rfl) rfl ?_
     obtain ⟨x26, gx26, hE⟩ := bindO_some hE
     refine sH (callH rfl rfl (Z47_walk gx26 _ hpG hpG)) rfl ?_
     refine AOps.heq (h' := ((H.set c0_2 (some (.tok 2 x26.Fout.l.length))).set c0 (some (.cells (Vars_checker.cg (some c0_2) x26))))) (by first | rfl | (rw [Heap.set_set]; rfl) | (funext n_; simp only [Heap.set]; (repeat' split) <;> first | rfl | (exfalso; simp_all; done) | (simp_all; done))) ?_
     refine nil ?_
     refine hK25 _ ?_
     clear hK25 K25
     refine seqK fun K27 hK27 => ?_
     refine region ?_
     refine s0 moveA rfl ?_
     refine s0 moveA rfl ?_
     refine s0 moveA rfl ?_
     refine gC rfl rfl (fun hC => moveA) rfl ?_
     refine gC rfl rfl (fun hC => ungdA (k := 68) rfl (notB rfl)) rfl ?_
     refine s0 (pickAndA rfl rfl rfl) rfl ?_
     refine s0 (fieldVA (TK rfl) rfl rfl (TK rfl) rfl rfl) rfl ?_
     refine s0 (loadV (TK rfl) rfl rfl rfl) rfl ?_
     obtain ⟨x28, gx28, hE⟩ := bindO_some hE
     refine sH (callH rfl rfl (Z47_walk gx28 _ hpG hpG)) rfl ?_
     refine AOps.heq (h' := ((H.set c0_2 (some (.tok 2 x28.Fout.l.length))).set c0 (some (.cells (Vars_checker.cg (some c0_2) x28))))) (by first | rfl | (rw [Heap.set_set]; rfl) | (funext n_; simp only [Heap.set]; (repeat' split) <;> first | rfl | (exfalso; simp_all; done) | (simp_all; done))) ?_
     refine nil ?_
     refine hK27 _ ?_
     clear hK27 K27
     refine seqJH (KeepsT.A (k := 0) (KeepsT.A (k := 2) (KeepsT.A (k := 4) (KeepsT.A (k := 7) (KeepsT.A (k := 15) (KeepsT.A (k := 16) (KeepsT.A (k := 17) KeepsT.nil))))))) (fun (z : Vars_checker) => []) (fun z => ((H.set c0_2 (some (.tok 2 z.Fout.l.length))).set c0 (some (.cells (Vars_checker.cg (some c0_2) z))))) (fun z => Z48_j29 a1 a2 s17_5 x13 ((Z48_l4 a1 a2 n4)) z = some r) ?_ ?_
     ·intro K29 hK29
      refine seqK fun K33 hK33 => ?_
      refine region ?_
      refine s0 (fieldVA (TK rfl) rfl rfl (TK rfl) rfl rfl) rfl ?_
      refine s0 (loadV (TK rfl) rfl rfl rfl) rfl ?_
      refine s0 moveA rfl ?_
      refine gC rfl rfl (fun hC => moveA) rfl ?_
      refine s0 (pickAndA rfl rfl rfl) rfl ?_
      refine nil ?_
      refine hK33 _ ?_
      clear hK33 K33
      refine condE hE rfl (fun hc34 hE => ?_) (fun hc34 hE => ?_)
      ·refine seqK fun K35 hK35 => ?_
       refine AWp.draw rfl ?_
       refine DOps.s0 moveA rfl ?_
       refine DOps.s0 (nilP rfl) rfl ?_
       refine DOps.s0 (fieldP (TK rfl) rfl rfl (TK rfl) rfl rfl) rfl ?_
       refine DOps.s0 (loadP (TK rfl) rfl rfl hpG rfl) rfl ?_
       refine DOps.s0 (fieldVA (TK rfl) rfl rfl (TK rfl) rfl rfl) rfl ?_
       refine DOps.s0 (loadV (TK rfl) rfl rfl rfl) rfl ?_
       refine DOps.s0 (fieldVA (TK rfl) rfl rfl (TK rfl) rfl rfl) rfl ?_
       refine DOps.s0 (loadV (TK rfl) rfl rfl rfl) rfl ?_
       refine DOps.s0 (build Tryd.tab_ok rfl rfl rfl rfl rfl rfl) rfl ?_
       obtain ⟨x36, gx36, hE⟩ := bindO_some hE
       refine DOps.s0 (callP rfl rfl (fun H => Z0_walk gx36 H)) rfl ?_
       refine DOps.s0 moveA rfl ?_
       refine DOps.s0 (extract rfl rfl) rfl ?_
       refine DOps.s0 (extract rfl rfl) rfl ?_
       refine DOps.sL (allocLA (TK rfl) rfl) rfl ?_
       refine DOps.sLn (storeLFA (TK rfl) rfl rfl rfl rfl rfl) ?_
       refine DOps.s0 assignA rfl ?_
       refine DOps.nil (by decide +kernel) ?_
       refine hK35 _ ?_
       clear hK35 K35
       refine freezeA 12 _ rfl (Keeps.c (k := 0) (by conv => lhs; whnf) (by rfl) (Keeps.c (k := 2) (by conv => lhs; whnf) (by rfl) (Keeps.c (k := 4) (by conv => lhs; whnf) (by rfl) (Keeps.c (k := 7) (by conv => lhs; whnf) (by rfl) (Keeps.c (k := 13) (by conv => lhs; whnf) (by rfl) (Keeps.c (k := 15) (by conv => lhs; whnf) (by rfl) (Keeps.c (k := 16) (by conv => lhs; whnf) (by rfl) (Keeps.c (k := 17) (by conv => lhs; whnf) (by rfl) Keeps.nil)))))))) ?_
       refine region ?_
       refine s0 moveA rfl ?_
       refine s0 moveA rfl ?_
       refine s0 (binI rfl rfl rfl) rfl ?_
       refine s0 (fieldVA (TK rfl) rfl rfl (TK rfl) rfl rfl) rfl ?_
       refine s0 (loadV (TK rfl) rfl rfl rfl) rfl ?_
       obtain ⟨x37, gx37, hE⟩ := bindO_some hE
       refine sH (callH rfl rfl (Z47_walk gx37 _ hpG hpG)) rfl ?_
       refine AOps.heq (h' := ((H.set c0_2 (some (.tok 2 x37.Fout.l.length))).set c0 (some (.cells (Vars_checker.cg (some c0_2) x37))))) (by first | rfl | (rw [Heap.set_set]; rfl) | (funext n_; simp only [Heap.set]; (repeat' split) <;> first | rfl | (exfalso; simp_all; done) | (simp_all; done))) ?_
       refine nil ?_
       exact hK29 _ x37 Weak.toA hE
      refine AWp.skip ?_
      exact hK29 _ x28 Weak.toA hE
     rintro y30_c0 hE
     try dsimp only at hE
     unfold Z48_j29 at hE
     refine AWp.draw rfl ?_
     refine DOps.s0 moveA rfl ?_
     refine DOps.s0 moveA rfl ?_
     refine DOps.s0 (fieldVA (TK rfl) rfl rfl (TK rfl) rfl rfl) rfl ?_
     refine DOps.s0 (loadV (TK rfl) rfl rfl rfl) rfl ?_
     obtain ⟨x31, gx31, hE⟩ := bindO_some hE
     refine DOps.s0 (callP rfl rfl (fun H => Z27_walk gx31 H)) rfl ?_
     refine DOps.s0 (notB rfl) rfl ?_
     refine DOps.s0 (fieldVA (TK rfl) rfl rfl (TK rfl) rfl rfl) rfl ?_
     refine DOps.s0 (loadV (TK rfl) rfl rfl rfl) rfl ?_
     obtain ⟨x32, gx32, hE⟩ := bindO_some hE
     refine DOps.sH (callH rfl rfl (Z47_walk gx32 _ hpG hpG)) rfl ?_
     refine DOps.heq (h' := ((H.set c0_2 (some (.tok 2 x32.Fout.l.length))).set c0 (some (.cells (Vars_checker.cg (some c0_2) x32))))) (by first | rfl | (rw [Heap.set_set]; rfl) | (funext n_; simp only [Heap.set]; (repeat' split) <;> first | rfl | (exfalso; simp_all; done) | (simp_all; done))) ?_
     refine DOps.nil (by decide +kernel) ?_
     exact hK10 _ x32 Weak.toA hE
    rintro y11_c0 hE
    try dsimp only at hE
    unfold Z48_j10 at hE
    refine region ?_
    refine s0 (addIA rfl rfl) rfl ?_
    refine s0 moveA rfl ?_
    refine nil ?_
    exact hK4 _ (n4, (s17_5 + 1), y11_c0) Weak.toA hE (Nat.lt_succ_self _)
   refine AWp.exit ?_
   repeat (first | refine xBlock_normal ?_ | refine xThen_exit ?_ | refine xBlock_exit ?_)
   obtain rfl := Option.some.inj hE
   refine retQ.normalF ((H.set c0_2 (some (.tok 2 y6_c0.Fout.l.length))).set c0 (some (.cells (Vars_checker.cg (some c0_2) y6_c0)))) (xs := []) rfl ⟨rfl, rfl⟩ ?_
   exact (fun _ _ h => h)
def Z19_j2  (y3_l0 : TInput) : Option (TInput × Bool) := some ((TInput.mk ([] : Bs) TRef.zero false TValue.zero (Sl.nil : Sl TDir)), false)
def Z19_l7 (a0 : (Sl TInput)) (a1 : Bs)  : Nat → Nat → TInput → Option (TInput × Bool)
 | 0, _, _ => none
 | n7 + 1, s10_8, y9_l0 => bif (decide (((s10_8 : Nat) : Int) < ((a0.l.length : Nat) : Int))) then ((a0.l[s10_8]?).bind fun x15 => bif ((x15.FName == a1)) then (some (x15, true)) else ((Z19_l7 a0 a1 n7) (s10_8 + 1) y9_l0)) else (Z19_j2   y9_l0)
def Z19 (a0 : (Sl TInput)) (a1 : Bs) : Option (TInput × Bool) := Z19_l7 a0 a1 (a0.l.length + 1) 0 TInput.zero
theorem Z19_walk {a0 : (Sl TInput)} {a1 : Bs} {w0 : Option Nat}  {r : (TInput × Bool)} (hE : Z19 a0 a1 = some r) (H : Heap)  : ACalls Tryd.prog 69 [.d (Sl.d 10 TInput.c w0 a0), .d (.str a1)] H fun v h' => v = .tup [.agg (TInput.c r.1), .d (.bool r.2)] ∧ h' = H := by
 unfold Z19 at hE
 refine ACalls.of_wp (fn := Tryd.f69) (c := _) Tryd.tab_ok (fun _ _ => Tryd.call69 _ _) Tryd.func69 rfl (n := 21) rfl (rs := [.cell 4 60, .tmp 5]) rfl rfl ?_
 refine seqK fun K1 hK1 => ?_
 refine region ?_
 refine sL (allocLA (TK rfl) rfl) rfl ?_
 refine s0 assignA rfl ?_
 refine nil ?_
 refine hK1 _ ?_
 clear hK1 K1
 refine seqJ (KeepsT.A (k := 4) KeepsT.nil) (fun (z : TInput) => []) (fun z => [TInput.c z]) (fun z => H) (fun z => Z19_j2 z = some r) ?_ ?_
 ·intro K2 hK2
  refine seqK fun K5 hK5 => ?_
  refine region ?_
  refine s0 moveA rfl ?_
  refine sLen (f := TInput.c) (s := a0) (TK rfl) rfl rfl rfl rfl fun hL6 => ?_
  refine s0 moveA rfl ?_
  refine nil ?_
  refine hK5 _ ?_
  clear hK5 K5
  refine block ?_
  refine loopO (KeepsT.A (k := 1) (KeepsT.A (k := 4) (KeepsT.A (k := 8) (KeepsT.A (k := 9) KeepsT.nil)))) (fun (z : Nat × Nat × TInput) => [(10, .a (.d (.int .i64 ((z.2.1 : Nat) : Int))))]) (fun z => [TInput.c z.2.2]) (fun z => H) (fun z => z.1) (fun z => Z19_l7 a0 a1 z.1 z.2.1 z.2.2 = some r) ((a0.l.length + 1), 0, TInput.zero) hE Weak.toA ?_
  rintro ⟨n7, s10_8, y9_l0⟩ hE K7 hK7
  try dsimp only at hE
  cases n7 with
  | zero => cases hE
  | succ n7 =>
    rw [Z19_l7] at hE
    refine seqK fun K10 hK10 => ?_
    refine region ?_
    refine s0 (binI rfl rfl rfl) rfl ?_
    refine nil ?_
    refine hK10 _ ?_
    clear hK10 K10
    refine seqK fun K11 hK11 => ?_
    refine condE hE rfl (fun hc12 hE => ?_) (fun hc12 hE => ?_)
    ·try dsimp only at hc12
     have hf12 := of_decide_eq_true hc12
     refine AWp.skip ?_
     refine hK11 _ ?_
     clear hK11 K11
     refine seqK fun K13 hK13 => ?_
     refine block ?_
     refine seqK fun K14 hK14 => ?_
     refine region ?_
     obtain ⟨x15, gx15, hE⟩ := bindO_some hE
     refine s0 (idxMn (f := TInput.c) (n := s10_8) (TK rfl) rfl (TK rfl) rfl rfl rfl gx15) rfl ?_
     refine s0 (loadV (TK rfl) rfl rfl rfl) rfl ?_
     refine sL (allocLA (TK rfl) rfl) rfl ?_
     refine sLn (storeLFA (TK rfl) rfl rfl rfl rfl rfl) ?_
     refine nil ?_
     refine hK14 _ ?_
     clear hK14 K14
     refine freezeA 7 _ rfl (Keeps.c (k := 1) (by conv => lhs; whnf) (by rfl) (Keeps.c (k := 4) (by conv => lhs; whnf) (by rfl) (Keeps.c (k := 8) (by conv => lhs; whnf) (by rfl) (Keeps.c (k := 9) (by conv => lhs; whnf) (by rfl) (Keeps.c (k := 10) (by conv => lhs; whnf) (by rfl) Keeps.nil))))) ?_
     refine seqK fun K16 hK16 => ?_
     refine region ?_
     refine s0 (fieldVA (TK rfl) rfl rfl (TK rfl) rfl rfl) rfl ?_
     refine s0 (loadV (TK rfl) rfl rfl rfl) rfl ?_
     refine s0 moveA rfl ?_
     refine s0 (binS rfl rfl rfl) rfl ?_
     refine nil ?_
     refine hK16 _ ?_
     clear hK16 K16
     refine condE hE rfl (fun hc17 hE => ?_) (fun hc17 hE => ?_)
     ·refine seqK fun K18 hK18 => ?_
      refine region ?_
      refine s0 (loadV (TK rfl) rfl rfl rfl) rfl ?_
      refine sLn (storeLFA (TK rfl) rfl rfl rfl rfl rfl) ?_
      refine s0 assignA rfl ?_
      refine nil ?_
      refine hK18 _ ?_
      clear hK18 K18
      refine AWp.ret ?_
      repeat (first | refine xBlock_ret ?_ | refine xThen_ret ?_)
      obtain rfl := Option.some.inj hE
      refine retQ.retF H rfl ⟨rfl, rfl⟩ ?_
      exact (fun _ _ h => h)
     refine AWp.skip ?_
     refine hK13 _ ?_
     clear hK13 K13
     refine region ?_
     refine s0 (addIA rfl rfl) rfl ?_
     refine s0 moveA rfl ?_
     refine nil ?_
     exact hK7 _ (n7, (s10_8 + 1), y9_l0) Weak.toA hE (Nat.lt_succ_self _)
    refine AWp.exit ?_
    exact hK2 _ y9_l0 Weak.toA hE
 rintro y3_l0 hE
 try dsimp only at hE
 unfold Z19_j2 at hE
 refine seqK fun K4 hK4 => ?_
 refine region ?_
 refine s0 (build Tryd.tab_ok rfl rfl rfl rfl rfl rfl) rfl ?_
 refine sLn (storeLFA (TK rfl) rfl rfl rfl rfl rfl) ?_
 refine s0 assignA rfl ?_
 refine nil ?_
 refine hK4 _ ?_
 clear hK4 K4
 refine AWp.ret ?_
 repeat (first | refine xBlock_ret ?_ | refine xThen_ret ?_)
 obtain rfl := Option.some.inj hE
 refine retQ.retF H rfl ⟨rfl, rfl⟩ ?_
 exact (fun _ _ h => h)
def Z53 (a0 : TVar) (a1 : TValue) : Option Bool := some ((a0.FName == a1.FText))
theorem Z53_walk {a0 : TVar} {a1 : TValue}   {r : Bool} (hE : Z53 a0 a1 = some r) (H : Heap)  : ACalls Tryd.prog 80 [.agg (TVar.c a0), .d (.view (TValue.c a1))] H fun v h' => v = .a (.d (.bool r)) ∧ h' = H := by
 unfold Z53 at hE
 refine ACalls.of_wp (fn := Tryd.f80) (c := _) Tryd.tab_ok (fun _ _ => Tryd.call80 _ _) Tryd.func80 rfl (n := 9) rfl (rs := [.tmp 3]) rfl rfl ?_
 refine seqK fun K1 hK1 => ?_
 refine region ?_
 refine s0 (boxV rfl) rfl ?_
 refine s0 assignA rfl ?_
 refine nil ?_
 refine hK1 _ ?_
 clear hK1 K1
 refine seqK fun K2 hK2 => ?_
 refine region ?_
 refine s0 (fieldVA (TK rfl) rfl rfl (TK rfl) rfl rfl) rfl ?_
 refine s0 (loadV (TK rfl) rfl rfl rfl) rfl ?_
 refine s0 (fieldVA (TK rfl) rfl rfl (TK rfl) rfl rfl) rfl ?_
 refine s0 (loadV (TK rfl) rfl rfl rfl) rfl ?_
 refine s0 (binS rfl rfl rfl) rfl ?_
 refine s0 assignA rfl ?_
 refine nil ?_
 refine hK2 _ ?_
 clear hK2 K2
 refine AWp.ret ?_
 repeat (first | refine xBlock_ret ?_ | refine xThen_ret ?_)
 obtain rfl := Option.some.inj hE
 refine retQ.retF H rfl ⟨rfl, rfl⟩ ?_
 exact (fun _ _ h => h)
end Go.Proofs

namespace Go.Proofs
open Go Go.Ab
open AOps Cert AWp
def Z52_l16 (a1 : TValue) (a3 : Bool) (a4 : Bs) (x13 : (TRef × Bool)) (k_rec_64 : Vars_checker → TValue → TRef → Bool → Bs → Option Vars_checker) : Nat → Nat → Vars_checker → Option Vars_checker
 | 0, _, _ => none
 | n16 + 1, s66_17, y18_c0 => bif (decide (((s66_17 : Nat) : Int) < ((a1.FItems.l.length : Nat) : Int))) then ((a1.FItems.l[s66_17]?).bind fun x24 => (k_rec_64 y18_c0 x24 x13.1 (a3 && x13.2) a4).bind fun x25 => (Z52_l16 a1 a3 a4 x13 k_rec_64 n16) (s66_17 + 1) x25) else (some y18_c0)
def Z52_j39 (s104_34 : Nat) (k_next_33 : Nat → Vars_checker → Option Vars_checker) (y40_c0 : Vars_checker) : Option Vars_checker := k_next_33 (s104_34 + 1) y40_c0
def Z52_j45 (a4 : Bs) (s104_34 : Nat) (y35_c0 : Vars_checker) (x42 : TValue) (k_next_33 : Nat → Vars_checker → Option Vars_checker) (k_rec_64 : Vars_checker → TValue → TRef → Bool → Bs → Option Vars_checker) (s20_46 : Bool) (y47_l0 : TInput) : Option Vars_checker := (k_rec_64 y35_c0 x42 y47_l0.FType s20_46 a4).bind fun x48 => Z52_j39 s104_34 k_next_33 x48
def Z52_l33 (a1 : TValue) (a3 : Bool) (a4 : Bs) (x29 : (TDef × Bool)) (k_rec_64 : Vars_checker → TValue → TRef → Bool → Bs → Option Vars_checker) : Nat → Nat → Vars_checker → Option Vars_checker
 | 0, _, _ => none
 | n33 + 1, s104_34, y35_c0 => bif (decide (((s104_34 : Nat) : Int) < ((a1.FItems.l.length : Nat) : Int))) then ((a1.FItems.l[s104_34]?).bind fun x42 => bif (((x29.2 && a3) && (decide (x29.1.FKind = (5 : Int)))) && (decide (((s104_34 : Nat) : Int) < ((a1.FKeys.l.length : Nat) : Int)))) then ((a1.FKeys.l[s104_34]?).bind fun x51 => (Z19 x29.1.FInputs x51).bind fun x52 => Z52_j45 a4 s104_34 y35_c0 x42 ((Z52_l33 a1 a3 a4 x29 k_rec_64 n33)) k_rec_64 x52.2 x52.1) else (Z52_j45 a4 s104_34 y35_c0 x42 ((Z52_l33 a1 a3 a4 x29 k_rec_64 n33)) k_rec_64 false TInput.zero)) else (some y35_c0)
def Z52_n : Nat → Vars_checker → TValue → TRef → Bool → Bs → Option Vars_checker
 | 0, _, _, _, _, _ => none
 | n + 1, a0, a1, a2, a3, a4 => bif (decide (a1.FKind = (7 : Int))) then ((Z30 a0.Fvars (fun y0 => Z53 y0 a1)).bind fun x6 => guardO ((!(decide (x6 < (0 : Int))) && a3)) (idxC a0.Fvars.l (if (0 : Int) > x6 then (0 : Int) else x6)) TVar.zero fun x7 => guardO ((!(decide (x6 < (0 : Int))) && a3)) (Z45 a0.Fd x7 a2 false) false fun x8 => (Z47 a0 ((decide (x6 < (0 : Int))) || (a3 && (!x8))) (27 : Int) a4).bind fun x9 => some x9) else (bif (decide (a1.FKind = (5 : Int))) then ((Z33 a2).bind fun x13 => Z52_l16 a1 a3 a4 x13 (Z52_n n) (a1.FItems.l.length + 1) 0 a0) else (bif (decide (a1.FKind = (6 : Int))) then ((Z18 a0.Fd a2.FName).bind fun x29 => Z52_l33 a1 a3 a4 x29 (Z52_n n) (a1.FItems.l.length + 1) 0 a0) else (some a0)))
theorem Z52_step (n : Nat) (ih_64 : ∀ {a0 : Vars_checker} {a1 : TValue} {a2 : TRef} {a3 : Bool} {a4 : Bs}  {c0 : Nat} {c0_2 : Nat} {r : Vars_checker}, Z52_n n a0 a1 a2 a3 a4 = some r → ∀ (H : Heap) (hc0 : H c0 = some (.cells (Vars_checker.cg (some c0_2) a0))) (ht0_2 : H c0_2 = some (.tok 2 a0.Fout.l.length)), ACalls Tryd.prog 64 [.d (.ptr c0 0), .agg (TValue.c a1), .agg (TRef.c a2), .d (.bool a3), .d (.str a4)] H fun v h' => v = .tup [] ∧ h' = ((H.set c0_2 (some (.tok 2 r.Fout.l.length))).set c0 (some (.cells (Vars_checker.cg (some c0_2) r))))) : ∀ {a0 : Vars_checker} {a1 : TValue} {a2 : TRef} {a3 : Bool} {a4 : Bs}  {c0 : Nat} {c0_2 : Nat} {r : Vars_checker}, Z52_n (n + 1) a0 a1 a2 a3 a4 = some r → ∀ (H : Heap) (hc0 : H c0 = some (.cells (Vars_checker.cg (some c0_2) a0))) (ht0_2 : H c0_2 = some (.tok 2 a0.Fout.l.length)), ACalls Tryd.prog 64 [.d (.ptr c0 0), .agg (TValue.c a1), .agg (TRef.c a2), .d (.bool a3), .d (.str a4)] H fun v h' => v = .tup [] ∧ h' = ((H.set c0_2 (some (.tok 2 r.Fout.l.length))).set c0 (some (.cells (Vars_checker.cg (some c0_2) r)))) := by
 intro a0 a1 a2 a3 a4  c0 c0_2 r hE H hc0 ht0_2
 rw [Z52_n] at hE
 refine ACalls.of_wp (fn := Tryd.f64) (c := _) Tryd.tab_ok (fun _ _ => Tryd.call64 _ _) Tryd.func64 rfl (n := 136) rfl (rs := []) rfl rfl ?_
 have ne_c0_c0_2 : c0 ≠ c0_2 := fun e_ => by subst e_; simp_all
 refine AWp.heqA (h' := ((H.set c0_2 (some (.tok 2 a0.Fout.l.length))).set c0 (some (.cells (Vars_checker.cg (some c0_2) a0))))) (by funext n_; simp only [Heap.set]; (repeat' split) <;> simp_all) ?_
 refine seqK fun K1 hK1 => ?_
 refine region ?_
 refine s0 (boxV rfl) rfl ?_
 refine s0 (boxV rfl) rfl ?_
 refine nil ?_
 refine hK1 _ ?_
 clear hK1 K1
 refine seqK fun K2 hK2 => ?_
 refine region ?_
 refine s0 (fieldVA (TK rfl) rfl rfl (TK rfl) rfl rfl) rfl ?_
 refine s0 (loadV (TK rfl) rfl rfl rfl) rfl ?_
 refine nil ?_
 refine hK2 _ ?_
 clear hK2 K2
 refine block ?_
 refine seqK fun K3 hK3 => ?_
 refine region ?_
 refine s0 (binI rfl rfl rfl) rfl ?_
 refine s0 assignA rfl ?_
 refine nil ?_
 refine hK3 _ ?_
 clear hK3 K3
 refine condE hE rfl (fun hc4 hE => ?_) (fun hc4 hE => ?_)
 ·refine seqK fun K5 hK5 => ?_
  refine region ?_
  refine s0 moveA rfl ?_
  refine s0 (nilP rfl) rfl ?_
  refine s0 (fieldP (TK rfl) rfl rfl (TK rfl) rfl rfl) rfl ?_
  refine s0 (loadP (TK rfl) rfl rfl hpG rfl) rfl ?_
  refine s0 (makeFunc rfl) rfl ?_
  obtain ⟨x6, gx6, hE⟩ := bindO_some hE
  refine s0 (callP rfl rfl (fun H => Z30_walk gx6 H (fun _ _ hx => Z53_walk hx))) rfl ?_
  refine s0 assignA rfl ?_
  refine nil ?_
  refine hK5 _ ?_
  clear hK5 K5
  refine AWp.draw rfl ?_
  refine DOps.s0 moveA rfl ?_
  refine DOps.s0 moveA rfl ?_
  refine DOps.s0 (binI rfl rfl rfl) rfl ?_
  refine DOps.s0 moveA rfl ?_
  refine DOps.gC rfl rfl (fun hC => moveA) rfl ?_
  refine DOps.gC rfl rfl (fun hC => ungdA (k := 35) rfl moveA) rfl ?_
  refine DOps.gC rfl rfl (fun hC => moveA) rfl ?_
  refine DOps.gC rfl rfl (fun hC => ungdA (k := 37) rfl (nilP rfl)) rfl ?_
  refine DOps.gC rfl rfl (fun hC => ungdA (k := 38) rfl (fieldP (TK rfl) rfl rfl (TK rfl) rfl rfl)) rfl ?_
  refine DOps.gC rfl rfl (fun hC => ungdA (k := 39) rfl (loadP (TK rfl) rfl rfl hpG rfl)) rfl ?_
  refine DOps.gC rfl rfl (fun hC => moveA) rfl ?_
  refine DOps.gC rfl rfl (fun hC => ungdA (k := 41) rfl (nilP rfl)) rfl ?_
  refine DOps.gC rfl rfl (fun hC => ungdA (k := 42) rfl (fieldP (TK rfl) rfl rfl (TK rfl) rfl rfl)) rfl ?_
  refine DOps.gC rfl rfl (fun hC => ungdA (k := 43) rfl (loadP (TK rfl) rfl rfl hpG rfl)) rfl ?_
  refine DOps.gC rfl rfl (fun hC => moveA) rfl ?_
  refine DOps.gC rfl rfl (fun hC => ungdA (k := 45) rfl (maxM rfl rfl)) rfl ?_
  obtain ⟨x7, gx7, hE⟩ := guardO_some hE
  refine DOps.gC rfl rfl (fun hC => ungdA (k := 44) rfl (ungdA (k := 46) rfl (idxM (f := TVar.c) (TK rfl) rfl (TK rfl) rfl rfl rfl (gx7 hC)))) rfl ?_
  refine DOps.gC rfl rfl (fun hC => ungdA (k := 47) rfl (loadV (TK rfl) rfl rfl rfl)) rfl ?_
  refine DOps.gC rfl rfl (fun hC => loadV (TK rfl) rfl rfl rfl) rfl ?_
  obtain ⟨x8, gx8, hE⟩ := guardO_some hE
  refine DOps.gC rfl rfl (fun hC => ungdA (k := 40) rfl (ungdA (k := 48) rfl (ungdA (k := 49) rfl (callP rfl rfl (fun H => Z45_walk (gx8 hC) H))))) rfl ?_
  refine DOps.gC rfl rfl (fun hC => ungdA (k := 50) rfl (notB rfl)) rfl ?_
  refine DOps.gC rfl rfl (fun hC => ungdA (k := 36) rfl (pickAndA rfl rfl rfl)) rfl ?_
  refine DOps.s0 (pickOrA rfl rfl rfl) rfl ?_
  refine DOps.s0 moveA rfl ?_
  obtain ⟨x9, gx9, hE⟩ := bindO_some hE
  refine DOps.sH (callH rfl rfl (Z47_walk gx9 _ hpG hpG)) rfl ?_
  refine DOps.heq (h' := ((H.set c0_2 (some (.tok 2 x9.Fout.l.length))).set c0 (some (.cells (Vars_checker.cg (some c0_2) x9))))) (by first | rfl | (rw [Heap.set_set]; rfl) | (funext n_; simp only [Heap.set]; (repeat' split) <;> first | rfl | (exfalso; simp_all; done) | (simp_all; done))) ?_
  refine DOps.nil (by decide +kernel) ?_
  repeat (first | refine xBlock_normal ?_ | refine xThen_exit ?_ | refine xBlock_exit ?_)
  obtain rfl := Option.some.inj hE
  refine retQ.normalF ((H.set c0_2 (some (.tok 2 x9.Fout.l.length))).set c0 (some (.cells (Vars_checker.cg (some c0_2) x9)))) (xs := []) rfl ⟨rfl, rfl⟩ ?_
  exact (fun _ _ h => h)
 refine seqK fun K10 hK10 => ?_
 refine region ?_
 refine s0 (binI rfl rfl rfl) rfl ?_
 refine s0 assignA rfl ?_
 refine nil ?_
 refine hK10 _ ?_
 clear hK10 K10
 refine condE hE rfl (fun hc11 hE => ?_) (fun hc11 hE => ?_)
 ·refine seqK fun K12 hK12 => ?_
  refine region ?_
  refine s0 (loadV (TK rfl) rfl rfl rfl) rfl ?_
  obtain ⟨x13, gx13, hE⟩ := bindO_some hE
  refine s0 (callP rfl rfl (fun H => Z33_walk gx13 H)) rfl ?_
  refine s0 moveA rfl ?_
  refine s0 (extract rfl rfl) rfl ?_
  refine s0 (extract rfl rfl) rfl ?_
  refine sL (allocLA (TK rfl) rfl) rfl ?_
  refine sLn (storeLFA (TK rfl) rfl rfl rfl rfl rfl) ?_
  refine s0 assignA rfl ?_
  refine nil ?_
  refine hK12 _ ?_
  clear hK12 K12
  refine freezeA 11 _ rfl (Keeps.c (k := 0) (by conv => lhs; whnf) (by rfl) (Keeps.c (k := 3) (by conv => lhs; whnf) (by rfl) (Keeps.c (k := 4) (by conv => lhs; whnf) (by rfl) (Keeps.c (k := 6) (by conv => lhs; whnf) (by rfl) (Keeps.c (k := 12) (by conv => lhs; whnf) (by rfl) Keeps.nil))))) ?_
  refine seqK fun K14 hK14 => ?_
  refine region ?_
  refine s0 (fieldVA (TK rfl) rfl rfl (TK rfl) rfl rfl) rfl ?_
  refine s0 (loadV (TK rfl) rfl rfl (congrArg (fun x => some (A.d x)) (TValue.FItemsD_eq _))) rfl ?_
  refine sLen (f := TValue.c) (s := a1.FItems) (TK rfl) rfl rfl rfl rfl fun hL15 => ?_
  refine s0 moveA rfl ?_
  refine nil ?_
  refine hK14 _ ?_
  clear hK14 K14
  refine block ?_
  refine loopH (KeepsT.A (k := 0) (KeepsT.A (k := 3) (KeepsT.A (k := 4) (KeepsT.A (k := 11) (KeepsT.A (k := 12) (KeepsT.A (k := 64) (KeepsT.A (k := 65) KeepsT.nil))))))) (fun (z : Nat × Nat × Vars_checker) => [(66, .a (.d (.int .i64 ((z.2.1 : Nat) : Int))))]) (fun z => ((H.set c0_2 (some (.tok 2 z.2.2.Fout.l.length))).set c0 (some (.cells (Vars_checker.cg (some c0_2) z.2.2))))) (fun z => z.1) (fun z => Z52_l16 a1 a3 a4 x13 (Z52_n n) z.1 z.2.1 z.2.2 = some r) ((a1.FItems.l.length + 1), 0, a0) hE Weak.toA ?_
  rintro ⟨n16, s66_17, y18_c0⟩ hE K16 hK16
  try dsimp only at hE
  cases n16 with
  | zero => cases hE
  | succ n16 =>
    rw [Z52_l16] at hE
    refine seqK fun K19 hK19 => ?_
    refine region ?_
    refine s0 (binI rfl rfl rfl) rfl ?_
    refine nil ?_
    refine hK19 _ ?_
    clear hK19 K19
    refine seqK fun K20 hK20 => ?_
    refine condE hE rfl (fun hc21 hE => ?_) (fun hc21 hE => ?_)
    ·try dsimp only at hc21
     have hf21 := of_decide_eq_true hc21
     refine AWp.skip ?_
     refine hK20 _ ?_
     clear hK20 K20
     refine seqK fun K22 hK22 => ?_
     refine block ?_
     refine seqK fun K23 hK23 => ?_
     refine region ?_
     obtain ⟨x24, gx24, hE⟩ := bindO_some hE
     refine s0 (idxMn (f := TValue.c) (n := s66_17) (TK rfl) rfl (TK rfl) rfl rfl rfl gx24) rfl ?_
     refine s0 (loadV (TK rfl) rfl rfl rfl) rfl ?_
     refine sL (allocLA (TK rfl) rfl) rfl ?_
     refine sLn (storeLFA (TK rfl) rfl rfl rfl rfl rfl) ?_
     refine nil ?_
     refine hK23 _ ?_
     clear hK23 K23
     refine freezeA 14 _ rfl (Keeps.c (k := 0) (by conv => lhs; whnf) (by rfl) (Keeps.c (k := 3) (by conv => lhs; whnf) (by rfl) (Keeps.c (k := 4) (by conv => lhs; whnf) (by rfl) (Keeps.c (k := 11) (by conv => lhs; whnf) (by rfl) (Keeps.c (k := 12) (by conv => lhs; whnf) (by rfl) (Keeps.c (k := 64) (by conv => lhs; whnf) (by rfl) (Keeps.c (k := 65) (by conv => lhs; whnf) (by rfl) (Keeps.c (k := 66) (by conv => lhs; whnf) (by rfl) Keeps.nil)))))))) ?_
     refine region ?_
     refine s0 moveA rfl ?_
     refine s0 (loadV (TK rfl) rfl rfl rfl) rfl ?_
     refine s0 (loadV (TK rfl) rfl rfl rfl) rfl ?_
     refine s0 moveA rfl ?_
     refine s0 moveA rfl ?_
     refine gC rfl rfl (fun hC => moveA) rfl ?_
     refine s0 (pickAndA rfl rfl rfl) rfl ?_
     refine s0 moveA rfl ?_
     obtain ⟨x25, gx25, hE⟩ := bindO_some hE
     refine sH (callH rfl rfl (ih_64 gx25 _ hpG hpG)) rfl ?_
     refine AOps.heq (h' := ((H.set c0_2 (some (.tok 2 x25.Fout.l.length))).set c0 (some (.cells (Vars_checker.cg (some c0_2) x25))))) (by first | rfl | (rw [Heap.set_set]; rfl) | (funext n_; simp only [Heap.set]; (repeat' split) <;> first | rfl | (exfalso; simp_all; done) | (simp_all; done))) ?_
     refine nil ?_
     refine hK22 _ ?_
     clear hK22 K22
     refine region ?_
     refine s0 (addIA rfl rfl) rfl ?_
     refine s0 moveA rfl ?_
     refine nil ?_
     exact hK16 _ (n16, (s66_17 + 1), x25) Weak.toA hE (Nat.lt_succ_self _)
    refine AWp.exit ?_
    repeat (first | refine xBlock_normal ?_ | refine xThen_exit ?_ | refine xBlock_exit ?_)
    obtain rfl := Option.some.inj hE
    refine retQ.normalF ((H.set c0_2 (some (.tok 2 y18_c0.Fout.l.length))).set c0 (some (.cells (Vars_checker.cg (some c0_2) y18_c0)))) (xs := []) rfl ⟨rfl, rfl⟩ ?_
    exact (fun _ _ h => h)
 refine seqK fun K26 hK26 => ?_
 refine region ?_
 refine s0 (binI rfl rfl rfl) rfl ?_
 refine s0 assignA rfl ?_
 refine nil ?_
 refine hK26 _ ?_
 clear hK26 K26
 refine condE hE rfl (fun hc27 hE => ?_) (fun hc27 hE => ?_)
 ·refine seqK fun K28 hK28 => ?_
  refine AWp.draw rfl ?_
  refine DOps.s0 moveA rfl ?_
  refine DOps.s0 (nilP rfl) rfl ?_
  refine DOps.s0 (fieldP (TK rfl) rfl rfl (TK rfl) rfl rfl) rfl ?_
  refine DOps.s0 (loadP (TK rfl) rfl rfl hpG rfl) rfl ?_
  refine DOps.s0 (fieldVA (TK rfl) rfl rfl (TK rfl) rfl rfl) rfl ?_
  refine DOps.s0 (loadV (TK rfl) rfl rfl rfl) rfl ?_
  obtain ⟨x29, gx29, hE⟩ := bindO_some hE
  refine DOps.s0 (callP rfl rfl (fun H => Z18_walk gx29 H)) rfl ?_
  refine DOps.s0 moveA rfl ?_
  refine DOps.s0 (extract rfl rfl) rfl ?_
  refine DOps.s0 (extract rfl rfl) rfl ?_
  refine DOps.sL (allocLA (TK rfl) rfl) rfl ?_
  refine DOps.sLn (storeLFA (TK rfl) rfl rfl rfl rfl rfl) ?_
  refine DOps.s0 assignA rfl ?_
  refine DOps.nil (by decide +kernel) ?_
  refine hK28 _ ?_
  clear hK28 K28
  refine freezeA 15 _ rfl (Keeps.c (k := 0) (by conv => lhs; whnf) (by rfl) (Keeps.c (k := 3) (by conv => lhs; whnf) (by rfl) (Keeps.c (k := 4) (by conv => lhs; whnf) (by rfl) (Keeps.c (k := 6) (by conv => lhs; whnf) (by rfl) (Keeps.c (k := 16) (by conv => lhs; whnf) (by rfl) Keeps.nil))))) ?_
  refine seqK fun K30 hK30 => ?_
  refine region ?_
  refine s0 moveA rfl ?_
  refine s0 moveA rfl ?_
  refine gC rfl rfl (fun hC => moveA) rfl ?_
  refine s0 (pickAndA rfl rfl rfl) rfl ?_
  refine s0 moveA rfl ?_
  refine gC rfl rfl (fun hC => fieldVA (TK rfl) rfl rfl (TK rfl) rfl rfl) rfl ?_
  refine gC rfl rfl (fun hC => ungdA (k := 97) rfl (loadV (TK rfl) rfl rfl rfl)) rfl ?_
  refine gC rfl rfl (fun hC => ungdA (k := 98) rfl (binI rfl rfl rfl)) rfl ?_
  refine s0 (pickAndA rfl rfl rfl) rfl ?_
  refine s0 assignA rfl ?_
  refine nil ?_
  refine hK30 _ ?_
  clear hK30 K30
  refine seqK fun K31 hK31 => ?_
  refine region ?_
  refine s0 (fieldVA (TK rfl) rfl rfl (TK rfl) rfl rfl) rfl ?_
  refine s0 (loadV (TK rfl) rfl rfl (congrArg (fun x => some (A.d x)) (TValue.FItemsD_eq _))) rfl ?_
  refine sLen (f := TValue.c) (s := a1.FItems) (TK rfl) rfl rfl rfl rfl fun hL32 => ?_
  refine s0 moveA rfl ?_
  refine nil ?_
  refine hK31 _ ?_
  clear hK31 K31
  refine block ?_
  refine loopH (KeepsT.A (k := 0) (KeepsT.A (k := 4) (KeepsT.A (k := 6) (KeepsT.A (k := 15) (KeepsT.A (k := 16) (KeepsT.A (k := 102) (KeepsT.A (k := 103) KeepsT.nil))))))) (fun (z : Nat × Nat × Vars_checker) => [(104, .a (.d (.int .i64 ((z.2.1 : Nat) : Int))))]) (fun z => ((H.set c0_2 (some (.tok 2 z.2.2.Fout.l.length))).set c0 (some (.cells (Vars_checker.cg (some c0_2) z.2.2))))) (fun z => z.1) (fun z => Z52_l33 a1 a3 a4 x29 (Z52_n n) z.1 z.2.1 z.2.2 = some r) ((a1.FItems.l.length + 1), 0, a0) hE Weak.toA ?_
  rintro ⟨n33, s104_34, y35_c0⟩ hE K33 hK33
  try dsimp only at hE
  cases n33 with
  | zero => cases hE
  | succ n33 =>
    rw [Z52_l33] at hE
    refine seqK fun K36 hK36 => ?_
    refine region ?_
    refine s0 (binI rfl rfl rfl) rfl ?_
    refine nil ?_
    refine hK36 _ ?_
    clear hK36 K36
    refine seqK fun K37 hK37 => ?_
    refine condE hE rfl (fun hc38 hE => ?_) (fun hc38 hE => ?_)
    ·try dsimp only at hc38
     have hf38 := of_decide_eq_true hc38
     refine AWp.skip ?_
     refine hK37 _ ?_
     clear hK37 K37
     refine seqJH (KeepsT.A (k := 0) (KeepsT.A (k := 4) (KeepsT.A (k := 6) (KeepsT.A (k := 15) (KeepsT.A (k := 16) (KeepsT.A (k := 102) (KeepsT.A (k := 103) (KeepsT.A (k := 104) KeepsT.nil)))))))) (fun (z : Vars_checker) => []) (fun z => ((H.set c0_2 (some (.tok 2 z.Fout.l.length))).set c0 (some (.cells (Vars_checker.cg (some c0_2) z))))) (fun z => Z52_j39 s104_34 ((Z52_l33 a1 a3 a4 x29 (Z52_n n) n33)) z = some r) ?_ ?_
     ·intro K39 hK39
      refine block ?_
      refine seqK fun K41 hK41 => ?_
      refine region ?_
      refine s0 moveA rfl ?_
      obtain ⟨x42, gx42, hE⟩ := bindO_some hE
      refine s0 (idxMn (f := TValue.c) (n := s104_34) (TK rfl) rfl (TK rfl) rfl rfl rfl gx42) rfl ?_
      refine s0 (loadV (TK rfl) rfl rfl rfl) rfl ?_
      refine sL (allocLA (TK rfl) rfl) rfl ?_
      refine s0 assignA rfl ?_
      refine sLn (storeLFA (TK rfl) rfl rfl rfl rfl rfl) ?_
      refine nil ?_
      refine hK41 _ ?_
      clear hK41 K41
      refine freezeA 18 _ rfl (Keeps.c (k := 0) (by conv => lhs; whnf) (by rfl) (Keeps.c (k := 4) (by conv => lhs; whnf) (by rfl) (Keeps.c (k := 6) (by conv => lhs; whnf) (by rfl) (Keeps.c (k := 15) (by conv => lhs; whnf) (by rfl) (Keeps.c (k := 16) (by conv => lhs; whnf) (by rfl) (Keeps.c (k := 17) (by conv => lhs; whnf) (by rfl) (Keeps.c (k := 102) (by conv => lhs; whnf) (by rfl) (Keeps.c (k := 103) (by conv => lhs; whnf) (by rfl) (Keeps.c (k := 104) (by conv => lhs; whnf) (by rfl) Keeps.nil))))))))) ?_
      refine seqK fun K43 hK43 => ?_
      refine region ?_
      refine sL (allocLA (TK rfl) rfl) rfl ?_
      refine nil ?_
      refine hK43 _ ?_
      clear hK43 K43
      refine seqK fun K44 hK44 => ?_
      refine region ?_
      refine s0 assignA rfl ?_
      refine nil ?_
      refine hK44 _ ?_
      clear hK44 K44
      refine seqJ (KeepsT.A (k := 0) (KeepsT.A (k := 4) (KeepsT.A (k := 6) (KeepsT.A (k := 15) (KeepsT.A (k := 16) (KeepsT.A (k := 18) (KeepsT.A (k := 19) (KeepsT.A (k := 102) (KeepsT.A (k := 103) (KeepsT.A (k := 104) KeepsT.nil)))))))))) (fun (z : Bool × TInput) => [(20, .a (.d (.bool z.1)))]) (fun z => [TInput.c z.2]) (fun z => ((H.set c0_2 (some (.tok 2 y35_c0.Fout.l.length))).set c0 (some (.cells (Vars_checker.cg (some c0_2) y35_c0))))) (fun z => Z52_j45 a4 s104_34 y35_c0 x42 ((Z52_l33 a1 a3 a4 x29 (Z52_n n) n33)) (Z52_n n) z.1 z.2 = some r) ?_ ?_
      ·intro K45 hK45
       refine seqK fun K49 hK49 => ?_
       refine region ?_
       refine s0 moveA rfl ?_
       refine s0 moveA rfl ?_
       refine gC rfl rfl (fun hC => moveA) rfl ?_
       refine gC rfl rfl (fun hC => fieldVA (TK rfl) rfl rfl (TK rfl) rfl rfl) rfl ?_
       refine gC rfl rfl (fun hC => ungdA (k := 112) rfl (loadV (TK rfl) rfl rfl rfl)) rfl ?_
       refine gC rfl rfl (fun hC => ungdA (k := 113) rfl (lenM' (f := strE) (s := a1.FKeys) (TK rfl) rfl rfl rfl)) rfl ?_
       refine gC rfl rfl (fun hC => ungdA (k := 111) rfl (ungdA (k := 114) rfl (binI rfl rfl rfl))) rfl ?_
       refine s0 (pickAndA rfl rfl rfl) rfl ?_
       refine nil ?_
       refine hK49 _ ?_
       clear hK49 K49
       refine condE hE rfl (fun hc50 hE => ?_) (fun hc50 hE => ?_)
       ·refine AWp.draw rfl ?_
        refine DOps.s0 (fieldVA (TK rfl) rfl rfl (TK rfl) rfl rfl) rfl ?_
        refine DOps.s0 (loadV (TK rfl) rfl rfl rfl) rfl ?_
        refine DOps.s0 (fieldVA (TK rfl) rfl rfl (TK rfl) rfl rfl) rfl ?_
        refine DOps.s0 (loadV (TK rfl) rfl rfl rfl) rfl ?_
        refine DOps.s0 moveA rfl ?_
        obtain ⟨x51, gx51, hE⟩ := bindO_some hE
        refine DOps.s0 (idxMn (f := strE) (n := s104_34) (TK rfl) rfl (TK rfl) rfl rfl rfl gx51) rfl ?_
        refine DOps.s0 (loadV (TK rfl) rfl rfl rfl) rfl ?_
        obtain ⟨x52, gx52, hE⟩ := bindO_some hE
        refine DOps.s0 (callP rfl rfl (fun H => Z19_walk gx52 H)) rfl ?_
        refine DOps.s0 moveA rfl ?_
        refine DOps.s0 (extract rfl rfl) rfl ?_
        refine DOps.s0 (extract rfl rfl) rfl ?_
        refine DOps.sLn (storeLFA (TK rfl) rfl rfl rfl rfl rfl) ?_
        refine DOps.s0 assignA rfl ?_
        refine DOps.nil (by decide +kernel) ?_
        exact hK45 _ (x52.2, x52.1) Weak.toA hE
       refine AWp.skip ?_
       exact hK45 _ (false, TInput.zero) Weak.toA hE
      rintro ⟨s20_46, y47_l0⟩ hE
      try dsimp only at hE
      unfold Z52_j45 at hE
      refine region ?_
      refine s0 moveA rfl ?_
      refine s0 (loadV (TK rfl) rfl rfl rfl) rfl ?_
      refine s0 (fieldL (TK rfl) rfl rfl (TK rfl) rfl rfl) rfl ?_
      refine s0 (loadL (TK rfl) rfl rfl rfl rfl) rfl ?_
      refine s0 moveA rfl ?_
      refine s0 moveA rfl ?_
      obtain ⟨x48, gx48, hE⟩ := bindO_some hE
      refine sH (callH rfl rfl (ih_64 gx48 _ hpG hpG)) rfl ?_
      refine AOps.heq (h' := ((H.set c0_2 (some (.tok 2 x48.Fout.l.length))).set c0 (some (.cells (Vars_checker.cg (some c0_2) x48))))) (by first | rfl | (rw [Heap.set_set]; rfl) | (funext n_; simp only [Heap.set]; (repeat' split) <;> first | rfl | (exfalso; simp_all; done) | (simp_all; done))) ?_
      refine nil ?_
      exact hK39 _ x48 Weak.toA hE
     rintro y40_c0 hE
     try dsimp only at hE
     unfold Z52_j39 at hE
     refine region ?_
     refine s0 (addIA rfl rfl) rfl ?_
     refine s0 moveA rfl ?_
     refine nil ?_
     exact hK33 _ (n33, (s104_34 + 1), y40_c0) Weak.toA hE (Nat.lt_succ_self _)
    refine AWp.exit ?_
    repeat (first | refine xBlock_normal ?_ | refine xThen_exit ?_ | refine xBlock_exit ?_)
    obtain rfl := Option.some.inj hE
    refine retQ.normalF ((H.set c0_2 (some (.tok 2 y35_c0.Fout.l.length))).set c0 (some (.cells (Vars_checker.cg (some c0_2) y35_c0)))) (xs := []) rfl ⟨rfl, rfl⟩ ?_
    exact (fun _ _ h => h)
 refine AWp.skip ?_
 repeat (first | refine xBlock_normal ?_ | refine xThen_exit ?_ | refine xBlock_exit ?_)
 obtain rfl := Option.some.inj hE
 refine retQ.normalF ((H.set c0_2 (some (.tok 2 a0.Fout.l.length))).set c0 (some (.cells (Vars_checker.cg (some c0_2) a0)))) (xs := []) rfl ⟨rfl, rfl⟩ ?_
 exact (fun _ _ h => h)
theorem Z52_all : ∀ (n : Nat), (∀ {a0 : Vars_checker} {a1 : TValue} {a2 : TRef} {a3 : Bool} {a4 : Bs}  {c0 : Nat} {c0_2 : Nat} {r : Vars_checker}, Z52_n n a0 a1 a2 a3 a4 = some r → ∀ (H : Heap) (hc0 : H c0 = some (.cells (Vars_checker.cg (some c0_2) a0))) (ht0_2 : H c0_2 = some (.tok 2 a0.Fout.l.length)), ACalls Tryd.prog 64 [.d (.ptr c0 0), .agg (TValue.c a1), .agg (TRef.c a2), .d (.bool a3), .d (.str a4)] H fun v h' => v = .tup [] ∧ h' = ((H.set c0_2 (some (.tok 2 r.Fout.l.length))).set c0 (some (.cells (Vars_checker.cg (some c0_2) r)))))
 | 0 => fun hE => by first | cases hE | (rw [Z52_n] at hE; cases hE)
 | n + 1 => Z52_step n (Z52_all n)
def Z52 (a0 : Vars_checker) (a1 : TValue) (a2 : TRef) (a3 : Bool) (a4 : Bs) : Option Vars_checker := Z52_n F0 a0 a1 a2 a3 a4
theorem Z52_walk {a0 : Vars_checker} {a1 : TValue} {a2 : TRef} {a3 : Bool} {a4 : Bs}  {c0 : Nat} {c0_2 : Nat} {r : Vars_checker} (hE : Z52 a0 a1 a2 a3 a4 = some r) (H : Heap) (hc0 : H c0 = some (.cells (Vars_checker.cg (some c0_2) a0))) (ht0_2 : H c0_2 = some (.tok 2 a0.Fout.l.length)) : ACalls Tryd.prog 64 [.d (.ptr c0 0), .agg (TValue.c a1), .agg (TRef.c a2), .d (.bool a3), .d (.str a4)] H fun v h' => v = .tup [] ∧ h' = ((H.set c0_2 (some (.tok 2 r.Fout.l.length))).set c0 (some (.cells (Vars_checker.cg (some c0_2) r)))) := (Z52_all F0) hE H hc0 ht0_2
def Z37 (a0 : TRef) : Option TRef := (Z35 a0).bind fun x4 => bif x4 then ((Z25 a0.FWraps).bind fun x7 => some (TRef.mk a0.FName x7)) else ((appC 8 (⟨false, [(1 : Int)]⟩ : Sl Int) a0.FWraps).bind fun x9 => some (TRef.mk a0.FName x9))
theorem Z37_walk {a0 : TRef}   {r : TRef} (hE : Z37 a0 = some r) (H : Heap)  : ACalls Tryd.prog 65 [.agg (TRef.c a0)] H fun v h' => v = .a (.agg (TRef.c r)) ∧ h' = H := by
 unfold Z37 at hE
 refine ACalls.of_wp (fn := Tryd.f65) (c := _) Tryd.tab_ok (fun _ _ => Tryd.call65 _ _) Tryd.func65 rfl (n := 18) rfl (rs := [.cell 2 32]) rfl rfl ?_
 refine seqK fun K1 hK1 => ?_
 refine region ?_
 refine s0 (boxV rfl) rfl ?_
 refine sL (allocLA (TK rfl) rfl) rfl ?_
 refine nil ?_
 refine hK1 _ ?_
 clear hK1 K1
 refine seqK fun K2 hK2 => ?_
 refine seqK fun K3 hK3 => ?_
 refine region ?_
 refine s0 (loadV (TK rfl) rfl rfl rfl) rfl ?_
 obtain ⟨x4, gx4, hE⟩ := bindO_some hE
 refine s0 (callP rfl rfl (fun H => Z35_walk gx4 H)) rfl ?_
 refine nil ?_
 refine hK3 _ ?_
 clear hK3 K3
 refine condE hE rfl (fun hc5 hE => ?_) (fun hc5 hE => ?_)
 ·refine seqK fun K6 hK6 => ?_
  refine AWp.draw rfl ?_
  refine DOps.s0 (fieldVA (TK rfl) rfl rfl (TK rfl) rfl rfl) rfl ?_
  refine DOps.s0 (loadV (TK rfl) rfl rfl rfl) rfl ?_
  refine DOps.s0 (fieldVA (TK rfl) rfl rfl (TK rfl) rfl rfl) rfl ?_
  refine DOps.s0 (loadV (TK rfl) rfl rfl rfl) rfl ?_
  obtain ⟨x7, gx7, hE⟩ := bindO_some hE
  refine DOps.s0 (callP rfl rfl (fun H => Z25_walk gx7 H)) rfl ?_
  refine DOps.s0 (build Tryd.tab_ok rfl rfl rfl rfl rfl rfl) rfl ?_
  refine DOps.sLn (storeLFA (TK rfl) rfl rfl rfl rfl rfl) ?_
  refine DOps.nil (by decide +kernel) ?_
  refine hK6 _ ?_
  clear hK6 K6
  refine AWp.ret ?_
  repeat (first | refine xBlock_ret ?_ | refine xThen_ret ?_)
  obtain rfl := Option.some.inj hE
  refine retQ.retF H rfl ⟨rfl, rfl⟩ ?_
  exact (fun _ _ h => h)
 refine AWp.skip ?_
 refine hK2 _ ?_
 clear hK2 K2
 refine seqK fun K8 hK8 => ?_
 refine AWp.draw rfl ?_
 refine DOps.s0 (fieldVA (TK rfl) rfl rfl (TK rfl) rfl rfl) rfl ?_
 refine DOps.s0 (loadV (TK rfl) rfl rfl rfl) rfl ?_
 refine DOps.s0 (buildSliceF (TK rfl) rfl (TK rfl) rfl rfl rfl rfl rfl rfl) rfl ?_
 refine DOps.s0 (fieldVA (TK rfl) rfl rfl (TK rfl) rfl rfl) rfl ?_
 refine DOps.s0 (loadV (TK rfl) rfl rfl rfl) rfl ?_
 obtain ⟨x9, gx9, hE⟩ := bindO_some hE
 refine DOps.s0 (appFM (f := (intE .i64)) (TK rfl) rfl (TK rfl) (TK rfl) ⟨_, rfl⟩ rfl rfl (by decide) rfl rfl rfl (by intro q h; cases h <;> decide) rfl rfl gx9) rfl ?_
 refine DOps.s0 (build Tryd.tab_ok rfl rfl rfl rfl rfl rfl) rfl ?_
 refine DOps.sLn (storeLFA (TK rfl) rfl rfl rfl rfl rfl) ?_
 refine DOps.nil (by decide +kernel) ?_
 refine hK8 _ ?_
 clear hK8 K8
 refine AWp.ret ?_
 repeat (first | refine xBlock_ret ?_ | refine xThen_ret ?_)
 obtain rfl := Option.some.inj hE
 refine retQ.retF H rfl ⟨rfl, rfl⟩ ?_
 exact (fun _ _ h => h)
def Z36 (a0 : Bs) : Option TRef := some (TRef.mk a0 (Sl.nil : Sl Int))
theorem Z36_walk {a0 : Bs}   {r : TRef} (hE : Z36 a0 = some r) (H : Heap)  : ACalls Tryd.prog 66 [.d (.str a0)] H fun v h' => v = .a (.agg (TRef.c r)) ∧ h' = H := by
 unfold Z36 at hE
 refine ACalls.of_wp (fn := Tryd.f66) (c := _) Tryd.tab_ok (fun _ _ => Tryd.call66 _ _) Tryd.func66 rfl (n := 5) rfl (rs := [.cell 2 32]) rfl rfl ?_
 refine seqK fun K1 hK1 => ?_
 refine region ?_
 refine sL (allocLA (TK rfl) rfl) rfl ?_
 refine nil ?_
 refine hK1 _ ?_
 clear hK1 K1
 refine seqK fun K2 hK2 => ?_
 refine region ?_
 refine s0 moveA rfl ?_
 refine s0 (build Tryd.tab_ok rfl rfl rfl rfl rfl rfl) rfl ?_
 refine sLn (storeLFA (TK rfl) rfl rfl rfl rfl rfl) ?_
 refine nil ?_
 refine hK2 _ ?_
 clear hK2 K2
 refine AWp.ret ?_
 repeat (first | refine xBlock_ret ?_ | refine xThen_ret ?_)
 obtain rfl := Option.some.inj hE
 refine retQ.retF H rfl ⟨rfl, rfl⟩ ?_
 exact (fun _ _ h => h)
def Z50_j9 (s13_4 : Nat) (k_next_3 : Nat → Vars_checker → Option Vars_checker) (y10_c0 : Vars_checker) : Option Vars_checker := k_next_3 (s13_4 + 1) y10_c0
def Z50_l15 (a2 : Bs) (s13_4 : Nat) (x12 : TDir) (k_next_3 : Nat → Vars_checker → Option Vars_checker) : Nat → Nat → Vars_checker → Option Vars_checker
 | 0, _, _ => none
 | n15 + 1, s20_16, y17_c0 => bif (decide (((s20_16 : Nat) : Int) < ((x12.FArgs.l.length : Nat) : Int))) then ((x12.FArgs.l[s20_16]?).bind fun x23 => (Z36 ([66, 111, 111, 108, 101, 97, 110] : Bs)).bind fun x25 => (Z37 x25).bind fun x26 => (Z52 y17_c0 x23.FValue x26 (((x23.FName == ([105, 102] : Bs))) && (((x12.FName == ([115, 107, 105, 112] : Bs))) || ((x12.FName == ([105, 110, 99, 108, 117, 100, 101] : Bs))))) a2).bind fun x27 => (Z50_l15 a2 s13_4 x12 k_next_3 n15) (s20_16 + 1) x27) else (Z50_j9 s13_4 k_next_3 y17_c0)
def Z50_l3 (a1 : (Sl TDir)) (a2 : Bs)  : Nat → Nat → Vars_checker → Option Vars_checker
 | 0, _, _ => none
 | n3 + 1, s13_4, y5_c0 => bif (decide (((s13_4 : Nat) : Int) < ((a1.l.length : Nat) : Int))) then ((a1.l[s13_4]?).bind fun x12 => Z50_l15 a2 s13_4 x12 ((Z50_l3 a1 a2 n3)) (x12.FArgs.l.length + 1) 0 y5_c0) else (some y5_c0)
def Z50 (a0 : Vars_checker) (a1 : (Sl TDir)) (a2 : Bs) : Option Vars_checker := Z50_l3 a1 a2 (a1.l.length + 1) 0 a0
theorem Z50_walk {a0 : Vars_checker} {a1 : (Sl TDir)} {a2 : Bs} {w1 : Option Nat} {c0 : Nat} {c0_2 : Nat} {r : Vars_checker} (hE : Z50 a0 a1 a2 = some r) (H : Heap) (hc0 : H c0 = some (.cells (Vars_checker.cg (some c0_2) a0))) (ht0_2 : H c0_2 = some (.tok 2 a0.Fout.l.length)) : ACalls Tryd.prog 50 [.d (.ptr c0 0), .d (Sl.d 2 TDir.c w1 a1), .d (.str a2)] H fun v h' => v = .tup [] ∧ h' = ((H.set c0_2 (some (.tok 2 r.Fout.l.length))).set c0 (some (.cells (Vars_checker.cg (some c0_2) r)))) := by
 unfold Z50 at hE
 refine ACalls.of_wp (fn := Tryd.f50) (c := _) Tryd.tab_ok (fun _ _ => Tryd.call50 _ _) Tryd.func50 rfl (n := 47) rfl (rs := []) rfl rfl ?_
 have ne_c0_c0_2 : c0 ≠ c0_2 := fun e_ => by subst e_; simp_all
 refine AWp.heqA (h' := ((H.set c0_2 (some (.tok 2 a0.Fout.l.length))).set c0 (some (.cells (Vars_checker.cg (some c0_2) a0))))) (by funext n_; simp only [Heap.set]; (repeat' split) <;> simp_all) ?_
 refine seqK fun K1 hK1 => ?_
 refine region ?_
 refine s0 moveA rfl ?_
 refine sLen (f := TDir.c) (s := a1) (TK rfl) rfl rfl rfl rfl fun hL2 => ?_
 refine s0 moveA rfl ?_
 refine nil ?_
 refine hK1 _ ?_
 clear hK1 K1
 refine block ?_
 refine loopH (KeepsT.A (k := 0) (KeepsT.A (k := 2) (KeepsT.A (k := 11) (KeepsT.A (k := 12) KeepsT.nil)))) (fun (z : Nat × Nat × Vars_checker) => [(13, .a (.d (.int .i64 ((z.2.1 : Nat) : Int))))]) (fun z => ((H.set c0_2 (some (.tok 2 z.2.2.Fout.l.length))).set c0 (some (.cells (Vars_checker.cg (some c0_2) z.2.2))))) (fun z => z.1) (fun z => Z50_l3 a1 a2 z.1 z.2.1 z.2.2 = some r) ((a1.l.length + 1), 0, a0) hE Weak.toA ?_
 rintro ⟨n3, s13_4, y5_c0⟩ hE K3 hK3
 try dsimp only at hE
 cases n3 with
 | zero => cases hE
 | succ n3 =>
   rw [Z50_l3] at hE
   refine seqK fun K6 hK6 => ?_
   refine region ?_
   refine s0 (binI rfl rfl rfl) rfl ?_
   refine nil ?_
   refine hK6 _ ?_
   clear hK6 K6
   refine seqK fun K7 hK7 => ?_
   refine condE hE rfl (fun hc8 hE => ?_) (fun hc8 hE => ?_)
   ·try dsimp only at hc8
    have hf8 := of_decide_eq_true hc8
    refine AWp.skip ?_
    refine hK7 _ ?_
    clear hK7 K7
    refine seqJH (KeepsT.A (k := 0) (KeepsT.A (k := 2) (KeepsT.A (k := 11) (KeepsT.A (k := 12) (KeepsT.A (k := 13) KeepsT.nil))))) (fun (z : Vars_checker) => []) (fun z => ((H.set c0_2 (some (.tok 2 z.Fout.l.length))).set c0 (some (.cells (Vars_checker.cg (some c0_2) z))))) (fun z => Z50_j9 s13_4 ((Z50_l3 a1 a2 n3)) z = some r) ?_ ?_
    ·intro K9 hK9
     refine block ?_
     refine seqK fun K11 hK11 => ?_
     refine region ?_
     obtain ⟨x12, gx12, hE⟩ := bindO_some hE
     refine s0 (idxMn (f := TDir.c) (n := s13_4) (TK rfl) rfl (TK rfl) rfl rfl rfl gx12) rfl ?_
     refine s0 (loadV (TK rfl) rfl rfl rfl) rfl ?_
     refine sL (allocLA (TK rfl) rfl) rfl ?_
     refine sLn (storeLFA (TK rfl) rfl rfl rfl rfl rfl) ?_
     refine nil ?_
     refine hK11 _ ?_
     clear hK11 K11
     refine freezeA 7 _ rfl (Keeps.c (k := 0) (by conv => lhs; whnf) (by rfl) (Keeps.c (k := 2) (by conv => lhs; whnf) (by rfl) (Keeps.c (k := 11) (by conv => lhs; whnf) (by rfl) (Keeps.c (k := 12) (by conv => lhs; whnf) (by rfl) (Keeps.c (k := 13) (by conv => lhs; whnf) (by rfl) Keeps.nil))))) ?_
     refine seqK fun K13 hK13 => ?_
     refine region ?_
     refine s0 (fieldVA (TK rfl) rfl rfl (TK rfl) rfl rfl) rfl ?_
     refine s0 (loadV (TK rfl) rfl rfl rfl) rfl ?_
     refine sLen (f := TArg.c) (s := x12.FArgs) (TK rfl) rfl rfl rfl rfl fun hL14 => ?_
     refine s0 moveA rfl ?_
     refine nil ?_
     refine hK13 _ ?_
     clear hK13 K13
     refine block ?_
     refine loopH (KeepsT.A (k := 0) (KeepsT.A (k := 2) (KeepsT.A (k := 7) (KeepsT.A (k := 11) (KeepsT.A (k := 12) (KeepsT.A (k := 13) (KeepsT.A (k := 18) (KeepsT.A (k := 19) KeepsT.nil)))))))) (fun (z : Nat × Nat × Vars_checker) => [(20, .a (.d (.int .i64 ((z.2.1 : Nat) : Int))))]) (fun z => ((H.set c0_2 (some (.tok 2 z.2.2.Fout.l.length))).set c0 (some (.cells (Vars_checker.cg (some c0_2) z.2.2))))) (fun z => z.1) (fun z => Z50_l15 a2 s13_4 x12 ((Z50_l3 a1 a2 n3)) z.1 z.2.1 z.2.2 = some r) ((x12.FArgs.l.length + 1), 0, y5_c0) hE Weak.toA ?_
     rintro ⟨n15, s20_16, y17_c0⟩ hE K15 hK15
     try dsimp only at hE
     cases n15 with
     | zero => cases hE
     | succ n15 =>
       rw [Z50_l15] at hE
       refine seqK fun K18 hK18 => ?_
       refine region ?_
       refine s0 (binI rfl rfl rfl) rfl ?_
       refine nil ?_
       refine hK18 _ ?_
       clear hK18 K18
       refine seqK fun K19 hK19 => ?_
       refine condE hE rfl (fun hc20 hE => ?_) (fun hc20 hE => ?_)
       ·try dsimp only at hc20
        have hf20 := of_decide_eq_true hc20
        refine AWp.skip ?_
        refine hK19 _ ?_
        clear hK19 K19
        refine seqK fun K21 hK21 => ?_
        refine block ?_
        refine seqK fun K22 hK22 => ?_
        refine region ?_
        obtain ⟨x23, gx23, hE⟩ := bindO_some hE
        refine s0 (idxMn (f := TArg.c) (n := s20_16) (TK rfl) rfl (TK rfl) rfl rfl rfl gx23) rfl ?_
        refine s0 (loadV (TK rfl) rfl rfl rfl) rfl ?_
        refine sL (allocLA (TK rfl) rfl) rfl ?_
        refine sLn (storeLFA (TK rfl) rfl rfl rfl rfl rfl) ?_
        refine nil ?_
        refine hK22 _ ?_
        clear hK22 K22
        refine freezeA 9 _ rfl (Keeps.c (k := 0) (by conv => lhs; whnf) (by rfl) (Keeps.c (k := 2) (by conv => lhs; whnf) (by rfl) (Keeps.c (k := 7) (by conv => lhs; whnf) (by rfl) (Keeps.c (k := 11) (by conv => lhs; whnf) (by rfl) (Keeps.c (k := 12) (by conv => lhs; whnf) (by rfl) (Keeps.c (k := 13) (by conv => lhs; whnf) (by rfl) (Keeps.c (k := 18) (by conv => lhs; whnf) (by rfl) (Keeps.c (k := 19) (by conv => lhs; whnf) (by rfl) (Keeps.c (k := 20) (by conv => lhs; whnf) (by rfl) Keeps.nil))))))))) ?_
        refine seqK fun K24 hK24 => ?_
        refine region ?_
        refine s0 (fieldVA (TK rfl) rfl rfl (TK rfl) rfl rfl) rfl ?_
        refine s0 (loadV (TK rfl) rfl rfl rfl) rfl ?_
        refine s0 (binS rfl rfl rfl) rfl ?_
        refine s0 moveA rfl ?_
        refine gC rfl rfl (fun hC => fieldVA (TK rfl) rfl rfl (TK rfl) rfl rfl) rfl ?_
        refine gC rfl rfl (fun hC => ungdA (k := 28) rfl (loadV (TK rfl) rfl rfl rfl)) rfl ?_
        refine gC rfl rfl (fun hC => ungdA (k := 29) rfl (binS rfl rfl rfl)) rfl ?_
        refine gC rfl rfl (fun hC => ungdA (k := 30) rfl moveA) rfl ?_
        refine gC rfl rfl (fun hC => fieldVA (TK rfl) rfl rfl (TK rfl) rfl rfl) rfl ?_
        refine gC rfl rfl (fun hC => ungdA (k := 32) rfl (loadV (TK rfl) rfl rfl rfl)) rfl ?_
        refine gC rfl rfl (fun hC => ungdA (k := 33) rfl (binS rfl rfl rfl)) rfl ?_
        refine gC rfl rfl (fun hC => ungdA (k := 31) rfl (pickOrA rfl rfl rfl)) rfl ?_
        refine s0 (pickAndA rfl rfl rfl) rfl ?_
        refine s0 assignA rfl ?_
        refine nil ?_
        refine hK24 _ ?_
        clear hK24 K24
        refine AWp.draw rfl ?_
        refine DOps.s0 moveA rfl ?_
        refine DOps.s0 (fieldVA (TK rfl) rfl rfl (TK rfl) rfl rfl) rfl ?_
        refine DOps.s0 (loadV (TK rfl) rfl rfl rfl) rfl ?_
        obtain ⟨x25, gx25, hE⟩ := bindO_some hE
        refine DOps.s0 (callP rfl rfl (fun H => Z36_walk gx25 H)) rfl ?_
        obtain ⟨x26, gx26, hE⟩ := bindO_some hE
        refine DOps.s0 (callP rfl rfl (fun H => Z37_walk gx26 H)) rfl ?_
        refine DOps.s0 moveA rfl ?_
        refine DOps.s0 moveA rfl ?_
        obtain ⟨x27, gx27, hE⟩ := bindO_some hE
        refine DOps.sH (callH rfl rfl (Z52_walk gx27 _ hpG hpG)) rfl ?_
        refine DOps.heq (h' := ((H.set c0_2 (some (.tok 2 x27.Fout.l.length))).set c0 (some (.cells (Vars_checker.cg (some c0_2) x27))))) (by first | rfl | (rw [Heap.set_set]; rfl) | (funext n_; simp only [Heap.set]; (repeat' split) <;> first | rfl | (exfalso; simp_all; done) | (simp_all; done))) ?_
        refine DOps.nil (by decide +kernel) ?_
        refine hK21 _ ?_
        clear hK21 K21
        refine region ?_
        refine s0 (addIA rfl rfl) rfl ?_
        refine s0 moveA rfl ?_
        refine nil ?_
        exact hK15 _ (n15, (s20_16 + 1), x27) Weak.toA hE (Nat.lt_succ_self _)
       refine AWp.exit ?_
       exact hK9 _ y17_c0 Weak.toA hE
    rintro y10_c0 hE
    try dsimp only at hE
    unfold Z50_j9 at hE
    refine region ?_
    refine s0 (addIA rfl rfl) rfl ?_
    refine s0 moveA rfl ?_
    refine nil ?_
    exact hK3 _ (n3, (s13_4 + 1), y10_c0) Weak.toA hE (Nat.lt_succ_self _)
   refine AWp.exit ?_
   repeat (first | refine xBlock_normal ?_ | refine xThen_exit ?_ | refine xBlock_exit ?_)
   obtain rfl := Option.some.inj hE
   refine retQ.normalF ((H.set c0_2 (some (.tok 2 y5_c0.Fout.l.length))).set c0 (some (.cells (Vars_checker.cg (some c0_2) y5_c0)))) (xs := []) rfl ⟨rfl, rfl⟩ ?_
   exact (fun _ _ h => h)
def Z16 (a0 : TDoc) (a1 : Bs) : Option Bool := (Z24 a0 a1).bind fun x3 => (Z23 a1).bind fun x5 => some ((!x5) && (((decide (x3 = (1 : Int))) || (decide (x3 = (2 : Int)))) || (decide (x3 = (3 : Int)))))
theorem Z16_walk {a0 : TDoc} {a1 : Bs}   {r : Bool} (hE : Z16 a0 a1 = some r) (H : Heap)  : ACalls Tryd.prog 67 [.agg (TDoc.c a0), .d (.str a1)] H fun v h' => v = .a (.d (.bool r)) ∧ h' = H := by
 unfold Z16 at hE
 refine ACalls.of_wp (fn := Tryd.f67) (c := _) Tryd.tab_ok (fun _ _ => Tryd.call67 _ _) Tryd.func67 rfl (n := 24) rfl (rs := [.tmp 4]) rfl rfl ?_
 refine seqK fun K1 hK1 => ?_
 refine region ?_
 refine s0 (boxV rfl) rfl ?_
 refine s0 assignA rfl ?_
 refine nil ?_
 refine hK1 _ ?_
 clear hK1 K1
 refine seqK fun K2 hK2 => ?_
 refine region ?_
 refine s0 (loadV (TK rfl) rfl rfl rfl) rfl ?_
 refine s0 moveA rfl ?_
 obtain ⟨x3, gx3, hE⟩ := bindO_some hE
 refine s0 (callP rfl rfl (fun H => Z24_walk gx3 H)) rfl ?_
 refine s0 assignA rfl ?_
 refine nil ?_
 refine hK2 _ ?_
 clear hK2 K2
 refine seqK fun K4 hK4 => ?_
 refine region ?_
 refine s0 moveA rfl ?_
 obtain ⟨x5, gx5, hE⟩ := bindO_some hE
 refine s0 (callP rfl rfl (fun H => Z23_walk gx5 H)) rfl ?_
 refine s0 (notB rfl) rfl ?_
 refine s0 moveA rfl ?_
 refine gC rfl rfl (fun hC => moveA) rfl ?_
 refine gC rfl rfl (fun hC => ungdA (k := 13) rfl (binI rfl rfl rfl)) rfl ?_
 refine gC rfl rfl (fun hC => ungdA (k := 14) rfl moveA) rfl ?_
 refine gC rfl rfl (fun hC => moveA) rfl ?_
 refine gC rfl rfl (fun hC => ungdA (k := 16) rfl (binI rfl rfl rfl)) rfl ?_
 refine gC rfl rfl (fun hC => ungdA (k := 15) rfl (pickOrA rfl rfl rfl)) rfl ?_
 refine gC rfl rfl (fun hC => ungdA (k := 18) rfl moveA) rfl ?_
 refine gC rfl rfl (fun hC => moveA) rfl ?_
 refine gC rfl rfl (fun hC => ungdA (k := 20) rfl (binI rfl rfl rfl)) rfl ?_
 refine gC rfl rfl (fun hC => ungdA (k := 19) rfl (pickOrA rfl rfl rfl)) rfl ?_
 refine s0 (pickAndA rfl rfl rfl) rfl ?_
 refine s0 assignA rfl ?_
 refine nil ?_
 refine hK4 _ ?_
 clear hK4 K4
 refine AWp.ret ?_
 repeat (first | refine xBlock_ret ?_ | refine xThen_ret ?_)
 obtain rfl := Option.some.inj hE
 refine retQ.retF H rfl ⟨rfl, rfl⟩ ?_
 exact (fun _ _ h => h)
def Z17_j2  (y3_l0 : TField) : Option (TField × Bool) := some ((TField.mk ([] : Bs) (Sl.nil : Sl TInput) TRef.zero (Sl.nil : Sl TDir)), false)
def Z17_l7 (a0 : TDef) (a1 : Bs)  : Nat → Nat → TField → Option (TField × Bool)
 | 0, _, _ => none
 | n7 + 1, s11_8, y9_l0 => bif (decide (((s11_8 : Nat) : Int) < ((a0.FFields.l.length : Nat) : Int))) then ((a0.FFields.l[s11_8]?).bind fun x15 => bif ((x15.FName == a1)) then (some (x15, true)) else ((Z17_l7 a0 a1 n7) (s11_8 + 1) y9_l0)) else (Z17_j2   y9_l0)
def Z17 (a0 : TDef) (a1 : Bs) : Option (TField × Bool) := Z17_l7 a0 a1 (a0.FFields.l.length + 1) 0 TField.zero
theorem Z17_walk {a0 : TDef} {a1 : Bs}   {r : (TField × Bool)} (hE : Z17 a0 a1 = some r) (H : Heap)  : ACalls Tryd.prog 68 [.agg (TDef.c a0), .d (.str a1)] H fun v h' => v = .tup [.agg (TField.c r.1), .d (.bool r.2)] ∧ h' = H := by
 unfold Z17 at hE
 refine ACalls.of_wp (fn := Tryd.f68) (c := _) Tryd.tab_ok (fun _ _ => Tryd.call68 _ _) Tryd.func68 rfl (n := 22) rfl (rs := [.cell 4 63, .tmp 5]) rfl rfl ?_
 refine seqK fun K1 hK1 => ?_
 refine region ?_
 refine s0 (boxV rfl) rfl ?_
 refine sL (allocLA (TK rfl) rfl) rfl ?_
 refine s0 assignA rfl ?_
 refine nil ?_
 refine hK1 _ ?_
 clear hK1 K1
 refine seqJ (KeepsT.A (k := 4) KeepsT.nil) (fun (z : TField) => []) (fun z => [TField.c z]) (fun z => H) (fun z => Z17_j2 z = some r) ?_ ?_
 ·intro K2 hK2
  refine seqK fun K5 hK5 => ?_
  refine region ?_
  refine s0 (fieldVA (TK rfl) rfl rfl (TK rfl) rfl rfl) rfl ?_
  refine s0 (loadV (TK rfl) rfl rfl rfl) rfl ?_
  refine sLen (f := TField.c) (s := a0.FFields) (TK rfl) rfl rfl rfl rfl fun hL6 => ?_
  refine s0 moveA rfl ?_
  refine nil ?_
  refine hK5 _ ?_
  clear hK5 K5
  refine block ?_
  refine loopO (KeepsT.A (k := 1) (KeepsT.A (k := 4) (KeepsT.A (k := 9) (KeepsT.A (k := 10) KeepsT.nil)))) (fun (z : Nat × Nat × TField) => [(11, .a (.d (.int .i64 ((z.2.1 : Nat) : Int))))]) (fun z => [TField.c z.2.2]) (fun z => H) (fun z => z.1) (fun z => Z17_l7 a0 a1 z.1 z.2.1 z.2.2 = some r) ((a0.FFields.l.length + 1), 0, TField.zero) hE Weak.toA ?_
  rintro ⟨n7, s11_8, y9_l0⟩ hE K7 hK7
  try dsimp only at hE
  cases n7 with
  | zero => cases hE
  | succ n7 =>
    rw [Z17_l7] at hE
    refine seqK fun K10 hK10 => ?_
    refine region ?_
    refine s0 (binI rfl rfl rfl) rfl ?_
    refine nil ?_
    refine hK10 _ ?_
    clear hK10 K10
    refine seqK fun K11 hK11 => ?_
    refine condE hE rfl (fun hc12 hE => ?_) (fun hc12 hE => ?_)
    ·try dsimp only at hc12
     have hf12 := of_decide_eq_true hc12
     refine AWp.skip ?_
     refine hK11 _ ?_
     clear hK11 K11
     refine seqK fun K13 hK13 => ?_
     refine block ?_
     refine seqK fun K14 hK14 => ?_
     refine region ?_
     obtain ⟨x15, gx15, hE⟩ := bindO_some hE
     refine s0 (idxMn (f := TField.c) (n := s11_8) (TK rfl) rfl (TK rfl) rfl rfl rfl gx15) rfl ?_
     refine s0 (loadV (TK rfl) rfl rfl rfl) rfl ?_
     refine sL (allocLA (TK rfl) rfl) rfl ?_
     refine sLn (storeLFA (TK rfl) rfl rfl rfl rfl rfl) ?_
     refine nil ?_
     refine hK14 _ ?_
     clear hK14 K14
     refine freezeA 7 _ rfl (Keeps.c (k := 1) (by conv => lhs; whnf) (by rfl) (Keeps.c (k := 4) (by conv => lhs; whnf) (by rfl) (Keeps.c (k := 9) (by conv => lhs; whnf) (by rfl) (Keeps.c (k := 10) (by conv => lhs; whnf) (by rfl) (Keeps.c (k := 11) (by conv => lhs; whnf) (by rfl) Keeps.nil))))) ?_
     refine seqK fun K16 hK16 => ?_
     refine region ?_
     refine s0 (fieldVA (TK rfl) rfl rfl (TK rfl) rfl rfl) rfl ?_
     refine s0 (loadV (TK rfl) rfl rfl rfl) rfl ?_
     refine s0 moveA rfl ?_
     refine s0 (binS rfl rfl rfl) rfl ?_
     refine nil ?_
     refine hK16 _ ?_
     clear hK16 K16
     refine condE hE rfl (fun hc17 hE => ?_) (fun hc17 hE => ?_)
     ·refine seqK fun K18 hK18 => ?_
      refine region ?_
      refine s0 (loadV (TK rfl) rfl rfl rfl) rfl ?_
      refine sLn (storeLFA (TK rfl) rfl rfl rfl rfl rfl) ?_
      refine s0 assignA rfl ?_
      refine nil ?_
      refine hK18 _ ?_
      clear hK18 K18
      refine AWp.ret ?_
      repeat (first | refine xBlock_ret ?_ | refine xThen_ret ?_)
      obtain rfl := Option.some.inj hE
      refine retQ.retF H rfl ⟨rfl, rfl⟩ ?_
      exact (fun _ _ h => h)
     refine AWp.skip ?_
     refine hK13 _ ?_
     clear hK13 K13
     refine region ?_
     refine s0 (addIA rfl rfl) rfl ?_
     refine s0 moveA rfl ?_
     refine nil ?_
     exact hK7 _ (n7, (s11_8 + 1), y9_l0) Weak.toA hE (Nat.lt_succ_self _)
    refine AWp.exit ?_
    exact hK2 _ y9_l0 Weak.toA hE
 rintro y3_l0 hE
 try dsimp only at hE
 unfold Z17_j2 at hE
 refine seqK fun K4 hK4 => ?_
 refine region ?_
 refine s0 (build Tryd.tab_ok rfl rfl rfl rfl rfl rfl) rfl ?_
 refine sLn (storeLFA (TK rfl) rfl rfl rfl rfl rfl) ?_
 refine s0 assignA rfl ?_
 refine nil ?_
 refine hK4 _ ?_
 clear hK4 K4
 refine AWp.ret ?_
 repeat (first | refine xBlock_ret ?_ | refine xThen_ret ?_)
 obtain rfl := Option.some.inj hE
 refine retQ.retF H rfl ⟨rfl, rfl⟩ ?_
 exact (fun _ _ h => h)
end Go.Proofs
