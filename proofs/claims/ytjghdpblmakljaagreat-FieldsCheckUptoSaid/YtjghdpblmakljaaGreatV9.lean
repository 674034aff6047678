import Derived.Test.YtjghdpblmakljaaGreatV8
set_option maxRecDepth 100000
set_option maxHeartbeats 2000000
set_option linter.unusedVariables false
set_option linter.unusedSimpArgs false
namespace Go.Proofs
open Go Go.Ab
open AOps Cert AWp
def Z81 (a0 : TValue) : Option Bool := some (((decide (a0.FKind = (7 : Int))) || ((decide (a0.FKind = (3 : Int))) && ((a0.FText == ([] : Bs))))) || ((decide (a0.FKind = (2 : Int))) && (decide (a0.FInt < (0 : Int)))))
theorem Z81_walk {a0 : TValue}   {r : Bool} (hE : Z81 a0 = some r) (H : Heap)  : ACalls Tryz.prog 128 [.agg (TValue.c a0)] H fun v h' => v = .a (.d (.bool r)) ∧ h' = H := by
 unfold Z81 at hE
 refine ACalls.of_wp (fn := Tryz.f128) (c := _) Tryz.tab_ok (fun _ _ => Tryz.call128 _ _) Tryz.func128 rfl (n := 26) rfl (rs := [.tmp 2]) rfl rfl ?_
 refine seqK fun K1 hK1 => ?_
 refine region ?_
 refine s0 (boxV rfl) rfl ?_
 refine s0 assignA rfl ?_
 refine nil ?_
 refine hK1 _ ?_
 clear hK1 K1
 refine seqK fun K2 hK2 => ?_
 refine region ?_
 refine s0 (fieldVA (TK rfl) rfl rfl (TK rfl) rfl rfl) rfl ?_
 refine s0 (loadV (TK rfl) rfl rfl rfl) rfl ?_
 refine s0 (binI rfl rfl rfl) rfl ?_
 refine s0 moveA rfl ?_
 refine gC rfl rfl (fun hC => fieldVA (TK rfl) rfl rfl (TK rfl) rfl rfl) rfl ?_
 refine gC rfl rfl (fun hC => ungdA (k := 7) rfl (loadV (TK rfl) rfl rfl rfl)) rfl ?_
 refine gC rfl rfl (fun hC => ungdA (k := 8) rfl (binI rfl rfl rfl)) rfl ?_
 refine gC rfl rfl (fun hC => ungdA (k := 9) rfl moveA) rfl ?_
 refine gC rfl rfl (fun hC => fieldVA (TK rfl) rfl rfl (TK rfl) rfl rfl) rfl ?_
 refine gC rfl rfl (fun hC => ungdA (k := 11) rfl (loadV (TK rfl) rfl rfl rfl)) rfl ?_
 refine gC rfl rfl (fun hC => ungdA (k := 12) rfl (binS rfl rfl rfl)) rfl ?_
 refine gC rfl rfl (fun hC => ungdA (k := 10) rfl (pickAndA rfl rfl rfl)) rfl ?_
 refine s0 (pickOrA rfl rfl rfl) rfl ?_
 refine s0 moveA rfl ?_
 refine gC rfl rfl (fun hC => fieldVA (TK rfl) rfl rfl (TK rfl) rfl rfl) rfl ?_
 refine gC rfl rfl (fun hC => ungdA (k := 17) rfl (loadV (TK rfl) rfl rfl rfl)) rfl ?_
 refine gC rfl rfl (fun hC => ungdA (k := 18) rfl (binI rfl rfl rfl)) rfl ?_
 refine gC rfl rfl (fun hC => ungdA (k := 19) rfl moveA) rfl ?_
 refine gC rfl rfl (fun hC => fieldVA (TK rfl) rfl rfl (TK rfl) rfl rfl) rfl ?_
 refine gC rfl rfl (fun hC => ungdA (k := 21) rfl (loadV (TK rfl) rfl rfl rfl)) rfl ?_
 refine gC rfl rfl (fun hC => ungdA (k := 22) rfl (binI rfl rfl rfl)) rfl ?_
 refine gC rfl rfl (fun hC => ungdA (k := 20) rfl (pickAndA rfl rfl rfl)) rfl ?_
 refine s0 (pickOrA rfl rfl rfl) rfl ?_
 refine s0 assignA rfl ?_
 refine nil ?_
 refine hK2 _ ?_
 clear hK2 K2
 refine AWp.ret ?_
 repeat (first | refine xBlock_ret ?_ | refine xThen_ret ?_)
 obtain rfl := Option.some.inj hE
 refine retQ.retF H rfl ⟨rfl, rfl⟩ ?_
 exact (fun _ _ h => h)
def Z71_j5  (s11_6 : (Sl TFault)) : Option (Sl TFault) := some s11_6
def Z71_j16 (s15_11 : Nat) (k_next_9 : (Sl TFault) → Nat → Option (Sl TFault)) (s11_17 : (Sl TFault)) : Option (Sl TFault) := k_next_9 s11_17 (s15_11 + 1)
def Z71_l9 (a1 : (Sl TInput)) (a2 : (Sl TArg)) (a4 : Bs)  : Nat → (Sl TFault) → Nat → Option (Sl TFault)
 | 0, _, _ => none
 | n9 + 1, s11_10, s15_11 => bif (decide (((s15_11 : Nat) : Int) < ((a1.l.length : Nat) : Int))) then ((a1.l[s15_11]?).bind fun x19 => (Z31 x19.FType).bind fun x20 => guardO (x20) (a1.l[s15_11]?) TInput.zero fun x21 => guardO ((x20 && (!x21.FHas))) (a1.l[s15_11]?) TInput.zero fun x22 => guardO ((x20 && (!x21.FHas))) (Z74 a2 x22.FName) false fun x23 => bif ((x20 && (!x21.FHas)) && (!x23)) then ((appC 24 s11_10 (⟨false, [(TFault.mk (22 : Int) a4)]⟩ : Sl TFault)).bind fun x25 => Z71_j16 s15_11 ((Z71_l9 a1 a2 a4 n9)) x25) else (Z71_j16 s15_11 ((Z71_l9 a1 a2 a4 n9)) s11_10)) else (Z71_j5   s11_10)
def Z71_j3 (a1 : (Sl TInput)) (a2 : (Sl TArg)) (a4 : Bs)  (s11_4 : (Sl TFault)) : Option (Sl TFault) := Z71_l9 a1 a2 a4 (a1.l.length + 1) s11_4 0
def Z71_j34 (s12_29 : Nat) (k_next_27 : (Sl TFault) → Nat → Option (Sl TFault)) (s11_35 : (Sl TFault)) : Option (Sl TFault) := k_next_27 s11_35 (s12_29 + 1)
def Z71_l27 (a0 : TDoc) (a1 : (Sl TInput)) (a2 : (Sl TArg)) (a3 : Bool) (a4 : Bs)  : Nat → (Sl TFault) → Nat → Option (Sl TFault)
 | 0, _, _ => none
 | n27 + 1, s11_28, s12_29 => bif (decide (((s12_29 : Nat) : Int) < ((a2.l.length : Nat) : Int))) then ((a2.l[s12_29]?).bind fun x37 => (Z61 a1 x37.FName).bind fun x38 => guardO (!(!x38.2)) (partC a2 none (some ((s12_29 : Nat) : Int))) (Sl.nil : Sl TArg) fun x40 => guardO (!(!x38.2)) (a2.l[s12_29]?) TArg.zero fun x41 => guardO (!(!x38.2)) (Z74 x40 x41.FName) false fun x42 => bif ((!x38.2) || x42) then ((appC 24 s11_28 (⟨false, [(TFault.mk (22 : Int) a4)]⟩ : Sl TFault)).bind fun x44 => Z71_j34 s12_29 ((Z71_l27 a0 a1 a2 a3 a4 n27)) x44) else ((a2.l[s12_29]?).bind fun x46 => (r14_Fits a0 x38.1.FType x46.FValue).bind fun x47 => guardO ((!(!x47) && a3)) (a2.l[s12_29]?) TArg.zero fun x48 => guardO ((!(!x47) && a3)) (Z81 x48.FValue) false fun x49 => bif ((!x47) || (a3 && x49)) then ((appC 24 s11_28 (⟨false, [(TFault.mk (23 : Int) a4)]⟩ : Sl TFault)).bind fun x51 => Z71_j34 s12_29 ((Z71_l27 a0 a1 a2 a3 a4 n27)) x51) else (Z71_j34 s12_29 ((Z71_l27 a0 a1 a2 a3 a4 n27)) s11_28))) else (Z71_j3 a1 a2 a4  s11_28)
def Z71 (a0 : TDoc) (a1 : (Sl TInput)) (a2 : (Sl TArg)) (a3 : Bool) (a4 : Bs) : Option (Sl TFault) := Z71_l27 a0 a1 a2 a3 a4 (a2.l.length + 1) (Sl.nil : Sl TFault) 0
theorem Z71_walk {a0 : TDoc} {a1 : (Sl TInput)} {a2 : (Sl TArg)} {a3 : Bool} {a4 : Bs} {w1 : Option Nat} {w2 : Option Nat}  {r : (Sl TFault)} (hE : Z71 a0 a1 a2 a3 a4 = some r) (H : Heap)  : ACalls Tryz.prog 98 [.agg (TDoc.c a0), .d (Sl.d 10 TInput.c w1 a1), .d (Sl.d 6 TArg.c w2 a2), .d (.bool a3), .d (.str a4)] H fun v h' => v = .a (.d (Sl.d 2 TFault.c none r)) ∧ h' = H := by
 unfold Z71 at hE
 refine ACalls.of_wp (fn := Tryz.f98) (c := _) Tryz.tab_ok (fun _ _ => Tryz.call98 _ _) Tryz.func98 rfl (n := 112) rfl (rs := [.tmp 10]) rfl rfl ?_
 refine AWp.tok 2 fun tk1 htk1 => ?_
 refine seqK fun K1 hK1 => ?_
 refine region ?_
 refine s0 (boxV rfl) rfl ?_
 refine s0 assignA rfl ?_
 refine nil ?_
 refine hK1 _ ?_
 clear hK1 K1
 refine seqK fun K2 hK2 => ?_
 refine region ?_
 refine s0 assignA rfl ?_
 refine nil ?_
 refine hK2 _ ?_
 clear hK2 K2
 refine AWp.nilTok 11 2 tk1 rfl hpG ?_
 refine seqJH (KeepsT.A (k := 1) (KeepsT.A (k := 2) (KeepsT.A (k := 4) KeepsT.nil))) (fun (z : (Sl TFault)) => [(11, .a (.d (Sl.d 2 TFault.c (some tk1) z)))]) (fun z => (H.set tk1 (some (.tok 2 z.l.length)))) (fun z => Z71_j3 a1 a2 a4 z = some r) ?_ ?_
 ·intro K3 hK3
  refine seqK fun K26 hK26 => ?_
  refine region ?_
  refine s0 assignA rfl ?_
  refine nil ?_
  refine hK26 _ ?_
  clear hK26 K26
  refine block ?_
  refine loopH (KeepsT.A (k := 1) (KeepsT.A (k := 2) (KeepsT.A (k := 3) (KeepsT.A (k := 4) (KeepsT.A (k := 5) KeepsT.nil))))) (fun (z : Nat × (Sl TFault) × Nat) => [(11, .a (.d (Sl.d 2 TFault.c (some tk1) z.2.1))), (12, .a (.d (.int .i64 ((z.2.2 : Nat) : Int))))]) (fun z => (H.set tk1 (some (.tok 2 z.2.1.l.length)))) (fun z => z.1) (fun z => Z71_l27 a0 a1 a2 a3 a4 z.1 z.2.1 z.2.2 = some r) ((a2.l.length + 1), (Sl.nil : Sl TFault), 0) hE Weak.toA ?_
  rintro ⟨n27, s11_28, s12_29⟩ hE K27 hK27
  try dsimp only at hE
  cases n27 with
  | zero => cases hE
  | succ n27 =>
    rw [Z71_l27] at hE
    refine seqK fun K30 hK30 => ?_
    refine seqK fun K31 hK31 => ?_
    refine region ?_
    refine s0 moveA rfl ?_
    refine s0 moveA rfl ?_
    refine sLen (f := TArg.c) (s := a2) (TK rfl) rfl rfl rfl rfl fun hL32 => ?_
    refine s0 (binI rfl rfl rfl) rfl ?_
    refine nil ?_
    refine hK31 _ ?_
    clear hK31 K31
    refine condE hE rfl (fun hc33 hE => ?_) (fun hc33 hE => ?_)
    ·try dsimp only at hc33
     have hf33 := of_decide_eq_true hc33
     refine AWp.skip ?_
     refine hK30 _ ?_
     clear hK30 K30
     refine seqJH (KeepsT.A (k := 1) (KeepsT.A (k := 2) (KeepsT.A (k := 3) (KeepsT.A (k := 4) (KeepsT.A (k := 5) (KeepsT.A (k := 12) KeepsT.nil)))))) (fun (z : (Sl TFault)) => [(11, .a (.d (Sl.d 2 TFault.c (some tk1) z)))]) (fun z => (H.set tk1 (some (.tok 2 z.l.length)))) (fun z => Z71_j34 s12_29 ((Z71_l27 a0 a1 a2 a3 a4 n27)) z = some r) ?_ ?_
     ·intro K34 hK34
      refine block ?_
      refine seqK fun K36 hK36 => ?_
      refine region ?_
      refine s0 moveA rfl ?_
      refine s0 moveA rfl ?_
      refine s0 moveA rfl ?_
      obtain ⟨x37, gx37, hE⟩ := bindO_some hE
      refine s0 (idxMn (f := TArg.c) (n := s12_29) (TK rfl) rfl (TK rfl) rfl rfl rfl gx37) rfl ?_
      refine s0 (fieldVA (TK rfl) rfl rfl (TK rfl) rfl rfl) rfl ?_
      refine s0 (loadV (TK rfl) rfl rfl rfl) rfl ?_
      obtain ⟨x38, gx38, hE⟩ := bindO_some hE
      refine s0 (callP rfl rfl (fun H => Z61_walk gx38 H)) rfl ?_
      refine s0 moveA rfl ?_
      refine s0 (extract rfl rfl) rfl ?_
      refine s0 (extract rfl rfl) rfl ?_
      refine sL (allocLA (TK rfl) rfl) rfl ?_
      refine sLn (storeLFA (TK rfl) rfl rfl rfl rfl rfl) ?_
      refine s0 assignA rfl ?_
      refine nil ?_
      refine hK36 _ ?_
      clear hK36 K36
      refine freezeA 13 _ rfl (Keeps.c (k := 1) (by conv => lhs; whnf) (by rfl) (Keeps.c (k := 2) (by conv => lhs; whnf) (by rfl) (Keeps.c (k := 3) (by conv => lhs; whnf) (by rfl) (Keeps.c (k := 4) (by conv => lhs; whnf) (by rfl) (Keeps.c (k := 5) (by conv => lhs; whnf) (by rfl) (Keeps.c (k := 11) (by conv => lhs; whnf) (by rfl) (Keeps.c (k := 12) (by conv => lhs; whnf) (by rfl) (Keeps.c (k := 14) (by conv => lhs; whnf) (by rfl) Keeps.nil)))))))) ?_
      refine seqK fun K39 hK39 => ?_
      refine AWp.draw rfl ?_
      refine DOps.s0 moveA rfl ?_
      refine DOps.s0 (notB rfl) rfl ?_
      refine DOps.s0 moveA rfl ?_
      refine DOps.gC rfl rfl (fun hC => moveA) rfl ?_
      refine DOps.gC rfl rfl (fun hC => moveA) rfl ?_
      obtain ⟨x40, gx40, hE⟩ := guardO_some hE
      refine DOps.gC rfl rfl (fun hC => ungdA (k := 35) rfl (ungdA (k := 36) rfl (partM (f := TArg.c) (l := none) (r := (some ((s12_29 : Nat) : Int))) (TK rfl) rfl (TK rfl) rfl rfl trivial rfl (gx40 hC)))) rfl ?_
      refine DOps.gC rfl rfl (fun hC => moveA) rfl ?_
      refine DOps.gC rfl rfl (fun hC => moveA) rfl ?_
      obtain ⟨x41, gx41, hE⟩ := guardO_some hE
      refine DOps.gC rfl rfl (fun hC => ungdA (k := 38) rfl (ungdA (k := 39) rfl (idxMn (f := TArg.c) (n := s12_29) (TK rfl) rfl (TK rfl) rfl rfl rfl (gx41 hC)))) rfl ?_
      refine DOps.gC rfl rfl (fun hC => ungdA (k := 40) rfl (fieldVA (TK rfl) rfl rfl (TK rfl) rfl rfl)) rfl ?_
      refine DOps.gC rfl rfl (fun hC => ungdA (k := 41) rfl (loadV (TK rfl) rfl rfl rfl)) rfl ?_
      obtain ⟨x42, gx42, hE⟩ := guardO_some hE
      refine DOps.gC rfl rfl (fun hC => ungdA (k := 37) rfl (ungdA (k := 42) rfl (callP rfl rfl (fun H => Z74_walk (gx42 hC) H)))) rfl ?_
      refine DOps.s0 (pickOrA rfl rfl rfl) rfl ?_
      refine DOps.nil (by decide +kernel) ?_
      refine hK39 _ ?_
      clear hK39 K39
      refine condE hE rfl (fun hc43 hE => ?_) (fun hc43 hE => ?_)
      ·refine region ?_
       refine s0 moveA rfl ?_
       refine s0 moveA rfl ?_
       refine s0 (build Tryz.tab_ok rfl rfl rfl rfl rfl rfl) rfl ?_
       refine s0 (buildSlice (TK rfl) rfl (TK rfl) rfl rfl rfl rfl rfl rfl) rfl ?_
       obtain ⟨x44, gx44, hE⟩ := bindO_some hE
       refine sH (appM (f := TFault.c) (TK rfl) rfl (TK rfl) (TK rfl) ⟨_, rfl⟩ rfl rfl (by decide) rfl rfl rfl rfl hpG rfl gx44) rfl ?_
       refine AOps.heq (h' := (H.set tk1 (some (.tok 2 x44.l.length)))) (by first | rfl | (rw [Heap.set_set]; rfl) | (funext n_; simp only [Heap.set]; (repeat' split) <;> first | rfl | (exfalso; simp_all; done) | (simp_all; done))) ?_
       refine s0 assignA rfl ?_
       refine nil ?_
       exact hK34 _ x44 Weak.toA hE
      refine seqK fun K45 hK45 => ?_
      refine AWp.draw rfl ?_
      refine DOps.s0 (loadV (TK rfl) rfl rfl rfl) rfl ?_
      refine DOps.s0 (fieldVA (TK rfl) rfl rfl (TK rfl) rfl rfl) rfl ?_
      refine DOps.s0 (loadV (TK rfl) rfl rfl rfl) rfl ?_
      refine DOps.s0 moveA rfl ?_
      refine DOps.s0 moveA rfl ?_
      obtain ⟨x46, gx46, hE⟩ := bindO_some hE
      refine DOps.s0 (idxMn (f := TArg.c) (n := s12_29) (TK rfl) rfl (TK rfl) rfl rfl rfl gx46) rfl ?_
      refine DOps.s0 (fieldVA (TK rfl) rfl rfl (TK rfl) rfl rfl) rfl ?_
      refine DOps.s0 (loadV (TK rfl) rfl rfl rfl) rfl ?_
      obtain ⟨x47, gx47, hE⟩ := bindO_some hE
      refine DOps.s0 (callP rfl rfl (fun H => r14_Fits_walk gx47 H)) rfl ?_
      refine DOps.s0 (notB rfl) rfl ?_
      refine DOps.s0 moveA rfl ?_
      refine DOps.gC rfl rfl (fun hC => moveA) rfl ?_
      refine DOps.gC rfl rfl (fun hC => ungdA (k := 61) rfl moveA) rfl ?_
      refine DOps.gC rfl rfl (fun hC => moveA) rfl ?_
      refine DOps.gC rfl rfl (fun hC => moveA) rfl ?_
      obtain ⟨x48, gx48, hE⟩ := guardO_some hE
      refine DOps.gC rfl rfl (fun hC => ungdA (k := 63) rfl (ungdA (k := 64) rfl (idxMn (f := TArg.c) (n := s12_29) (TK rfl) rfl (TK rfl) rfl rfl rfl (gx48 hC)))) rfl ?_
      refine DOps.gC rfl rfl (fun hC => ungdA (k := 65) rfl (fieldVA (TK rfl) rfl rfl (TK rfl) rfl rfl)) rfl ?_
      refine DOps.gC rfl rfl (fun hC => ungdA (k := 66) rfl (loadV (TK rfl) rfl rfl rfl)) rfl ?_
      obtain ⟨x49, gx49, hE⟩ := guardO_some hE
      refine DOps.gC rfl rfl (fun hC => ungdA (k := 67) rfl (callP rfl rfl (fun H => Z81_walk (gx49 hC) H))) rfl ?_
      refine DOps.gC rfl rfl (fun hC => ungdA (k := 62) rfl (pickAndA rfl rfl rfl)) rfl ?_
      refine DOps.s0 (pickOrA rfl rfl rfl) rfl ?_
      refine DOps.nil (by decide +kernel) ?_
      refine hK45 _ ?_
      clear hK45 K45
      refine condE hE rfl (fun hc50 hE => ?_) (fun hc50 hE => ?_)
      ·refine region ?_
       refine s0 moveA rfl ?_
       refine s0 moveA rfl ?_
       refine s0 (build Tryz.tab_ok rfl rfl rfl rfl rfl rfl) rfl ?_
       refine s0 (buildSlice (TK rfl) rfl (TK rfl) rfl rfl rfl rfl rfl rfl) rfl ?_
       obtain ⟨x51, gx51, hE⟩ := bindO_some hE
       refine sH (appM (f := TFault.c) (TK rfl) rfl (TK rfl) (TK rfl) ⟨_, rfl⟩ rfl rfl (by decide) rfl rfl rfl rfl hpG rfl gx51) rfl ?_
       refine AOps.heq (h' := (H.set tk1 (some (.tok 2 x51.l.length)))) (by first | rfl | (rw [Heap.set_set]; rfl) | (funext n_; simp only [Heap.set]; (repeat' split) <;> first | rfl | (exfalso; simp_all; done) | (simp_all; done))) ?_
       refine s0 assignA rfl ?_
       refine nil ?_
       exact hK34 _ x51 Weak.toA hE
      refine AWp.skip ?_
      exact hK34 _ s11_28 Weak.toA hE
     rintro s11_35 hE
     try dsimp only at hE
     unfold Z71_j34 at hE
     refine region ?_
     refine s0 moveA rfl ?_
     refine s0 (addIA rfl rfl) rfl ?_
     refine s0 assignA rfl ?_
     refine nil ?_
     exact hK27 _ (n27, s11_35, (s12_29 + 1)) Weak.toA hE (Nat.lt_succ_self _)
    refine AWp.exit ?_
    exact hK3 _ s11_28 Weak.toA hE
 rintro s11_4 hE
 try dsimp only at hE
 unfold Z71_j3 at hE
 refine seqJH KeepsT.nil (fun (z : (Sl TFault)) => [(11, .a (.d (Sl.d 2 TFault.c (some tk1) z)))]) (fun z => (H.set tk1 (some (.tok 2 z.l.length)))) (fun z => Z71_j5 z = some r) ?_ ?_
 ·intro K5 hK5
  refine seqK fun K8 hK8 => ?_
  refine region ?_
  refine s0 assignA rfl ?_
  refine nil ?_
  refine hK8 _ ?_
  clear hK8 K8
  refine block ?_
  refine loopH (KeepsT.A (k := 1) (KeepsT.A (k := 2) (KeepsT.A (k := 4) KeepsT.nil))) (fun (z : Nat × (Sl TFault) × Nat) => [(11, .a (.d (Sl.d 2 TFault.c (some tk1) z.2.1))), (15, .a (.d (.int .i64 ((z.2.2 : Nat) : Int))))]) (fun z => (H.set tk1 (some (.tok 2 z.2.1.l.length)))) (fun z => z.1) (fun z => Z71_l9 a1 a2 a4 z.1 z.2.1 z.2.2 = some r) ((a1.l.length + 1), s11_4, 0) hE Weak.toA ?_
  rintro ⟨n9, s11_10, s15_11⟩ hE K9 hK9
  try dsimp only at hE
  cases n9 with
  | zero => cases hE
  | succ n9 =>
    rw [Z71_l9] at hE
    refine seqK fun K12 hK12 => ?_
    refine seqK fun K13 hK13 => ?_
    refine region ?_
    refine s0 moveA rfl ?_
    refine s0 moveA rfl ?_
    refine sLen (f := TInput.c) (s := a1) (TK rfl) rfl rfl rfl rfl fun hL14 => ?_
    refine s0 (binI rfl rfl rfl) rfl ?_
    refine nil ?_
    refine hK13 _ ?_
    clear hK13 K13
    refine condE hE rfl (fun hc15 hE => ?_) (fun hc15 hE => ?_)
    ·try dsimp only at hc15
     have hf15 := of_decide_eq_true hc15
     refine AWp.skip ?_
     refine hK12 _ ?_
     clear hK12 K12
     refine seqJH (KeepsT.A (k := 1) (KeepsT.A (k := 2) (KeepsT.A (k := 4) (KeepsT.A (k := 15) KeepsT.nil)))) (fun (z : (Sl TFault)) => [(11, .a (.d (Sl.d 2 TFault.c (some tk1) z)))]) (fun z => (H.set tk1 (some (.tok 2 z.l.length)))) (fun z => Z71_j16 s15_11 ((Z71_l9 a1 a2 a4 n9)) z = some r) ?_ ?_
     ·intro K16 hK16
      refine block ?_
      refine seqK fun K18 hK18 => ?_
      refine region ?_
      refine s0 moveA rfl ?_
      refine s0 moveA rfl ?_
      obtain ⟨x19, gx19, hE⟩ := bindO_some hE
      refine s0 (idxMn (f := TInput.c) (n := s15_11) (TK rfl) rfl (TK rfl) rfl rfl rfl gx19) rfl ?_
      refine s0 (fieldVA (TK rfl) rfl rfl (TK rfl) rfl rfl) rfl ?_
      refine s0 (loadV (TK rfl) rfl rfl rfl) rfl ?_
      obtain ⟨x20, gx20, hE⟩ := bindO_some hE
      refine s0 (callP rfl rfl (fun H => Z31_walk gx20 H)) rfl ?_
      refine s0 moveA rfl ?_
      refine gC rfl rfl (fun hC => moveA) rfl ?_
      refine gC rfl rfl (fun hC => moveA) rfl ?_
      obtain ⟨x21, gx21, hE⟩ := guardO_some hE
      refine gC rfl rfl (fun hC => ungdA (k := 89) rfl (ungdA (k := 90) rfl (idxMn (f := TInput.c) (n := s15_11) (TK rfl) rfl (TK rfl) rfl rfl rfl (gx21 hC)))) rfl ?_
      refine gC rfl rfl (fun hC => ungdA (k := 91) rfl (fieldVA (TK rfl) rfl rfl (TK rfl) rfl rfl)) rfl ?_
      refine gC rfl rfl (fun hC => ungdA (k := 92) rfl (loadV (TK rfl) rfl rfl rfl)) rfl ?_
      refine gC rfl rfl (fun hC => ungdA (k := 93) rfl (notB rfl)) rfl ?_
      refine s0 (pickAndA rfl rfl rfl) rfl ?_
      refine s0 moveA rfl ?_
      refine gC rfl rfl (fun hC => moveA) rfl ?_
      refine gC rfl rfl (fun hC => moveA) rfl ?_
      refine gC rfl rfl (fun hC => moveA) rfl ?_
      obtain ⟨x22, gx22, hE⟩ := guardO_some hE
      refine gC rfl rfl (fun hC => ungdA (k := 98) rfl (ungdA (k := 99) rfl (idxMn (f := TInput.c) (n := s15_11) (TK rfl) rfl (TK rfl) rfl rfl rfl (gx22 hC)))) rfl ?_
      refine gC rfl rfl (fun hC => ungdA (k := 100) rfl (fieldVA (TK rfl) rfl rfl (TK rfl) rfl rfl)) rfl ?_
      refine gC rfl rfl (fun hC => ungdA (k := 101) rfl (loadV (TK rfl) rfl rfl rfl)) rfl ?_
      obtain ⟨x23, gx23, hE⟩ := guardO_some hE
      refine gC rfl rfl (fun hC => ungdA (k := 97) rfl (ungdA (k := 102) rfl (callP rfl rfl (fun H => Z74_walk (gx23 hC) H)))) rfl ?_
      refine gC rfl rfl (fun hC => ungdA (k := 103) rfl (notB rfl)) rfl ?_
      refine s0 (pickAndA rfl rfl rfl) rfl ?_
      refine nil ?_
      refine hK18 _ ?_
      clear hK18 K18
      refine condE hE rfl (fun hc24 hE => ?_) (fun hc24 hE => ?_)
      ·refine region ?_
       refine s0 moveA rfl ?_
       refine s0 moveA rfl ?_
       refine s0 (build Tryz.tab_ok rfl rfl rfl rfl rfl rfl) rfl ?_
       refine s0 (buildSlice (TK rfl) rfl (TK rfl) rfl rfl rfl rfl rfl rfl) rfl ?_
       obtain ⟨x25, gx25, hE⟩ := bindO_some hE
       refine sH (appM (f := TFault.c) (TK rfl) rfl (TK rfl) (TK rfl) ⟨_, rfl⟩ rfl rfl (by decide) rfl rfl rfl rfl hpG rfl gx25) rfl ?_
       refine AOps.heq (h' := (H.set tk1 (some (.tok 2 x25.l.length)))) (by first | rfl | (rw [Heap.set_set]; rfl) | (funext n_; simp only [Heap.set]; (repeat' split) <;> first | rfl | (exfalso; simp_all; done) | (simp_all; done))) ?_
       refine s0 assignA rfl ?_
       refine nil ?_
       exact hK16 _ x25 Weak.toA hE
      refine AWp.skip ?_
      exact hK16 _ s11_10 Weak.toA hE
     rintro s11_17 hE
     try dsimp only at hE
     unfold Z71_j16 at hE
     refine region ?_
     refine s0 moveA rfl ?_
     refine s0 (addIA rfl rfl) rfl ?_
     refine s0 assignA rfl ?_
     refine nil ?_
     exact hK9 _ (n9, s11_17, (s15_11 + 1)) Weak.toA hE (Nat.lt_succ_self _)
    refine AWp.exit ?_
    exact hK5 _ s11_10 Weak.toA hE
 rintro s11_6 hE
 try dsimp only at hE
 unfold Z71_j5 at hE
 refine seqK fun K7 hK7 => ?_
 refine region ?_
 refine s0 moveA rfl ?_
 refine s0 assignA rfl ?_
 refine nil ?_
 refine hK7 _ ?_
 clear hK7 K7
 refine AWp.dropTok 10 rfl ?_
 refine AWp.ret ?_
 repeat (first | refine xBlock_ret ?_ | refine xThen_ret ?_)
 obtain rfl := Option.some.inj hE
 refine retQ.retF H rfl ⟨rfl, rfl⟩ ?_
 first | exact Heap.sub_set htk1 | (simp only [Heap.set_set]; exact Heap.sub_set htk1)
def Z72_j3  (s9_4 : (Sl TFault)) : Option (Sl TFault) := some s9_4
def Z72_j14 (s10_9 : Nat) (k_next_7 : (Sl TFault) → Nat → Option (Sl TFault)) (s9_15 : (Sl TFault)) : Option (Sl TFault) := k_next_7 s9_15 (s10_9 + 1)
def Z72_j20 (a0 : TDoc) (a3 : Bs) (s9_8 : (Sl TFault)) (s10_9 : Nat) (x17 : TDir) (x19 : ((Sl TInput) × Bool)) (k_next_7 : (Sl TFault) → Nat → Option (Sl TFault)) (s13_21 : Bool) : Option (Sl TFault) := bif (!s13_21) then ((appC 24 s9_8 (⟨false, [(TFault.mk (29 : Int) a3)]⟩ : Sl TFault)).bind fun x26 => Z72_j14 s10_9 k_next_7 x26) else ((Z71 a0 x19.1 x17.FArgs (((x17.FName == ([100, 101, 102, 101, 114] : Bs))) || ((x17.FName == ([115, 116, 114, 101, 97, 109] : Bs)))) a3).bind fun x27 => (appC 24 s9_8 x27).bind fun x28 => Z72_j14 s10_9 k_next_7 x28)
def Z72_l30 (a0 : TDoc) (a1 : TSel) (a3 : Bs) (s9_8 : (Sl TFault)) (s10_9 : Nat) (x17 : TDir) (x19 : ((Sl TInput) × Bool)) (k_next_7 : (Sl TFault) → Nat → Option (Sl TFault)) : Nat → Bool → Nat → Option (Sl TFault)
 | 0, _, _ => none
 | n30 + 1, s13_31, s14_32 => bif (decide (((s14_32 : Nat) : Int) < ((s10_9 : Nat) : Int))) then (guardO (s13_31) (a1.FDirs.l[s14_32]?) TDir.zero fun x37 => (Z72_l30 a0 a1 a3 s9_8 s10_9 x17 x19 k_next_7 n30) (s13_31 && (!(x37.FName == x17.FName))) (s14_32 + 1)) else (Z72_j20 a0 a3 s9_8 s10_9 x17 x19 k_next_7 s13_31)
def Z72_l7 (a0 : TDoc) (a1 : TSel) (a2 : Bool) (a3 : Bs)  : Nat → (Sl TFault) → Nat → Option (Sl TFault)
 | 0, _, _ => none
 | n7 + 1, s9_8, s10_9 => bif (decide (((s10_9 : Nat) : Int) < ((a1.FDirs.l.length : Nat) : Int))) then ((a1.FDirs.l[s10_9]?).bind fun x17 => (Z70 x17.FName a1.FKind a2).bind fun x19 => Z72_l30 a0 a1 a3 s9_8 s10_9 x17 x19 ((Z72_l7 a0 a1 a2 a3 n7)) (s10_9 + 1) x19.2 0) else (Z72_j3   s9_8)
def Z72 (a0 : TDoc) (a1 : TSel) (a2 : Bool) (a3 : Bs) : Option (Sl TFault) := Z72_l7 a0 a1 a2 a3 (a1.FDirs.l.length + 1) (Sl.nil : Sl TFault) 0
theorem Z72_walk {a0 : TDoc} {a1 : TSel} {a2 : Bool} {a3 : Bs}   {r : (Sl TFault)} (hE : Z72 a0 a1 a2 a3 = some r) (H : Heap)  : ACalls Tryz.prog 62 [.agg (TDoc.c a0), .agg (TSel.c a1), .d (.bool a2), .d (.str a3)] H fun v h' => v = .a (.d (Sl.d 2 TFault.c none r)) ∧ h' = H := by
 unfold Z72 at hE
 refine ACalls.of_wp (fn := Tryz.f62) (c := _) Tryz.tab_ok (fun _ _ => Tryz.call62 _ _) Tryz.func62 rfl (n := 77) rfl (rs := [.tmp 8]) rfl rfl ?_
 refine AWp.tok 2 fun tk1 htk1 => ?_
 refine seqK fun K1 hK1 => ?_
 refine region ?_
 refine s0 (boxV rfl) rfl ?_
 refine s0 (boxV rfl) rfl ?_
 refine s0 assignA rfl ?_
 refine nil ?_
 refine hK1 _ ?_
 clear hK1 K1
 refine seqK fun K2 hK2 => ?_
 refine region ?_
 refine s0 assignA rfl ?_
 refine nil ?_
 refine hK2 _ ?_
 clear hK2 K2
 refine AWp.nilTok 9 2 tk1 rfl hpG ?_
 refine seqJH KeepsT.nil (fun (z : (Sl TFault)) => [(9, .a (.d (Sl.d 2 TFault.c (some tk1) z)))]) (fun z => (H.set tk1 (some (.tok 2 z.l.length)))) (fun z => Z72_j3 z = some r) ?_ ?_
 ·intro K3 hK3
  refine seqK fun K6 hK6 => ?_
  refine region ?_
  refine s0 assignA rfl ?_
  refine nil ?_
  refine hK6 _ ?_
  clear hK6 K6
  refine block ?_
  refine loopH (KeepsT.A (k := 2) (KeepsT.A (k := 3) (KeepsT.A (k := 4) (KeepsT.A (k := 5) KeepsT.nil)))) (fun (z : Nat × (Sl TFault) × Nat) => [(9, .a (.d (Sl.d 2 TFault.c (some tk1) z.2.1))), (10, .a (.d (.int .i64 ((z.2.2 : Nat) : Int))))]) (fun z => (H.set tk1 (some (.tok 2 z.2.1.l.length)))) (fun z => z.1) (fun z => Z72_l7 a0 a1 a2 a3 z.1 z.2.1 z.2.2 = some r) ((a1.FDirs.l.length + 1), (Sl.nil : Sl TFault), 0) hE Weak.toA ?_
  rintro ⟨n7, s9_8, s10_9⟩ hE K7 hK7
  try dsimp only at hE
  cases n7 with
  | zero => cases hE
  | succ n7 =>
    rw [Z72_l7] at hE
    refine seqK fun K10 hK10 => ?_
    refine seqK fun K11 hK11 => ?_
    refine region ?_
    refine s0 moveA rfl ?_
    refine s0 (fieldVA (TK rfl) rfl rfl (TK rfl) rfl rfl) rfl ?_
    refine s0 (loadV (TK rfl) rfl rfl rfl) rfl ?_
    refine sLen (f := TDir.c) (s := a1.FDirs) (TK rfl) rfl rfl rfl rfl fun hL12 => ?_
    refine s0 (binI rfl rfl rfl) rfl ?_
    refine nil ?_
    refine hK11 _ ?_
    clear hK11 K11
    refine condE hE rfl (fun hc13 hE => ?_) (fun hc13 hE => ?_)
    ·try dsimp only at hc13
     have hf13 := of_decide_eq_true hc13
     refine AWp.skip ?_
     refine hK10 _ ?_
     clear hK10 K10
     refine seqJH (KeepsT.A (k := 2) (KeepsT.A (k := 3) (KeepsT.A (k := 4) (KeepsT.A (k := 5) (KeepsT.A (k := 10) KeepsT.nil))))) (fun (z : (Sl TFault)) => [(9, .a (.d (Sl.d 2 TFault.c (some tk1) z)))]) (fun z => (H.set tk1 (some (.tok 2 z.l.length)))) (fun z => Z72_j14 s10_9 ((Z72_l7 a0 a1 a2 a3 n7)) z = some r) ?_ ?_
     ·intro K14 hK14
      refine block ?_
      refine seqK fun K16 hK16 => ?_
      refine region ?_
      refine s0 (fieldVA (TK rfl) rfl rfl (TK rfl) rfl rfl) rfl ?_
      refine s0 (loadV (TK rfl) rfl rfl rfl) rfl ?_
      refine s0 moveA rfl ?_
      obtain ⟨x17, gx17, hE⟩ := bindO_some hE
      refine s0 (idxMn (f := TDir.c) (n := s10_9) (TK rfl) rfl (TK rfl) rfl rfl rfl gx17) rfl ?_
      refine s0 (loadV (TK rfl) rfl rfl rfl) rfl ?_
      refine sL (allocLA (TK rfl) rfl) rfl ?_
      refine sLn (storeLFA (TK rfl) rfl rfl rfl rfl rfl) ?_
      refine nil ?_
      refine hK16 _ ?_
      clear hK16 K16
      refine freezeA 11 _ rfl (Keeps.c (k := 2) (by conv => lhs; whnf) (by rfl) (Keeps.c (k := 3) (by conv => lhs; whnf) (by rfl) (Keeps.c (k := 4) (by conv => lhs; whnf) (by rfl) (Keeps.c (k := 5) (by conv => lhs; whnf) (by rfl) (Keeps.c (k := 9) (by conv => lhs; whnf) (by rfl) (Keeps.c (k := 10) (by conv => lhs; whnf) (by rfl) Keeps.nil)))))) ?_
      refine seqK fun K18 hK18 => ?_
      refine region ?_
      refine s0 (fieldVA (TK rfl) rfl rfl (TK rfl) rfl rfl) rfl ?_
      refine s0 (loadV (TK rfl) rfl rfl rfl) rfl ?_
      refine s0 (fieldVA (TK rfl) rfl rfl (TK rfl) rfl rfl) rfl ?_
      refine s0 (loadV (TK rfl) rfl rfl rfl) rfl ?_
      refine s0 moveA rfl ?_
      obtain ⟨x19, gx19, hE⟩ := bindO_some hE
      refine s0 (callP rfl rfl (fun H => Z70_walk gx19 H)) rfl ?_
      refine s0 moveA rfl ?_
      refine s0 (extract rfl rfl) rfl ?_
      refine s0 (extract rfl rfl) rfl ?_
      refine s0 assignA rfl ?_
      refine s0 assignA rfl ?_
      refine nil ?_
      refine hK18 _ ?_
      clear hK18 K18
      refine seqJH (KeepsT.A (k := 2) (KeepsT.A (k := 3) (KeepsT.A (k := 4) (KeepsT.A (k := 5) (KeepsT.A (k := 9) (KeepsT.A (k := 10) (KeepsT.A (k := 11) (KeepsT.A (k := 12) KeepsT.nil)))))))) (fun (z : Bool) => [(13, .a (.d (.bool z)))]) (fun z => (H.set tk1 (some (.tok 2 s9_8.l.length)))) (fun z => Z72_j20 a0 a3 s9_8 s10_9 x17 x19 ((Z72_l7 a0 a1 a2 a3 n7)) z = some r) ?_ ?_
      ·intro K20 hK20
       refine seqK fun K29 hK29 => ?_
       refine region ?_
       refine s0 assignA rfl ?_
       refine nil ?_
       refine hK29 _ ?_
       clear hK29 K29
       refine block ?_
       refine loopH (KeepsT.A (k := 2) (KeepsT.A (k := 3) (KeepsT.A (k := 4) (KeepsT.A (k := 5) (KeepsT.A (k := 9) (KeepsT.A (k := 10) (KeepsT.A (k := 11) (KeepsT.A (k := 12) KeepsT.nil)))))))) (fun (z : Nat × Bool × Nat) => [(13, .a (.d (.bool z.2.1))), (14, .a (.d (.int .i64 ((z.2.2 : Nat) : Int))))]) (fun z => (H.set tk1 (some (.tok 2 s9_8.l.length)))) (fun z => z.1) (fun z => Z72_l30 a0 a1 a3 s9_8 s10_9 x17 x19 ((Z72_l7 a0 a1 a2 a3 n7)) z.1 z.2.1 z.2.2 = some r) ((s10_9 + 1), x19.2, 0) hE Weak.toA ?_
       rintro ⟨n30, s13_31, s14_32⟩ hE K30 hK30
       try dsimp only at hE
       cases n30 with
       | zero => cases hE
       | succ n30 =>
         rw [Z72_l30] at hE
         refine seqK fun K33 hK33 => ?_
         refine seqK fun K34 hK34 => ?_
         refine region ?_
         refine s0 moveA rfl ?_
         refine s0 moveA rfl ?_
         refine s0 (binI rfl rfl rfl) rfl ?_
         refine nil ?_
         refine hK34 _ ?_
         clear hK34 K34
         refine condE hE rfl (fun hc35 hE => ?_) (fun hc35 hE => ?_)
         ·try dsimp only at hc35
          have hf35 := of_decide_eq_true hc35
          refine AWp.skip ?_
          refine hK33 _ ?_
          clear hK33 K33
          refine seqK fun K36 hK36 => ?_
          refine block ?_
          refine AWp.draw rfl ?_
          refine DOps.s0 moveA rfl ?_
          refine DOps.s0 moveA rfl ?_
          refine DOps.gC rfl rfl (fun hC => fieldVA (TK rfl) rfl rfl (TK rfl) rfl rfl) rfl ?_
          refine DOps.gC rfl rfl (fun hC => ungdA (k := 43) rfl (loadV (TK rfl) rfl rfl rfl)) rfl ?_
          refine DOps.gC rfl rfl (fun hC => moveA) rfl ?_
          obtain ⟨x37, gx37, hE⟩ := guardO_some hE
          refine DOps.gC rfl rfl (fun hC => ungdA (k := 44) rfl (ungdA (k := 45) rfl (idxMn (f := TDir.c) (n := s14_32) (TK rfl) rfl (TK rfl) rfl rfl rfl (gx37 hC)))) rfl ?_
          refine DOps.gC rfl rfl (fun hC => ungdA (k := 46) rfl (fieldVA (TK rfl) rfl rfl (TK rfl) rfl rfl)) rfl ?_
          refine DOps.gC rfl rfl (fun hC => ungdA (k := 47) rfl (loadV (TK rfl) rfl rfl rfl)) rfl ?_
          refine DOps.gC rfl rfl (fun hC => fieldVA (TK rfl) rfl rfl (TK rfl) rfl rfl) rfl ?_
          refine DOps.gC rfl rfl (fun hC => ungdA (k := 49) rfl (loadV (TK rfl) rfl rfl rfl)) rfl ?_
          refine DOps.gC rfl rfl (fun hC => ungdA (k := 48) rfl (ungdA (k := 50) rfl (binS rfl rfl rfl))) rfl ?_
          refine DOps.s0 (pickAndA rfl rfl rfl) rfl ?_
          refine DOps.s0 assignA rfl ?_
          refine DOps.nil (by decide +kernel) ?_
          refine hK36 _ ?_
          clear hK36 K36
          refine region ?_
          refine s0 moveA rfl ?_
          refine s0 (addIA rfl rfl) rfl ?_
          refine s0 assignA rfl ?_
          refine nil ?_
          exact hK30 _ (n30, (s13_31 && (!(x37.FName == x17.FName))), (s14_32 + 1)) Weak.toA hE (Nat.lt_succ_self _)
         refine AWp.exit ?_
         exact hK20 _ s13_31 Weak.toA hE
      rintro s13_21 hE
      try dsimp only at hE
      unfold Z72_j20 at hE
      refine seqK fun K22 hK22 => ?_
      refine seqK fun K23 hK23 => ?_
      refine region ?_
      refine s0 moveA rfl ?_
      refine s0 (notB rfl) rfl ?_
      refine nil ?_
      refine hK23 _ ?_
      clear hK23 K23
      refine condE hE rfl (fun hc24 hE => ?_) (fun hc24 hE => ?_)
      ·refine seqK fun K25 hK25 => ?_
       refine region ?_
       refine s0 moveA rfl ?_
       refine s0 moveA rfl ?_
       refine s0 (build Tryz.tab_ok rfl rfl rfl rfl rfl rfl) rfl ?_
       refine s0 (buildSlice (TK rfl) rfl (TK rfl) rfl rfl rfl rfl rfl rfl) rfl ?_
       obtain ⟨x26, gx26, hE⟩ := bindO_some hE
       refine sH (appM (f := TFault.c) (TK rfl) rfl (TK rfl) (TK rfl) ⟨_, rfl⟩ rfl rfl (by decide) rfl rfl rfl rfl hpG rfl gx26) rfl ?_
       refine AOps.heq (h' := (H.set tk1 (some (.tok 2 x26.l.length)))) (by first | rfl | (rw [Heap.set_set]; rfl) | (funext n_; simp only [Heap.set]; (repeat' split) <;> first | rfl | (exfalso; simp_all; done) | (simp_all; done))) ?_
       refine s0 assignA rfl ?_
       refine nil ?_
       refine hK25 _ ?_
       clear hK25 K25
       refine AWp.exit ?_
       exact hK14 _ x26 Weak.toA hE
      refine AWp.skip ?_
      refine hK22 _ ?_
      clear hK22 K22
      refine region ?_
      refine s0 moveA rfl ?_
      refine s0 (loadV (TK rfl) rfl rfl rfl) rfl ?_
      refine s0 moveA rfl ?_
      refine s0 (fieldVA (TK rfl) rfl rfl (TK rfl) rfl rfl) rfl ?_
      refine s0 (loadV (TK rfl) rfl rfl rfl) rfl ?_
      refine s0 (fieldVA (TK rfl) rfl rfl (TK rfl) rfl rfl) rfl ?_
      refine s0 (loadV (TK rfl) rfl rfl rfl) rfl ?_
      refine s0 (binS rfl rfl rfl) rfl ?_
      refine s0 moveA rfl ?_
      refine gC rfl rfl (fun hC => fieldVA (TK rfl) rfl rfl (TK rfl) rfl rfl) rfl ?_
      refine gC rfl rfl (fun hC => ungdA (k := 69) rfl (loadV (TK rfl) rfl rfl rfl)) rfl ?_
      refine gC rfl rfl (fun hC => ungdA (k := 70) rfl (binS rfl rfl rfl)) rfl ?_
      refine s0 (pickOrA rfl rfl rfl) rfl ?_
      refine s0 moveA rfl ?_
      obtain ⟨x27, gx27, hE⟩ := bindO_some hE
      refine s0 (callP rfl rfl (fun H => Z71_walk gx27 H)) rfl ?_
      obtain ⟨x28, gx28, hE⟩ := bindO_some hE
      refine sH (appM (f := TFault.c) (TK rfl) rfl (TK rfl) (TK rfl) ⟨_, rfl⟩ rfl rfl (by decide) rfl rfl rfl rfl hpG rfl gx28) rfl ?_
      refine AOps.heq (h' := (H.set tk1 (some (.tok 2 x28.l.length)))) (by first | rfl | (rw [Heap.set_set]; rfl) | (funext n_; simp only [Heap.set]; (repeat' split) <;> first | rfl | (exfalso; simp_all; done) | (simp_all; done))) ?_
      refine s0 assignA rfl ?_
      refine nil ?_
      exact hK14 _ x28 Weak.toA hE
     rintro s9_15 hE
     try dsimp only at hE
     unfold Z72_j14 at hE
     refine region ?_
     refine s0 moveA rfl ?_
     refine s0 (addIA rfl rfl) rfl ?_
     refine s0 assignA rfl ?_
     refine nil ?_
     exact hK7 _ (n7, s9_15, (s10_9 + 1)) Weak.toA hE (Nat.lt_succ_self _)
    refine AWp.exit ?_
    exact hK3 _ s9_8 Weak.toA hE
 rintro s9_4 hE
 try dsimp only at hE
 unfold Z72_j3 at hE
 refine seqK fun K5 hK5 => ?_
 refine region ?_
 refine s0 moveA rfl ?_
 refine s0 assignA rfl ?_
 refine nil ?_
 refine hK5 _ ?_
 clear hK5 K5
 refine AWp.dropTok 8 rfl ?_
 refine AWp.ret ?_
 repeat (first | refine xBlock_ret ?_ | refine xThen_ret ?_)
 obtain rfl := Option.some.inj hE
 refine retQ.retF H rfl ⟨rfl, rfl⟩ ?_
 first | exact Heap.sub_set htk1 | (simp only [Heap.set_set]; exact Heap.sub_set htk1)
def Z20 (a0 : Bs) : Option Bool := guardO ((decide ((2 : Int) ≤ ((a0.length : Nat) : Int)))) (a0[0]?) (0 : UInt8) fun x4 => guardO (((decide ((2 : Int) ≤ ((a0.length : Nat) : Int))) && (decide (((x4.toNat : Nat) : Int) = (95 : Int))))) (a0[1]?) (0 : UInt8) fun x5 => some (((decide ((2 : Int) ≤ ((a0.length : Nat) : Int))) && (decide (((x4.toNat : Nat) : Int) = (95 : Int)))) && (decide (((x5.toNat : Nat) : Int) = (95 : Int))))
theorem Z20_walk {a0 : Bs}   {r : Bool} (hE : Z20 a0 = some r) (H : Heap)  : ACalls Tryz.prog 99 [.d (.str a0)] H fun v h' => v = .a (.d (.bool r)) ∧ h' = H := by
 unfold Z20 at hE
 refine ACalls.of_wp (fn := Tryz.f99) (c := _) Tryz.tab_ok (fun _ _ => Tryz.call99 _ _) Tryz.func99 rfl (n := 16) rfl (rs := [.tmp 2]) rfl rfl ?_
 refine seqK fun K1 hK1 => ?_
 refine region ?_
 refine s0 assignA rfl ?_
 refine nil ?_
 refine hK1 _ ?_
 clear hK1 K1
 refine seqK fun K2 hK2 => ?_
 refine region ?_
 refine s0 moveA rfl ?_
 refine sLenS (TK rfl) rfl rfl rfl rfl fun hL3 => ?_
 refine s0 (binI rfl rfl rfl) rfl ?_
 refine s0 moveA rfl ?_
 refine gC rfl rfl (fun hC => moveA) rfl ?_
 obtain ⟨x4, gx4, hE⟩ := guardO_some hE
 refine gC rfl rfl (fun hC => ungdA (k := 7) rfl (idxSn (n := 0) (TK rfl) rfl rfl rfl (gx4 hC))) rfl ?_
 refine gC rfl rfl (fun hC => ungdA (k := 8) rfl (binI rfl rfl rfl)) rfl ?_
 refine s0 (pickAndA rfl rfl rfl) rfl ?_
 refine s0 moveA rfl ?_
 refine gC rfl rfl (fun hC => moveA) rfl ?_
 obtain ⟨x5, gx5, hE⟩ := guardO_some hE
 refine gC rfl rfl (fun hC => ungdA (k := 12) rfl (idxSn (n := 1) (TK rfl) rfl rfl rfl (gx5 hC))) rfl ?_
 refine gC rfl rfl (fun hC => ungdA (k := 13) rfl (binI rfl rfl rfl)) rfl ?_
 refine s0 (pickAndA rfl rfl rfl) rfl ?_
 refine s0 assignA rfl ?_
 refine nil ?_
 refine hK2 _ ?_
 clear hK2 K2
 refine AWp.ret ?_
 repeat (first | refine xBlock_ret ?_ | refine xThen_ret ?_)
 obtain rfl := Option.some.inj hE
 refine retQ.retF H rfl ⟨rfl, rfl⟩ ?_
 exact (fun _ _ h => h)
def Z59_j2  (y3_l0 : TField) : Option (TField × Bool) := some ((TField.mk ([] : Bs) (Sl.nil : Sl TInput) TRef.zero (Sl.nil : Sl TDir)), false)
def Z59_l6 (a0 : TDef) (a1 : Bs)  : Nat → Nat → TField → Option (TField × Bool)
 | 0, _, _ => none
 | n6 + 1, s6_7, y8_l0 => bif (decide (((s6_7 : Nat) : Int) < ((a0.FFields.l.length : Nat) : Int))) then ((a0.FFields.l[s6_7]?).bind fun x15 => bif ((x15.FName == a1)) then ((a0.FFields.l[s6_7]?).bind fun x18 => some (x18, true)) else ((Z59_l6 a0 a1 n6) (s6_7 + 1) y8_l0)) else (Z59_j2   y8_l0)
def Z59 (a0 : TDef) (a1 : Bs) : Option (TField × Bool) := Z59_l6 a0 a1 (a0.FFields.l.length + 1) 0 TField.zero
theorem Z59_walk {a0 : TDef} {a1 : Bs}   {r : (TField × Bool)} (hE : Z59 a0 a1 = some r) (H : Heap)  : ACalls Tryz.prog 102 [.agg (TDef.c a0), .d (.str a1)] H fun v h' => v = .tup [.agg (TField.c r.1), .d (.bool r.2)] ∧ h' = H := by
 unfold Z59 at hE
 refine ACalls.of_wp (fn := Tryz.f102) (c := _) Tryz.tab_ok (fun _ _ => Tryz.call102 _ _) Tryz.func102 rfl (n := 28) rfl (rs := [.cell 4 103, .tmp 5]) rfl rfl ?_
 refine seqK fun K1 hK1 => ?_
 refine region ?_
 refine s0 (boxV rfl) rfl ?_
 refine sL (allocLA (TK rfl) rfl) rfl ?_
 refine s0 assignA rfl ?_
 refine nil ?_
 refine hK1 _ ?_
 clear hK1 K1
 refine seqJ (KeepsT.A (k := 4) KeepsT.nil) (fun (z : TField) => []) (fun z => [TField.c z]) (fun z => H) (fun z => Z59_j2 z = some r) ?_ ?_
 ·intro K2 hK2
  refine seqK fun K5 hK5 => ?_
  refine region ?_
  refine s0 assignA rfl ?_
  refine nil ?_
  refine hK5 _ ?_
  clear hK5 K5
  refine block ?_
  refine loopO (KeepsT.A (k := 1) (KeepsT.A (k := 2) (KeepsT.A (k := 4) KeepsT.nil))) (fun (z : Nat × Nat × TField) => [(6, .a (.d (.int .i64 ((z.2.1 : Nat) : Int))))]) (fun z => [TField.c z.2.2]) (fun z => H) (fun z => z.1) (fun z => Z59_l6 a0 a1 z.1 z.2.1 z.2.2 = some r) ((a0.FFields.l.length + 1), 0, TField.zero) hE Weak.toA ?_
  rintro ⟨n6, s6_7, y8_l0⟩ hE K6 hK6
  try dsimp only at hE
  cases n6 with
  | zero => cases hE
  | succ n6 =>
    rw [Z59_l6] at hE
    refine seqK fun K9 hK9 => ?_
    refine seqK fun K10 hK10 => ?_
    refine region ?_
    refine s0 moveA rfl ?_
    refine s0 (fieldVA (TK rfl) rfl rfl (TK rfl) rfl rfl) rfl ?_
    refine s0 (loadV (TK rfl) rfl rfl rfl) rfl ?_
    refine sLen (f := TField.c) (s := a0.FFields) (TK rfl) rfl rfl rfl rfl fun hL11 => ?_
    refine s0 (binI rfl rfl rfl) rfl ?_
    refine nil ?_
    refine hK10 _ ?_
    clear hK10 K10
    refine condE hE rfl (fun hc12 hE => ?_) (fun hc12 hE => ?_)
    ·try dsimp only at hc12
     have hf12 := of_decide_eq_true hc12
     refine AWp.skip ?_
     refine hK9 _ ?_
     clear hK9 K9
     refine seqK fun K13 hK13 => ?_
     refine block ?_
     refine seqK fun K14 hK14 => ?_
     refine region ?_
     refine s0 (fieldVA (TK rfl) rfl rfl (TK rfl) rfl rfl) rfl ?_
     refine s0 (loadV (TK rfl) rfl rfl rfl) rfl ?_
     refine s0 moveA rfl ?_
     obtain ⟨x15, gx15, hE⟩ := bindO_some hE
     refine s0 (idxMn (f := TField.c) (n := s6_7) (TK rfl) rfl (TK rfl) rfl rfl rfl gx15) rfl ?_
     refine s0 (fieldVA (TK rfl) rfl rfl (TK rfl) rfl rfl) rfl ?_
     refine s0 (loadV (TK rfl) rfl rfl rfl) rfl ?_
     refine s0 moveA rfl ?_
     refine s0 (binS rfl rfl rfl) rfl ?_
     refine nil ?_
     refine hK14 _ ?_
     clear hK14 K14
     refine condE hE rfl (fun hc16 hE => ?_) (fun hc16 hE => ?_)
     ·refine seqK fun K17 hK17 => ?_
      refine region ?_
      refine s0 (fieldVA (TK rfl) rfl rfl (TK rfl) rfl rfl) rfl ?_
      refine s0 (loadV (TK rfl) rfl rfl rfl) rfl ?_
      refine s0 moveA rfl ?_
      obtain ⟨x18, gx18, hE⟩ := bindO_some hE
      refine s0 (idxMn (f := TField.c) (n := s6_7) (TK rfl) rfl (TK rfl) rfl rfl rfl gx18) rfl ?_
      refine s0 (loadV (TK rfl) rfl rfl rfl) rfl ?_
      refine sLn (storeLFA (TK rfl) rfl rfl rfl rfl rfl) ?_
      refine s0 assignA rfl ?_
      refine nil ?_
      refine hK17 _ ?_
      clear hK17 K17
      refine AWp.ret ?_
      repeat (first | refine xBlock_ret ?_ | refine xThen_ret ?_)
      obtain rfl := Option.some.inj hE
      refine retQ.retF H rfl ⟨rfl, rfl⟩ ?_
      exact (fun _ _ h => h)
     refine AWp.skip ?_
     refine hK13 _ ?_
     clear hK13 K13
     refine region ?_
     refine s0 moveA rfl ?_
     refine s0 (addIA rfl rfl) rfl ?_
     refine s0 assignA rfl ?_
     refine nil ?_
     exact hK6 _ (n6, (s6_7 + 1), y8_l0) Weak.toA hE (Nat.lt_succ_self _)
    refine AWp.exit ?_
    exact hK2 _ y8_l0 Weak.toA hE
 rintro y3_l0 hE
 try dsimp only at hE
 unfold Z59_j2 at hE
 refine seqK fun K4 hK4 => ?_
 refine region ?_
 refine s0 (build Tryz.tab_ok rfl rfl rfl rfl rfl rfl) rfl ?_
 refine sLn (storeLFA (TK rfl) rfl rfl rfl rfl rfl) ?_
 refine s0 assignA rfl ?_
 refine nil ?_
 refine hK4 _ ?_
 clear hK4 K4
 refine AWp.ret ?_
 repeat (first | refine xBlock_ret ?_ | refine xThen_ret ?_)
 obtain rfl := Option.some.inj hE
 refine retQ.retF H rfl ⟨rfl, rfl⟩ ?_
 exact (fun _ _ h => h)
def Z69 (a0 : TDoc) (a1 : Bs) (a2 : Bs) : Option (TRef × Bool) := (Z57 a0 a1).bind fun x4 => bif (!x4) then (some ((TRef.mk ([] : Bs) (Sl.nil : Sl Int)), false)) else (bif ((a2 == ([95, 95, 116, 121, 112, 101, 110, 97, 109, 101] : Bs))) then ((Z32 ([83, 116, 114, 105, 110, 103] : Bs)).bind fun x11 => (Z33 x11).bind fun x12 => some (x12, true)) else ((Z60 a0 a1).bind fun x14 => (Z59 x14.1 a2).bind fun x16 => some (x16.1.FType, x16.2)))
theorem Z69_walk {a0 : TDoc} {a1 : Bs} {a2 : Bs}   {r : (TRef × Bool)} (hE : Z69 a0 a1 a2 = some r) (H : Heap)  : ACalls Tryz.prog 100 [.agg (TDoc.c a0), .d (.str a1), .d (.str a2)] H fun v h' => v = .tup [.agg (TRef.c r.1), .d (.bool r.2)] ∧ h' = H := by
 unfold Z69 at hE
 refine ACalls.of_wp (fn := Tryz.f100) (c := _) Tryz.tab_ok (fun _ _ => Tryz.call100 _ _) Tryz.func100 rfl (n := 36) rfl (rs := [.cell 6 55, .tmp 7]) rfl rfl ?_
 refine seqK fun K1 hK1 => ?_
 refine region ?_
 refine s0 (boxV rfl) rfl ?_
 refine sL (allocLA (TK rfl) rfl) rfl ?_
 refine s0 assignA rfl ?_
 refine nil ?_
 refine hK1 _ ?_
 clear hK1 K1
 refine seqK fun K2 hK2 => ?_
 refine seqK fun K3 hK3 => ?_
 refine region ?_
 refine s0 (loadV (TK rfl) rfl rfl rfl) rfl ?_
 refine s0 moveA rfl ?_
 obtain ⟨x4, gx4, hE⟩ := bindO_some hE
 refine s0 (callP rfl rfl (fun H => Z57_walk gx4 H)) rfl ?_
 refine s0 (notB rfl) rfl ?_
 refine nil ?_
 refine hK3 _ ?_
 clear hK3 K3
 refine condE hE rfl (fun hc5 hE => ?_) (fun hc5 hE => ?_)
 ·refine seqK fun K6 hK6 => ?_
  refine region ?_
  refine s0 (build Tryz.tab_ok rfl rfl rfl rfl rfl rfl) rfl ?_
  refine sLn (storeLFA (TK rfl) rfl rfl rfl rfl rfl) ?_
  refine s0 assignA rfl ?_
  refine nil ?_
  refine hK6 _ ?_
  clear hK6 K6
  refine AWp.ret ?_
  repeat (first | refine xBlock_ret ?_ | refine xThen_ret ?_)
  obtain rfl := Option.some.inj hE
  refine retQ.retF H rfl ⟨rfl, rfl⟩ ?_
  exact (fun _ _ h => h)
 refine AWp.skip ?_
 refine hK2 _ ?_
 clear hK2 K2
 refine seqK fun K7 hK7 => ?_
 refine seqK fun K8 hK8 => ?_
 refine region ?_
 refine s0 moveA rfl ?_
 refine s0 (binS rfl rfl rfl) rfl ?_
 refine nil ?_
 refine hK8 _ ?_
 clear hK8 K8
 refine condE hE rfl (fun hc9 hE => ?_) (fun hc9 hE => ?_)
 ·refine seqK fun K10 hK10 => ?_
  refine region ?_
  obtain ⟨x11, gx11, hE⟩ := bindO_some hE
  refine s0 (callP rfl rfl (fun H => Z32_walk gx11 H)) rfl ?_
  obtain ⟨x12, gx12, hE⟩ := bindO_some hE
  refine s0 (callP rfl rfl (fun H => Z33_walk gx12 H)) rfl ?_
  refine sLn (storeLFA (TK rfl) rfl rfl rfl rfl rfl) ?_
  refine s0 assignA rfl ?_
  refine nil ?_
  refine hK10 _ ?_
  clear hK10 K10
  refine AWp.ret ?_
  repeat (first | refine xBlock_ret ?_ | refine xThen_ret ?_)
  obtain rfl := Option.some.inj hE
  refine retQ.retF H rfl ⟨rfl, rfl⟩ ?_
  exact (fun _ _ h => h)
 refine AWp.skip ?_
 refine hK7 _ ?_
 clear hK7 K7
 refine seqK fun K13 hK13 => ?_
 refine region ?_
 refine s0 (loadV (TK rfl) rfl rfl rfl) rfl ?_
 refine s0 moveA rfl ?_
 obtain ⟨x14, gx14, hE⟩ := bindO_some hE
 refine s0 (callP rfl rfl (fun H => Z60_walk gx14 H)) rfl ?_
 refine s0 moveA rfl ?_
 refine s0 (extract rfl rfl) rfl ?_
 refine s0 (extract rfl rfl) rfl ?_
 refine sL (allocLA (TK rfl) rfl) rfl ?_
 refine sLn (storeLFA (TK rfl) rfl rfl rfl rfl rfl) ?_
 refine s0 assignA rfl ?_
 refine nil ?_
 refine hK13 _ ?_
 clear hK13 K13
 refine freezeA 8 _ rfl (Keeps.c (k := 2) (by conv => lhs; whnf) (by rfl) (Keeps.c (k := 6) (by conv => lhs; whnf) (by rfl) Keeps.nil)) ?_
 refine seqK fun K15 hK15 => ?_
 refine region ?_
 refine s0 (loadV (TK rfl) rfl rfl rfl) rfl ?_
 refine s0 moveA rfl ?_
 obtain ⟨x16, gx16, hE⟩ := bindO_some hE
 refine s0 (callP rfl rfl (fun H => Z59_walk gx16 H)) rfl ?_
 refine s0 moveA rfl ?_
 refine s0 (extract rfl rfl) rfl ?_
 refine s0 (extract rfl rfl) rfl ?_
 refine sL (allocLA (TK rfl) rfl) rfl ?_
 refine sLn (storeLFA (TK rfl) rfl rfl rfl rfl rfl) ?_
 refine s0 assignA rfl ?_
 refine nil ?_
 refine hK15 _ ?_
 clear hK15 K15
 refine freezeA 10 _ rfl (Keeps.c (k := 6) (by conv => lhs; whnf) (by rfl) (Keeps.c (k := 11) (by conv => lhs; whnf) (by rfl) Keeps.nil)) ?_
 refine seqK fun K17 hK17 => ?_
 refine region ?_
 refine s0 (fieldVA (TK rfl) rfl rfl (TK rfl) rfl rfl) rfl ?_
 refine s0 (loadV (TK rfl) rfl rfl rfl) rfl ?_
 refine s0 moveA rfl ?_
 refine sLn (storeLFA (TK rfl) rfl rfl rfl rfl rfl) ?_
 refine s0 assignA rfl ?_
 refine nil ?_
 refine hK17 _ ?_
 clear hK17 K17
 refine AWp.ret ?_
 repeat (first | refine xBlock_ret ?_ | refine xThen_ret ?_)
 obtain rfl := Option.some.inj hE
 refine retQ.retF H rfl ⟨rfl, rfl⟩ ?_
 exact (fun _ _ h => h)
end Go.Proofs

namespace Go.Proofs
open Go Go.Ab
open AOps Cert AWp
def Z73_j10 (a0 : TDoc) (a1 : TSel) (a3 : Bs)  (s10_11 : (Sl TFault)) : Option ((Sl TFault) × Bs) := (Z72 a0 a1 true a3).bind fun x13 => (appC 24 s10_11 x13).bind fun x14 => some (x14, ([] : Bs))
def Z73_j24 (a0 : TDoc) (a1 : TSel) (a3 : Bs) (x6 : (TRef × Bool)) (s10_19 : (Sl TFault))  (y25_l0 : TField) : Option ((Sl TFault) × Bs) := (Z71 a0 y25_l0.FArgs a1.FArgs false a3).bind fun x27 => (appC 24 s10_19 x27).bind fun x28 => (Z30 x6.1).bind fun x30 => (Z72 a0 a1 x30 a3).bind fun x31 => (appC 24 x28 x31).bind fun x32 => (Z76 a0 x6.1.FName).bind fun x33 => some (x32, x33)
def Z73_j18 (a0 : TDoc) (a1 : TSel) (a2 : Bs) (a3 : Bs) (x6 : (TRef × Bool))  (s10_19 : (Sl TFault)) : Option ((Sl TFault) × Bs) := (Z60 a0 a2).bind fun x21 => (Z59 x21.1 a1.FName).bind fun x23 => bif ((a1.FName == ([95, 95, 116, 121, 112, 101, 110, 97, 109, 101] : Bs))) then (Z73_j24 a0 a1 a3 x6 s10_19  (TField.mk ([] : Bs) (Sl.nil : Sl TInput) TRef.zero (Sl.nil : Sl TDir))) else (Z73_j24 a0 a1 a3 x6 s10_19  x23.1)
def Z73_j3 (a0 : TDoc) (a1 : TSel) (a2 : Bs) (a3 : Bs)  (s10_4 : (Sl TFault)) : Option ((Sl TFault) × Bs) := (Z69 a0 a2 a1.FName).bind fun x6 => bif (!x6.2) then (bif (!(a2 == ([] : Bs))) then ((appC 24 s10_4 (⟨false, [(TFault.mk (20 : Int) a3)]⟩ : Sl TFault)).bind fun x17 => Z73_j10 a0 a1 a3  x17) else (Z73_j10 a0 a1 a3  s10_4)) else ((Z64 a0 x6.1.FName).bind fun x37 => guardO (!(x37 && (decide ((0 : Int) < ((a1.FSels.l.length : Nat) : Int))))) (Z57 a0 x6.1.FName) false fun x38 => bif ((x37 && (decide ((0 : Int) < ((a1.FSels.l.length : Nat) : Int)))) || (x38 && (decide (((a1.FSels.l.length : Nat) : Int) = (0 : Int))))) then ((appC 24 s10_4 (⟨false, [(TFault.mk (21 : Int) a3)]⟩ : Sl TFault)).bind fun x40 => Z73_j18 a0 a1 a2 a3 x6  x40) else (Z73_j18 a0 a1 a2 a3 x6  s10_4))
def Z73 (a0 : TDoc) (a1 : TSel) (a2 : Bs) (a3 : Bs) : Option ((Sl TFault) × Bs) := guardO ((!(a1.FAlias == ([] : Bs)))) (Z20 a1.FAlias) false fun x42 => bif ((!(a1.FAlias == ([] : Bs))) && x42) then ((appC 24 (Sl.nil : Sl TFault) (⟨false, [(TFault.mk (6 : Int) a3)]⟩ : Sl TFault)).bind fun x44 => Z73_j3 a0 a1 a2 a3  x44) else (Z73_j3 a0 a1 a2 a3  (Sl.nil : Sl TFault))
theorem Z73_walk {a0 : TDoc} {a1 : TSel} {a2 : Bs} {a3 : Bs}   {r : ((Sl TFault) × Bs)} (hE : Z73 a0 a1 a2 a3 = some r) (H : Heap)  : ACalls Tryz.prog 63 [.agg (TDoc.c a0), .agg (TSel.c a1), .d (.str a2), .d (.str a3)] H fun v h' => v = .tup [.d (Sl.d 2 TFault.c none r.1), .d (.str r.2)] ∧ h' = H := by
 unfold Z73 at hE
 refine ACalls.of_wp (fn := Tryz.f63) (c := _) Tryz.tab_ok (fun _ _ => Tryz.call63 _ _) Tryz.func63 rfl (n := 118) rfl (rs := [.tmp 8, .tmp 9]) rfl rfl ?_
 refine AWp.tok 2 fun tk1 htk1 => ?_
 refine seqK fun K1 hK1 => ?_
 refine region ?_
 refine s0 (boxV rfl) rfl ?_
 refine s0 (boxV rfl) rfl ?_
 refine s0 assignA rfl ?_
 refine s0 assignA rfl ?_
 refine nil ?_
 refine hK1 _ ?_
 clear hK1 K1
 refine seqK fun K2 hK2 => ?_
 refine region ?_
 refine s0 assignA rfl ?_
 refine nil ?_
 refine hK2 _ ?_
 clear hK2 K2
 refine AWp.nilTok 10 2 tk1 rfl hpG ?_
 refine seqJH (KeepsT.A (k := 2) (KeepsT.A (k := 3) (KeepsT.A (k := 4) (KeepsT.A (k := 5) KeepsT.nil)))) (fun (z : (Sl TFault)) => [(10, .a (.d (Sl.d 2 TFault.c (some tk1) z)))]) (fun z => (H.set tk1 (some (.tok 2 z.l.length)))) (fun z => Z73_j3 a0 a1 a2 a3 z = some r) ?_ ?_
 ·intro K3 hK3
  refine seqK fun K41 hK41 => ?_
  refine region ?_
  refine s0 (fieldVA (TK rfl) rfl rfl (TK rfl) rfl rfl) rfl ?_
  refine s0 (loadV (TK rfl) rfl rfl rfl) rfl ?_
  refine s0 (binS rfl rfl rfl) rfl ?_
  refine s0 moveA rfl ?_
  refine gC rfl rfl (fun hC => fieldVA (TK rfl) rfl rfl (TK rfl) rfl rfl) rfl ?_
  refine gC rfl rfl (fun hC => ungdA (k := 21) rfl (loadV (TK rfl) rfl rfl rfl)) rfl ?_
  obtain ⟨x42, gx42, hE⟩ := guardO_some hE
  refine gC rfl rfl (fun hC => ungdA (k := 22) rfl (callP rfl rfl (fun H => Z20_walk (gx42 hC) H))) rfl ?_
  refine s0 (pickAndA rfl rfl rfl) rfl ?_
  refine nil ?_
  refine hK41 _ ?_
  clear hK41 K41
  refine condE hE rfl (fun hc43 hE => ?_) (fun hc43 hE => ?_)
  ·refine region ?_
   refine s0 moveA rfl ?_
   refine s0 moveA rfl ?_
   refine s0 (build Tryz.tab_ok rfl rfl rfl rfl rfl rfl) rfl ?_
   refine s0 (buildSlice (TK rfl) rfl (TK rfl) rfl rfl rfl rfl rfl rfl) rfl ?_
   obtain ⟨x44, gx44, hE⟩ := bindO_some hE
   refine sH (appM (f := TFault.c) (TK rfl) rfl (TK rfl) (TK rfl) ⟨_, rfl⟩ rfl rfl (by decide) rfl rfl rfl rfl hpG rfl gx44) rfl ?_
   refine AOps.heq (h' := (H.set tk1 (some (.tok 2 x44.l.length)))) (by first | rfl | (rw [Heap.set_set]; rfl) | (funext n_; simp only [Heap.set]; (repeat' split) <;> first | rfl | (exfalso; simp_all; done) | (simp_all; done))) ?_
   refine s0 assignA rfl ?_
   refine nil ?_
   exact hK3 _ x44 Weak.toA hE
  refine AWp.skip ?_
  exact hK3 _ (Sl.nil : Sl TFault) Weak.toA hE
 rintro s10_4 hE
 try dsimp only at hE
 unfold Z73_j3 at hE
 refine seqK fun K5 hK5 => ?_
 refine region ?_
 refine s0 (loadV (TK rfl) rfl rfl rfl) rfl ?_
 refine s0 moveA rfl ?_
 refine s0 (fieldVA (TK rfl) rfl rfl (TK rfl) rfl rfl) rfl ?_
 refine s0 (loadV (TK rfl) rfl rfl rfl) rfl ?_
 obtain ⟨x6, gx6, hE⟩ := bindO_some hE
 refine s0 (callP rfl rfl (fun H => Z69_walk gx6 H)) rfl ?_
 refine s0 moveA rfl ?_
 refine s0 (extract rfl rfl) rfl ?_
 refine s0 (extract rfl rfl) rfl ?_
 refine sL (allocLA (TK rfl) rfl) rfl ?_
 refine sLn (storeLFA (TK rfl) rfl rfl rfl rfl rfl) ?_
 refine s0 assignA rfl ?_
 refine nil ?_
 refine hK5 _ ?_
 clear hK5 K5
 refine freezeA 11 _ rfl (Keeps.c (k := 2) (by conv => lhs; whnf) (by rfl) (Keeps.c (k := 3) (by conv => lhs; whnf) (by rfl) (Keeps.c (k := 4) (by conv => lhs; whnf) (by rfl) (Keeps.c (k := 5) (by conv => lhs; whnf) (by rfl) (Keeps.c (k := 10) (by conv => lhs; whnf) (by rfl) (Keeps.c (k := 12) (by conv => lhs; whnf) (by rfl) Keeps.nil)))))) ?_
 refine seqK fun K7 hK7 => ?_
 refine seqK fun K8 hK8 => ?_
 refine region ?_
 refine s0 moveA rfl ?_
 refine s0 (notB rfl) rfl ?_
 refine nil ?_
 refine hK8 _ ?_
 clear hK8 K8
 refine condE hE rfl (fun hc9 hE => ?_) (fun hc9 hE => ?_)
 ·refine seqJH (KeepsT.A (k := 3) (KeepsT.A (k := 4) (KeepsT.A (k := 5) KeepsT.nil))) (fun (z : (Sl TFault)) => [(10, .a (.d (Sl.d 2 TFault.c (some tk1) z)))]) (fun z => (H.set tk1 (some (.tok 2 z.l.length)))) (fun z => Z73_j10 a0 a1 a3 z = some r) ?_ ?_
  ·intro K10 hK10
   refine seqK fun K15 hK15 => ?_
   refine region ?_
   refine s0 moveA rfl ?_
   refine s0 (binS rfl rfl rfl) rfl ?_
   refine nil ?_
   refine hK15 _ ?_
   clear hK15 K15
   refine condE hE rfl (fun hc16 hE => ?_) (fun hc16 hE => ?_)
   ·refine region ?_
    refine s0 moveA rfl ?_
    refine s0 moveA rfl ?_
    refine s0 (build Tryz.tab_ok rfl rfl rfl rfl rfl rfl) rfl ?_
    refine s0 (buildSlice (TK rfl) rfl (TK rfl) rfl rfl rfl rfl rfl rfl) rfl ?_
    obtain ⟨x17, gx17, hE⟩ := bindO_some hE
    refine sH (appM (f := TFault.c) (TK rfl) rfl (TK rfl) (TK rfl) ⟨_, rfl⟩ rfl rfl (by decide) rfl rfl rfl rfl hpG rfl gx17) rfl ?_
    refine AOps.heq (h' := (H.set tk1 (some (.tok 2 x17.l.length)))) (by first | rfl | (rw [Heap.set_set]; rfl) | (funext n_; simp only [Heap.set]; (repeat' split) <;> first | rfl | (exfalso; simp_all; done) | (simp_all; done))) ?_
    refine s0 assignA rfl ?_
    refine nil ?_
    exact hK10 _ x17 Weak.toA hE
   refine AWp.skip ?_
   exact hK10 _ s10_4 Weak.toA hE
  rintro s10_11 hE
  try dsimp only at hE
  unfold Z73_j10 at hE
  refine seqK fun K12 hK12 => ?_
  refine region ?_
  refine s0 moveA rfl ?_
  refine s0 (loadV (TK rfl) rfl rfl rfl) rfl ?_
  refine s0 (loadV (TK rfl) rfl rfl rfl) rfl ?_
  refine s0 moveA rfl ?_
  obtain ⟨x13, gx13, hE⟩ := bindO_some hE
  refine s0 (callP rfl rfl (fun H => Z72_walk gx13 H)) rfl ?_
  obtain ⟨x14, gx14, hE⟩ := bindO_some hE
  refine sH (appM (f := TFault.c) (TK rfl) rfl (TK rfl) (TK rfl) ⟨_, rfl⟩ rfl rfl (by decide) rfl rfl rfl rfl hpG rfl gx14) rfl ?_
  refine AOps.heq (h' := (H.set tk1 (some (.tok 2 x14.l.length)))) (by first | rfl | (rw [Heap.set_set]; rfl) | (funext n_; simp only [Heap.set]; (repeat' split) <;> first | rfl | (exfalso; simp_all; done) | (simp_all; done))) ?_
  refine s0 assignA rfl ?_
  refine s0 assignA rfl ?_
  refine nil ?_
  refine hK12 _ ?_
  clear hK12 K12
  refine AWp.dropTok 8 rfl ?_
  refine AWp.ret ?_
  repeat (first | refine xBlock_ret ?_ | refine xThen_ret ?_)
  obtain rfl := Option.some.inj hE
  refine retQ.retF H rfl ⟨rfl, rfl⟩ ?_
  first | exact Heap.sub_set htk1 | (simp only [Heap.set_set]; exact Heap.sub_set htk1)
 refine AWp.skip ?_
 refine hK7 _ ?_
 clear hK7 K7
 refine seqJH (KeepsT.A (k := 2) (KeepsT.A (k := 3) (KeepsT.A (k := 4) (KeepsT.A (k := 5) (KeepsT.A (k := 11) KeepsT.nil))))) (fun (z : (Sl TFault)) => [(10, .a (.d (Sl.d 2 TFault.c (some tk1) z)))]) (fun z => (H.set tk1 (some (.tok 2 z.l.length)))) (fun z => Z73_j18 a0 a1 a2 a3 x6 z = some r) ?_ ?_
 ·intro K18 hK18
  refine seqK fun K36 hK36 => ?_
  refine region ?_
  refine s0 (loadV (TK rfl) rfl rfl rfl) rfl ?_
  refine s0 (fieldVA (TK rfl) rfl rfl (TK rfl) rfl rfl) rfl ?_
  refine s0 (loadV (TK rfl) rfl rfl rfl) rfl ?_
  obtain ⟨x37, gx37, hE⟩ := bindO_some hE
  refine s0 (callP rfl rfl (fun H => Z64_walk gx37 H)) rfl ?_
  refine s0 moveA rfl ?_
  refine gC rfl rfl (fun hC => fieldVA (TK rfl) rfl rfl (TK rfl) rfl rfl) rfl ?_
  refine gC rfl rfl (fun hC => ungdA (k := 58) rfl (loadV (TK rfl) rfl rfl (congrArg (fun x => some (A.d x)) (TSel.FSelsD_eq _)))) rfl ?_
  refine gC rfl rfl (fun hC => ungdA (k := 59) rfl (lenM' (f := TSel.c) (s := a1.FSels) (TK rfl) rfl rfl rfl)) rfl ?_
  refine gC rfl rfl (fun hC => ungdA (k := 60) rfl (binI rfl rfl rfl)) rfl ?_
  refine s0 (pickAndA rfl rfl rfl) rfl ?_
  refine s0 moveA rfl ?_
  refine gC rfl rfl (fun hC => loadV (TK rfl) rfl rfl rfl) rfl ?_
  refine gC rfl rfl (fun hC => fieldVA (TK rfl) rfl rfl (TK rfl) rfl rfl) rfl ?_
  refine gC rfl rfl (fun hC => ungdA (k := 65) rfl (loadV (TK rfl) rfl rfl rfl)) rfl ?_
  obtain ⟨x38, gx38, hE⟩ := guardO_some hE
  refine gC rfl rfl (fun hC => ungdA (k := 64) rfl (ungdA (k := 66) rfl (callP rfl rfl (fun H => Z57_walk (gx38 hC) H)))) rfl ?_
  refine gC rfl rfl (fun hC => ungdA (k := 67) rfl moveA) rfl ?_
  refine gC rfl rfl (fun hC => fieldVA (TK rfl) rfl rfl (TK rfl) rfl rfl) rfl ?_
  refine gC rfl rfl (fun hC => ungdA (k := 69) rfl (loadV (TK rfl) rfl rfl (congrArg (fun x => some (A.d x)) (TSel.FSelsD_eq _)))) rfl ?_
  refine gC rfl rfl (fun hC => ungdA (k := 70) rfl (lenM' (f := TSel.c) (s := a1.FSels) (TK rfl) rfl rfl rfl)) rfl ?_
  refine gC rfl rfl (fun hC => ungdA (k := 71) rfl (binI rfl rfl rfl)) rfl ?_
  refine gC rfl rfl (fun hC => ungdA (k := 68) rfl (pickAndA rfl rfl rfl)) rfl ?_
  refine s0 (pickOrA rfl rfl rfl) rfl ?_
  refine nil ?_
  refine hK36 _ ?_
  clear hK36 K36
  refine condE hE rfl (fun hc39 hE => ?_) (fun hc39 hE => ?_)
  ·refine region ?_
   refine s0 moveA rfl ?_
   refine s0 moveA rfl ?_
   refine s0 (build Tryz.tab_ok rfl rfl rfl rfl rfl rfl) rfl ?_
   refine s0 (buildSlice (TK rfl) rfl (TK rfl) rfl rfl rfl rfl rfl rfl) rfl ?_
   obtain ⟨x40, gx40, hE⟩ := bindO_some hE
   refine sH (appM (f := TFault.c) (TK rfl) rfl (TK rfl) (TK rfl) ⟨_, rfl⟩ rfl rfl (by decide) rfl rfl rfl rfl hpG rfl gx40) rfl ?_
   refine AOps.heq (h' := (H.set tk1 (some (.tok 2 x40.l.length)))) (by first | rfl | (rw [Heap.set_set]; rfl) | (funext n_; simp only [Heap.set]; (repeat' split) <;> first | rfl | (exfalso; simp_all; done) | (simp_all; done))) ?_
   refine s0 assignA rfl ?_
   refine nil ?_
   exact hK18 _ x40 Weak.toA hE
  refine AWp.skip ?_
  exact hK18 _ s10_4 Weak.toA hE
 rintro s10_19 hE
 try dsimp only at hE
 unfold Z73_j18 at hE
 refine seqK fun K20 hK20 => ?_
 refine region ?_
 refine s0 (loadV (TK rfl) rfl rfl rfl) rfl ?_
 refine s0 moveA rfl ?_
 obtain ⟨x21, gx21, hE⟩ := bindO_some hE
 refine s0 (callP rfl rfl (fun H => Z60_walk gx21 H)) rfl ?_
 refine s0 moveA rfl ?_
 refine s0 (extract rfl rfl) rfl ?_
 refine s0 (extract rfl rfl) rfl ?_
 refine sL (allocLA (TK rfl) rfl) rfl ?_
 refine sLn (storeLFA (TK rfl) rfl rfl rfl rfl rfl) ?_
 refine s0 assignA rfl ?_
 refine nil ?_
 refine hK20 _ ?_
 clear hK20 K20
 refine freezeA 13 _ rfl (Keeps.c (k := 3) (by conv => lhs; whnf) (by rfl) (Keeps.c (k := 4) (by conv => lhs; whnf) (by rfl) (Keeps.c (k := 5) (by conv => lhs; whnf) (by rfl) (Keeps.c (k := 10) (by conv => lhs; whnf) (by rfl) (Keeps.c (k := 11) (by conv => lhs; whnf) (by rfl) Keeps.nil))))) ?_
 refine seqK fun K22 hK22 => ?_
 refine region ?_
 refine s0 (loadV (TK rfl) rfl rfl rfl) rfl ?_
 refine s0 (fieldVA (TK rfl) rfl rfl (TK rfl) rfl rfl) rfl ?_
 refine s0 (loadV (TK rfl) rfl rfl rfl) rfl ?_
 obtain ⟨x23, gx23, hE⟩ := bindO_some hE
 refine s0 (callP rfl rfl (fun H => Z59_walk gx23 H)) rfl ?_
 refine s0 moveA rfl ?_
 refine s0 (extract rfl rfl) rfl ?_
 refine s0 (extract rfl rfl) rfl ?_
 refine sL (allocLA (TK rfl) rfl) rfl ?_
 refine sLn (storeLFA (TK rfl) rfl rfl rfl rfl rfl) ?_
 refine s0 assignA rfl ?_
 refine nil ?_
 refine hK22 _ ?_
 clear hK22 K22
 refine seqJ (KeepsT.A (k := 3) (KeepsT.A (k := 4) (KeepsT.A (k := 5) (KeepsT.A (k := 10) (KeepsT.A (k := 11) (KeepsT.A (k := 15) KeepsT.nil)))))) (fun (z : TField) => []) (fun z => [TField.c z]) (fun z => (H.set tk1 (some (.tok 2 s10_19.l.length)))) (fun z => Z73_j24 a0 a1 a3 x6 s10_19 z = some r) ?_ ?_
 ·intro K24 hK24
  refine seqK fun K34 hK34 => ?_
  refine region ?_
  refine s0 (fieldVA (TK rfl) rfl rfl (TK rfl) rfl rfl) rfl ?_
  refine s0 (loadV (TK rfl) rfl rfl rfl) rfl ?_
  refine s0 (binS rfl rfl rfl) rfl ?_
  refine nil ?_
  refine hK34 _ ?_
  clear hK34 K34
  refine condE hE rfl (fun hc35 hE => ?_) (fun hc35 hE => ?_)
  ·refine region ?_
   refine s0 (build Tryz.tab_ok rfl rfl rfl rfl rfl rfl) rfl ?_
   refine sLn (storeLFA (TK rfl) rfl rfl rfl rfl rfl) ?_
   refine nil ?_
   exact hK24 _ (TField.mk ([] : Bs) (Sl.nil : Sl TInput) TRef.zero (Sl.nil : Sl TDir)) Weak.toA hE
  refine AWp.skip ?_
  exact hK24 _ x23.1 Weak.toA hE
 rintro y25_l0 hE
 try dsimp only at hE
 unfold Z73_j24 at hE
 refine seqK fun K26 hK26 => ?_
 refine region ?_
 refine s0 moveA rfl ?_
 refine s0 (loadV (TK rfl) rfl rfl rfl) rfl ?_
 refine s0 (fieldL (TK rfl) rfl rfl (TK rfl) rfl rfl) rfl ?_
 refine s0 (loadL (TK rfl) rfl rfl rfl rfl) rfl ?_
 refine s0 (fieldVA (TK rfl) rfl rfl (TK rfl) rfl rfl) rfl ?_
 refine s0 (loadV (TK rfl) rfl rfl rfl) rfl ?_
 refine s0 moveA rfl ?_
 obtain ⟨x27, gx27, hE⟩ := bindO_some hE
 refine s0 (callP rfl rfl (fun H => Z71_walk gx27 H)) rfl ?_
 obtain ⟨x28, gx28, hE⟩ := bindO_some hE
 refine sH (appM (f := TFault.c) (TK rfl) rfl (TK rfl) (TK rfl) ⟨_, rfl⟩ rfl rfl (by decide) rfl rfl rfl rfl hpG rfl gx28) rfl ?_
 refine AOps.heq (h' := (H.set tk1 (some (.tok 2 x28.l.length)))) (by first | rfl | (rw [Heap.set_set]; rfl) | (funext n_; simp only [Heap.set]; (repeat' split) <;> first | rfl | (exfalso; simp_all; done) | (simp_all; done))) ?_
 refine s0 assignA rfl ?_
 refine nil ?_
 refine hK26 _ ?_
 clear hK26 K26
 refine seqK fun K29 hK29 => ?_
 refine AWp.draw rfl ?_
 refine DOps.s0 moveA rfl ?_
 refine DOps.s0 (loadV (TK rfl) rfl rfl rfl) rfl ?_
 refine DOps.s0 (loadV (TK rfl) rfl rfl rfl) rfl ?_
 refine DOps.s0 (loadV (TK rfl) rfl rfl rfl) rfl ?_
 obtain ⟨x30, gx30, hE⟩ := bindO_some hE
 refine DOps.s0 (callP rfl rfl (fun H => Z30_walk gx30 H)) rfl ?_
 refine DOps.s0 moveA rfl ?_
 obtain ⟨x31, gx31, hE⟩ := bindO_some hE
 refine DOps.s0 (callP rfl rfl (fun H => Z72_walk gx31 H)) rfl ?_
 obtain ⟨x32, gx32, hE⟩ := bindO_some hE
 refine DOps.sH (appM (f := TFault.c) (TK rfl) rfl (TK rfl) (TK rfl) ⟨_, rfl⟩ rfl rfl (by decide) rfl rfl rfl rfl hpG rfl gx32) rfl ?_
 refine DOps.heq (h' := (H.set tk1 (some (.tok 2 x32.l.length)))) (by first | rfl | (rw [Heap.set_set]; rfl) | (funext n_; simp only [Heap.set]; (repeat' split) <;> first | rfl | (exfalso; simp_all; done) | (simp_all; done))) ?_
 refine DOps.s0 (loadV (TK rfl) rfl rfl rfl) rfl ?_
 refine DOps.s0 (fieldVA (TK rfl) rfl rfl (TK rfl) rfl rfl) rfl ?_
 refine DOps.s0 (loadV (TK rfl) rfl rfl rfl) rfl ?_
 obtain ⟨x33, gx33, hE⟩ := bindO_some hE
 refine DOps.s0 (callP rfl rfl (fun H => Z76_walk gx33 H)) rfl ?_
 refine DOps.s0 assignA rfl ?_
 refine DOps.s0 assignA rfl ?_
 refine DOps.nil (by decide +kernel) ?_
 refine hK29 _ ?_
 clear hK29 K29
 refine AWp.dropTok 8 rfl ?_
 refine AWp.ret ?_
 repeat (first | refine xBlock_ret ?_ | refine xThen_ret ?_)
 obtain rfl := Option.some.inj hE
 refine retQ.retF H rfl ⟨rfl, rfl⟩ ?_
 first | exact Heap.sub_set htk1 | (simp only [Heap.set_set]; exact Heap.sub_set htk1)
def Z80_j3  (s9_4 : (Sl TFault)) : Option (Sl TFault) := some s9_4
def Z80_j14 (s10_9 : Nat) (k_next_7 : (Sl TFault) → Nat → Option (Sl TFault)) (s9_15 : (Sl TFault)) : Option (Sl TFault) := k_next_7 s9_15 (s10_9 + 1)
def Z80_j29 (a0 : TDoc) (a3 : Bs) (s10_9 : Nat) (x17 : TSel) (x27 : (Sl TFault)) (k_next_7 : (Sl TFault) → Nat → Option (Sl TFault)) (k_rec_31 : TDoc → (Sl TSel) → Bs → Bs → Option (Sl TFault)) (s12_30 : Bs) : Option (Sl TFault) := (k_rec_31 a0 x17.FSels s12_30 a3).bind fun x31 => (appC 24 x27 x31).bind fun x32 => Z80_j14 s10_9 k_next_7 x32
def Z80_l7 (a0 : TDoc) (a1 : (Sl TSel)) (a2 : Bs) (a3 : Bs) (k_rec_31 : TDoc → (Sl TSel) → Bs → Bs → Option (Sl TFault)) : Nat → (Sl TFault) → Nat → Option (Sl TFault)
 | 0, _, _ => none
 | n7 + 1, s9_8, s10_9 => bif (decide (((s10_9 : Nat) : Int) < ((a1.l.length : Nat) : Int))) then ((a1.l[s10_9]?).bind fun x17 => bif (decide (x17.FKind = (2 : Int))) then ((Z72 a0 x17 true a3).bind fun x21 => (appC 24 s9_8 x21).bind fun x22 => Z80_j14 s10_9 ((Z80_l7 a0 a1 a2 a3 k_rec_31 n7)) x22) else (bif (decide (x17.FKind = (3 : Int))) then ((Z72 a0 x17 true a3).bind fun x26 => (appC 24 s9_8 x26).bind fun x27 => bif (!(x17.FOn == ([] : Bs))) then ((Z76 a0 x17.FOn).bind fun x35 => Z80_j29 a0 a3 s10_9 x17 x27 ((Z80_l7 a0 a1 a2 a3 k_rec_31 n7)) k_rec_31 x35) else (Z80_j29 a0 a3 s10_9 x17 x27 ((Z80_l7 a0 a1 a2 a3 k_rec_31 n7)) k_rec_31 a2)) else ((catC a3 ([47] : Bs)).bind fun x37 => (Z68 x17).bind fun x38 => (catC x37 x38).bind fun x39 => (Z73 a0 x17 a2 x39).bind fun x41 => (appC 24 s9_8 x41.1).bind fun x43 => (k_rec_31 a0 x17.FSels x41.2 x39).bind fun x44 => (appC 24 x43 x44).bind fun x45 => Z80_j14 s10_9 ((Z80_l7 a0 a1 a2 a3 k_rec_31 n7)) x45))) else (Z80_j3   s9_8)
def Z80_n : Nat → TDoc → (Sl TSel) → Bs → Bs → Option (Sl TFault)
 | 0, _, _, _, _ => none
 | n + 1, a0, a1, a2, a3 => Z80_l7 a0 a1 a2 a3 (Z80_n n) (a1.l.length + 1) (Sl.nil : Sl TFault) 0
theorem Z80_step (n : Nat) (ih_31 : ∀ {a0 : TDoc} {a1 : (Sl TSel)} {a2 : Bs} {a3 : Bs} {w1 : Option Nat}  {r : (Sl TFault)}, Z80_n n a0 a1 a2 a3 = some r → ∀ (H : Heap), ACalls Tryz.prog 31 [.agg (TDoc.c a0), .d (Sl.d 7 TSel.c w1 a1), .d (.str a2), .d (.str a3)] H fun v h' => v = .a (.d (Sl.d 2 TFault.c none r)) ∧ h' = H) : ∀ {a0 : TDoc} {a1 : (Sl TSel)} {a2 : Bs} {a3 : Bs} {w1 : Option Nat}  {r : (Sl TFault)}, Z80_n (n + 1) a0 a1 a2 a3 = some r → ∀ (H : Heap), ACalls Tryz.prog 31 [.agg (TDoc.c a0), .d (Sl.d 7 TSel.c w1 a1), .d (.str a2), .d (.str a3)] H fun v h' => v = .a (.d (Sl.d 2 TFault.c none r)) ∧ h' = H := by
 intro a0 a1 a2 a3 w1  r hE H 
 rw [Z80_n] at hE
 refine ACalls.of_wp (fn := Tryz.f31) (c := _) Tryz.tab_ok (fun _ _ => Tryz.call31 _ _) Tryz.func31 rfl (n := 85) rfl (rs := [.tmp 8]) rfl rfl ?_
 refine AWp.tok 2 fun tk1 htk1 => ?_
 refine seqK fun K1 hK1 => ?_
 refine region ?_
 refine s0 (boxV rfl) rfl ?_
 refine s0 assignA rfl ?_
 refine nil ?_
 refine hK1 _ ?_
 clear hK1 K1
 refine seqK fun K2 hK2 => ?_
 refine region ?_
 refine s0 assignA rfl ?_
 refine nil ?_
 refine hK2 _ ?_
 clear hK2 K2
 refine AWp.nilTok 9 2 tk1 rfl hpG ?_
 refine seqJH KeepsT.nil (fun (z : (Sl TFault)) => [(9, .a (.d (Sl.d 2 TFault.c (some tk1) z)))]) (fun z => (H.set tk1 (some (.tok 2 z.l.length)))) (fun z => Z80_j3 z = some r) ?_ ?_
 ·intro K3 hK3
  refine seqK fun K6 hK6 => ?_
  refine region ?_
  refine s0 assignA rfl ?_
  refine nil ?_
  refine hK6 _ ?_
  clear hK6 K6
  refine block ?_
  refine loopH (KeepsT.A (k := 1) (KeepsT.A (k := 2) (KeepsT.A (k := 3) (KeepsT.A (k := 4) KeepsT.nil)))) (fun (z : Nat × (Sl TFault) × Nat) => [(9, .a (.d (Sl.d 2 TFault.c (some tk1) z.2.1))), (10, .a (.d (.int .i64 ((z.2.2 : Nat) : Int))))]) (fun z => (H.set tk1 (some (.tok 2 z.2.1.l.length)))) (fun z => z.1) (fun z => Z80_l7 a0 a1 a2 a3 (Z80_n n) z.1 z.2.1 z.2.2 = some r) ((a1.l.length + 1), (Sl.nil : Sl TFault), 0) hE Weak.toA ?_
  rintro ⟨n7, s9_8, s10_9⟩ hE K7 hK7
  try dsimp only at hE
  cases n7 with
  | zero => cases hE
  | succ n7 =>
    rw [Z80_l7] at hE
    refine seqK fun K10 hK10 => ?_
    refine seqK fun K11 hK11 => ?_
    refine region ?_
    refine s0 moveA rfl ?_
    refine s0 moveA rfl ?_
    refine sLen (f := TSel.c) (s := a1) (TK rfl) rfl rfl rfl rfl fun hL12 => ?_
    refine s0 (binI rfl rfl rfl) rfl ?_
    refine nil ?_
    refine hK11 _ ?_
    clear hK11 K11
    refine condE hE rfl (fun hc13 hE => ?_) (fun hc13 hE => ?_)
    ·try dsimp only at hc13
     have hf13 := of_decide_eq_true hc13
     refine AWp.skip ?_
     refine hK10 _ ?_
     clear hK10 K10
     refine seqJH (KeepsT.A (k := 1) (KeepsT.A (k := 2) (KeepsT.A (k := 3) (KeepsT.A (k := 4) (KeepsT.A (k := 10) KeepsT.nil))))) (fun (z : (Sl TFault)) => [(9, .a (.d (Sl.d 2 TFault.c (some tk1) z)))]) (fun z => (H.set tk1 (some (.tok 2 z.l.length)))) (fun z => Z80_j14 s10_9 ((Z80_l7 a0 a1 a2 a3 (Z80_n n) n7)) z = some r) ?_ ?_
     ·intro K14 hK14
      refine block ?_
      refine seqK fun K16 hK16 => ?_
      refine region ?_
      refine s0 moveA rfl ?_
      refine s0 moveA rfl ?_
      obtain ⟨x17, gx17, hE⟩ := bindO_some hE
      refine s0 (idxMn (f := TSel.c) (n := s10_9) (TK rfl) rfl (TK rfl) rfl rfl rfl gx17) rfl ?_
      refine s0 (loadV (TK rfl) rfl rfl rfl) rfl ?_
      refine sL (allocLA (TK rfl) rfl) rfl ?_
      refine sLn (storeLFA (TK rfl) rfl rfl rfl rfl rfl) ?_
      refine nil ?_
      refine hK16 _ ?_
      clear hK16 K16
      refine freezeA 11 _ rfl (Keeps.c (k := 1) (by conv => lhs; whnf) (by rfl) (Keeps.c (k := 2) (by conv => lhs; whnf) (by rfl) (Keeps.c (k := 3) (by conv => lhs; whnf) (by rfl) (Keeps.c (k := 4) (by conv => lhs; whnf) (by rfl) (Keeps.c (k := 9) (by conv => lhs; whnf) (by rfl) (Keeps.c (k := 10) (by conv => lhs; whnf) (by rfl) Keeps.nil)))))) ?_
      refine seqK fun K18 hK18 => ?_
      refine region ?_
      refine s0 (fieldVA (TK rfl) rfl rfl (TK rfl) rfl rfl) rfl ?_
      refine s0 (loadV (TK rfl) rfl rfl rfl) rfl ?_
      refine nil ?_
      refine hK18 _ ?_
      clear hK18 K18
      refine block ?_
      refine seqK fun K19 hK19 => ?_
      refine region ?_
      refine s0 (binI rfl rfl rfl) rfl ?_
      refine s0 assignA rfl ?_
      refine nil ?_
      refine hK19 _ ?_
      clear hK19 K19
      refine condE hE rfl (fun hc20 hE => ?_) (fun hc20 hE => ?_)
      ·refine region ?_
       refine s0 moveA rfl ?_
       refine s0 (loadV (TK rfl) rfl rfl rfl) rfl ?_
       refine s0 (loadV (TK rfl) rfl rfl rfl) rfl ?_
       refine s0 moveA rfl ?_
       obtain ⟨x21, gx21, hE⟩ := bindO_some hE
       refine s0 (callP rfl rfl (fun H => Z72_walk gx21 H)) rfl ?_
       obtain ⟨x22, gx22, hE⟩ := bindO_some hE
       refine sH (appM (f := TFault.c) (TK rfl) rfl (TK rfl) (TK rfl) ⟨_, rfl⟩ rfl rfl (by decide) rfl rfl rfl rfl hpG rfl gx22) rfl ?_
       refine AOps.heq (h' := (H.set tk1 (some (.tok 2 x22.l.length)))) (by first | rfl | (rw [Heap.set_set]; rfl) | (funext n_; simp only [Heap.set]; (repeat' split) <;> first | rfl | (exfalso; simp_all; done) | (simp_all; done))) ?_
       refine s0 assignA rfl ?_
       refine nil ?_
       exact hK14 _ x22 Weak.toA hE
      refine seqK fun K23 hK23 => ?_
      refine region ?_
      refine s0 (binI rfl rfl rfl) rfl ?_
      refine s0 assignA rfl ?_
      refine nil ?_
      refine hK23 _ ?_
      clear hK23 K23
      refine condE hE rfl (fun hc24 hE => ?_) (fun hc24 hE => ?_)
      ·refine seqK fun K25 hK25 => ?_
       refine region ?_
       refine s0 moveA rfl ?_
       refine s0 (loadV (TK rfl) rfl rfl rfl) rfl ?_
       refine s0 (loadV (TK rfl) rfl rfl rfl) rfl ?_
       refine s0 moveA rfl ?_
       obtain ⟨x26, gx26, hE⟩ := bindO_some hE
       refine s0 (callP rfl rfl (fun H => Z72_walk gx26 H)) rfl ?_
       obtain ⟨x27, gx27, hE⟩ := bindO_some hE
       refine sH (appM (f := TFault.c) (TK rfl) rfl (TK rfl) (TK rfl) ⟨_, rfl⟩ rfl rfl (by decide) rfl rfl rfl rfl hpG rfl gx27) rfl ?_
       refine AOps.heq (h' := (H.set tk1 (some (.tok 2 x27.l.length)))) (by first | rfl | (rw [Heap.set_set]; rfl) | (funext n_; simp only [Heap.set]; (repeat' split) <;> first | rfl | (exfalso; simp_all; done) | (simp_all; done))) ?_
       refine s0 assignA rfl ?_
       refine nil ?_
       refine hK25 _ ?_
       clear hK25 K25
       refine seqK fun K28 hK28 => ?_
       refine region ?_
       refine s0 moveA rfl ?_
       refine s0 assignA rfl ?_
       refine nil ?_
       refine hK28 _ ?_
       clear hK28 K28
       refine seqJH (KeepsT.A (k := 1) (KeepsT.A (k := 2) (KeepsT.A (k := 3) (KeepsT.A (k := 4) (KeepsT.A (k := 9) (KeepsT.A (k := 10) (KeepsT.A (k := 11) KeepsT.nil))))))) (fun (z : Bs) => [(12, .a (.d (.str z)))]) (fun z => (H.set tk1 (some (.tok 2 x27.l.length)))) (fun z => Z80_j29 a0 a3 s10_9 x17 x27 ((Z80_l7 a0 a1 a2 a3 (Z80_n n) n7)) (Z80_n n) z = some r) ?_ ?_
       ·intro K29 hK29
        refine seqK fun K33 hK33 => ?_
        refine region ?_
        refine s0 (fieldVA (TK rfl) rfl rfl (TK rfl) rfl rfl) rfl ?_
        refine s0 (loadV (TK rfl) rfl rfl rfl) rfl ?_
        refine s0 (binS rfl rfl rfl) rfl ?_
        refine nil ?_
        refine hK33 _ ?_
        clear hK33 K33
        refine condE hE rfl (fun hc34 hE => ?_) (fun hc34 hE => ?_)
        ·refine region ?_
         refine s0 (loadV (TK rfl) rfl rfl rfl) rfl ?_
         refine s0 (fieldVA (TK rfl) rfl rfl (TK rfl) rfl rfl) rfl ?_
         refine s0 (loadV (TK rfl) rfl rfl rfl) rfl ?_
         obtain ⟨x35, gx35, hE⟩ := bindO_some hE
         refine s0 (callP rfl rfl (fun H => Z76_walk gx35 H)) rfl ?_
         refine s0 assignA rfl ?_
         refine nil ?_
         exact hK29 _ x35 Weak.toA hE
        refine AWp.skip ?_
        exact hK29 _ a2 Weak.toA hE
       rintro s12_30 hE
       try dsimp only at hE
       unfold Z80_j29 at hE
       refine region ?_
       refine s0 moveA rfl ?_
       refine s0 (loadV (TK rfl) rfl rfl rfl) rfl ?_
       refine s0 (fieldVA (TK rfl) rfl rfl (TK rfl) rfl rfl) rfl ?_
       refine s0 (loadV (TK rfl) rfl rfl (congrArg (fun x => some (A.d x)) (TSel.FSelsD_eq _))) rfl ?_
       refine s0 moveA rfl ?_
       refine s0 moveA rfl ?_
       obtain ⟨x31, gx31, hE⟩ := bindO_some hE
       refine s0 (callP rfl rfl (fun H => ih_31 gx31 H)) rfl ?_
       obtain ⟨x32, gx32, hE⟩ := bindO_some hE
       refine sH (appM (f := TFault.c) (TK rfl) rfl (TK rfl) (TK rfl) ⟨_, rfl⟩ rfl rfl (by decide) rfl rfl rfl rfl hpG rfl gx32) rfl ?_
       refine AOps.heq (h' := (H.set tk1 (some (.tok 2 x32.l.length)))) (by first | rfl | (rw [Heap.set_set]; rfl) | (funext n_; simp only [Heap.set]; (repeat' split) <;> first | rfl | (exfalso; simp_all; done) | (simp_all; done))) ?_
       refine s0 assignA rfl ?_
       refine nil ?_
       exact hK14 _ x32 Weak.toA hE
      refine seqK fun K36 hK36 => ?_
      refine region ?_
      refine s0 moveA rfl ?_
      obtain ⟨x37, gx37, hE⟩ := bindO_some hE
      refine s0 (catM rfl rfl gx37) rfl ?_
      refine s0 (loadV (TK rfl) rfl rfl rfl) rfl ?_
      obtain ⟨x38, gx38, hE⟩ := bindO_some hE
      refine s0 (callP rfl rfl (fun H => Z68_walk gx38 H)) rfl ?_
      obtain ⟨x39, gx39, hE⟩ := bindO_some hE
      refine s0 (catM rfl rfl gx39) rfl ?_
      refine s0 assignA rfl ?_
      refine nil ?_
      refine hK36 _ ?_
      clear hK36 K36
      refine seqK fun K40 hK40 => ?_
      refine region ?_
      refine s0 (loadV (TK rfl) rfl rfl rfl) rfl ?_
      refine s0 (loadV (TK rfl) rfl rfl rfl) rfl ?_
      refine s0 moveA rfl ?_
      refine s0 moveA rfl ?_
      obtain ⟨x41, gx41, hE⟩ := bindO_some hE
      refine s0 (callP rfl rfl (fun H => Z73_walk gx41 H)) rfl ?_
      refine s0 moveA rfl ?_
      refine s0 (extract rfl rfl) rfl ?_
      refine s0 (extract rfl rfl) rfl ?_
      refine s0 assignA rfl ?_
      refine s0 assignA rfl ?_
      refine nil ?_
      refine hK40 _ ?_
      clear hK40 K40
      refine seqK fun K42 hK42 => ?_
      refine region ?_
      refine s0 moveA rfl ?_
      refine s0 moveA rfl ?_
      obtain ⟨x43, gx43, hE⟩ := bindO_some hE
      refine sH (appM (f := TFault.c) (TK rfl) rfl (TK rfl) (TK rfl) ⟨_, rfl⟩ rfl rfl (by decide) rfl rfl rfl rfl hpG rfl gx43) rfl ?_
      refine AOps.heq (h' := (H.set tk1 (some (.tok 2 x43.l.length)))) (by first | rfl | (rw [Heap.set_set]; rfl) | (funext n_; simp only [Heap.set]; (repeat' split) <;> first | rfl | (exfalso; simp_all; done) | (simp_all; done))) ?_
      refine s0 assignA rfl ?_
      refine nil ?_
      refine hK42 _ ?_
      clear hK42 K42
      refine region ?_
      refine s0 moveA rfl ?_
      refine s0 (loadV (TK rfl) rfl rfl rfl) rfl ?_
      refine s0 (fieldVA (TK rfl) rfl rfl (TK rfl) rfl rfl) rfl ?_
      refine s0 (loadV (TK rfl) rfl rfl (congrArg (fun x => some (A.d x)) (TSel.FSelsD_eq _))) rfl ?_
      refine s0 moveA rfl ?_
      refine s0 moveA rfl ?_
      obtain ⟨x44, gx44, hE⟩ := bindO_some hE
      refine s0 (callP rfl rfl (fun H => ih_31 gx44 H)) rfl ?_
      obtain ⟨x45, gx45, hE⟩ := bindO_some hE
      refine sH (appM (f := TFault.c) (TK rfl) rfl (TK rfl) (TK rfl) ⟨_, rfl⟩ rfl rfl (by decide) rfl rfl rfl rfl hpG rfl gx45) rfl ?_
      refine AOps.heq (h' := (H.set tk1 (some (.tok 2 x45.l.length)))) (by first | rfl | (rw [Heap.set_set]; rfl) | (funext n_; simp only [Heap.set]; (repeat' split) <;> first | rfl | (exfalso; simp_all; done) | (simp_all; done))) ?_
      refine s0 assignA rfl ?_
      refine nil ?_
      exact hK14 _ x45 Weak.toA hE
     rintro s9_15 hE
     try dsimp only at hE
     unfold Z80_j14 at hE
     refine region ?_
     refine s0 moveA rfl ?_
     refine s0 (addIA rfl rfl) rfl ?_
     refine s0 assignA rfl ?_
     refine nil ?_
     exact hK7 _ (n7, s9_15, (s10_9 + 1)) Weak.toA hE (Nat.lt_succ_self _)
    refine AWp.exit ?_
    exact hK3 _ s9_8 Weak.toA hE
 rintro s9_4 hE
 try dsimp only at hE
 unfold Z80_j3 at hE
 refine seqK fun K5 hK5 => ?_
 refine region ?_
 refine s0 moveA rfl ?_
 refine s0 assignA rfl ?_
 refine nil ?_
 refine hK5 _ ?_
 clear hK5 K5
 refine AWp.dropTok 8 rfl ?_
 refine AWp.ret ?_
 repeat (first | refine xBlock_ret ?_ | refine xThen_ret ?_)
 obtain rfl := Option.some.inj hE
 refine retQ.retF H rfl ⟨rfl, rfl⟩ ?_
 first | exact Heap.sub_set htk1 | (simp only [Heap.set_set]; exact Heap.sub_set htk1)
theorem Z80_all : ∀ (n : Nat), (∀ {a0 : TDoc} {a1 : (Sl TSel)} {a2 : Bs} {a3 : Bs} {w1 : Option Nat}  {r : (Sl TFault)}, Z80_n n a0 a1 a2 a3 = some r → ∀ (H : Heap), ACalls Tryz.prog 31 [.agg (TDoc.c a0), .d (Sl.d 7 TSel.c w1 a1), .d (.str a2), .d (.str a3)] H fun v h' => v = .a (.d (Sl.d 2 TFault.c none r)) ∧ h' = H)
 | 0 => fun hE => by first | cases hE | (rw [Z80_n] at hE; cases hE)
 | n + 1 => Z80_step n (Z80_all n)
def Z80 (a0 : TDoc) (a1 : (Sl TSel)) (a2 : Bs) (a3 : Bs) : Option (Sl TFault) := Z80_n F0 a0 a1 a2 a3
theorem Z80_walk {a0 : TDoc} {a1 : (Sl TSel)} {a2 : Bs} {a3 : Bs} {w1 : Option Nat}  {r : (Sl TFault)} (hE : Z80 a0 a1 a2 a3 = some r) (H : Heap)  : ACalls Tryz.prog 31 [.agg (TDoc.c a0), .d (Sl.d 7 TSel.c w1 a1), .d (.str a2), .d (.str a3)] H fun v h' => v = .a (.d (Sl.d 2 TFault.c none r)) ∧ h' = H := (Z80_all F0) hE H 
def Z67_j5  (s5_6 : (Sl TFault)) : Option (Sl TFault) := some s5_6
def Z67_l9 (a0 : TDoc) (a1 : TQuery)  : Nat → (Sl TFault) → Nat → Option (Sl TFault)
 | 0, _, _ => none
 | n9 + 1, s5_10, s13_11 => bif (decide (((s13_11 : Nat) : Int) < ((a1.FFrags.l.length : Nat) : Int))) then ((a1.FFrags.l[s13_11]?).bind fun x18 => (Z76 a0 x18.FOn).bind fun x19 => (Z80 a0 x18.FSels x19 x18.FName).bind fun x20 => (appC 24 s5_10 x20).bind fun x21 => (Z67_l9 a0 a1 n9) x21 (s13_11 + 1)) else (Z67_j5   s5_10)
def Z67_j3 (a0 : TDoc) (a1 : TQuery)  (s5_4 : (Sl TFault)) : Option (Sl TFault) := Z67_l9 a0 a1 (a1.FFrags.l.length + 1) s5_4 0
def Z67_j30 (s6_25 : Nat) (k_next_23 : (Sl TFault) → Nat → Option (Sl TFault)) (s5_31 : (Sl TFault)) : Option (Sl TFault) := k_next_23 s5_31 (s6_25 + 1)
def Z67_j42 (a0 : TDoc) (s6_25 : Nat) (x33 : TOp) (x35 : Bs) (k_next_23 : (Sl TFault) → Nat → Option (Sl TFault)) (s5_43 : (Sl TFault)) : Option (Sl TFault) := (Z76 a0 x35).bind fun x44 => (Z80 a0 x33.FSels x44 x33.FName).bind fun x45 => (appC 24 s5_43 x45).bind fun x46 => Z67_j30 s6_25 k_next_23 x46
def Z67_l23 (a0 : TDoc) (a1 : TQuery)  : Nat → (Sl TFault) → Nat → Option (Sl TFault)
 | 0, _, _ => none
 | n23 + 1, s5_24, s6_25 => bif (decide (((s6_25 : Nat) : Int) < ((a1.FOps.l.length : Nat) : Int))) then ((a1.FOps.l[s6_25]?).bind fun x33 => (Z65 x33.FKind).bind fun x35 => (Z60 a0 x35).bind fun x37 => (Z79 a1 x33.FSels (Sl.nil : Sl Bs) (Sl.nil : Sl Bs)).bind fun x41 => bif ((!decide (x37.1.FKind = (1 : Int))) || ((decide (x33.FKind = (3 : Int))) && (!decide (((x41.1.l.length : Nat) : Int) = (1 : Int))))) then ((appC 24 s5_24 (⟨false, [(TFault.mk (30 : Int) x33.FName)]⟩ : Sl TFault)).bind fun x49 => Z67_j42 a0 s6_25 x33 x35 ((Z67_l23 a0 a1 n23)) x49) else (Z67_j42 a0 s6_25 x33 x35 ((Z67_l23 a0 a1 n23)) s5_24)) else (Z67_j3 a0 a1  s5_24)
def Z67 (a0 : TDoc) (a1 : TQuery) : Option (Sl TFault) := Z67_l23 a0 a1 (a1.FOps.l.length + 1) (Sl.nil : Sl TFault) 0
theorem Z67_walk {a0 : TDoc} {a1 : TQuery}   {r : (Sl TFault)} (hE : Z67 a0 a1 = some r) (H : Heap)  : ACalls Tryz.prog 9 [.agg (TDoc.c a0), .agg (TQuery.c a1)] H fun v h' => v = .a (.d (Sl.d 2 TFault.c none r)) ∧ h' = H := by
 unfold Z67 at hE
 refine ACalls.of_wp (fn := Tryz.f9) (c := _) Tryz.tab_ok (fun _ _ => Tryz.call9 _ _) Tryz.func9 rfl (n := 98) rfl (rs := [.tmp 4]) rfl rfl ?_
 refine AWp.tok 2 fun tk1 htk1 => ?_
 refine seqK fun K1 hK1 => ?_
 refine region ?_
 refine s0 (boxV rfl) rfl ?_
 refine s0 (boxV rfl) rfl ?_
 refine s0 assignA rfl ?_
 refine nil ?_
 refine hK1 _ ?_
 clear hK1 K1
 refine seqK fun K2 hK2 => ?_
 refine region ?_
 refine s0 assignA rfl ?_
 refine nil ?_
 refine hK2 _ ?_
 clear hK2 K2
 refine AWp.nilTok 5 2 tk1 rfl hpG ?_
 refine seqJH (KeepsT.A (k := 2) (KeepsT.A (k := 3) KeepsT.nil)) (fun (z : (Sl TFault)) => [(5, .a (.d (Sl.d 2 TFault.c (some tk1) z)))]) (fun z => (H.set tk1 (some (.tok 2 z.l.length)))) (fun z => Z67_j3 a0 a1 z = some r) ?_ ?_
 ·intro K3 hK3
  refine seqK fun K22 hK22 => ?_
  refine region ?_
  refine s0 assignA rfl ?_
  refine nil ?_
  refine hK22 _ ?_
  clear hK22 K22
  refine block ?_
  refine loopH (KeepsT.A (k := 2) (KeepsT.A (k := 3) KeepsT.nil)) (fun (z : Nat × (Sl TFault) × Nat) => [(5, .a (.d (Sl.d 2 TFault.c (some tk1) z.2.1))), (6, .a (.d (.int .i64 ((z.2.2 : Nat) : Int))))]) (fun z => (H.set tk1 (some (.tok 2 z.2.1.l.length)))) (fun z => z.1) (fun z => Z67_l23 a0 a1 z.1 z.2.1 z.2.2 = some r) ((a1.FOps.l.length + 1), (Sl.nil : Sl TFault), 0) hE Weak.toA ?_
  rintro ⟨n23, s5_24, s6_25⟩ hE K23 hK23
  try dsimp only at hE
  cases n23 with
  | zero => cases hE
  | succ n23 =>
    rw [Z67_l23] at hE
    refine seqK fun K26 hK26 => ?_
    refine seqK fun K27 hK27 => ?_
    refine region ?_
    refine s0 moveA rfl ?_
    refine s0 (fieldVA (TK rfl) rfl rfl (TK rfl) rfl rfl) rfl ?_
    refine s0 (loadV (TK rfl) rfl rfl rfl) rfl ?_
    refine sLen (f := TOp.c) (s := a1.FOps) (TK rfl) rfl rfl rfl rfl fun hL28 => ?_
    refine s0 (binI rfl rfl rfl) rfl ?_
    refine nil ?_
    refine hK27 _ ?_
    clear hK27 K27
    refine condE hE rfl (fun hc29 hE => ?_) (fun hc29 hE => ?_)
    ·try dsimp only at hc29
     have hf29 := of_decide_eq_true hc29
     refine AWp.skip ?_
     refine hK26 _ ?_
     clear hK26 K26
     refine seqJH (KeepsT.A (k := 2) (KeepsT.A (k := 3) (KeepsT.A (k := 6) KeepsT.nil))) (fun (z : (Sl TFault)) => [(5, .a (.d (Sl.d 2 TFault.c (some tk1) z)))]) (fun z => (H.set tk1 (some (.tok 2 z.l.length)))) (fun z => Z67_j30 s6_25 ((Z67_l23 a0 a1 n23)) z = some r) ?_ ?_
     ·intro K30 hK30
      refine block ?_
      refine seqK fun K32 hK32 => ?_
      refine region ?_
      refine s0 (fieldVA (TK rfl) rfl rfl (TK rfl) rfl rfl) rfl ?_
      refine s0 (loadV (TK rfl) rfl rfl rfl) rfl ?_
      refine s0 moveA rfl ?_
      obtain ⟨x33, gx33, hE⟩ := bindO_some hE
      refine s0 (idxMn (f := TOp.c) (n := s6_25) (TK rfl) rfl (TK rfl) rfl rfl rfl gx33) rfl ?_
      refine s0 (loadV (TK rfl) rfl rfl rfl) rfl ?_
      refine sL (allocLA (TK rfl) rfl) rfl ?_
      refine sLn (storeLFA (TK rfl) rfl rfl rfl rfl rfl) ?_
      refine nil ?_
      refine hK32 _ ?_
      clear hK32 K32
      refine freezeA 7 _ rfl (Keeps.c (k := 2) (by conv => lhs; whnf) (by rfl) (Keeps.c (k := 3) (by conv => lhs; whnf) (by rfl) (Keeps.c (k := 5) (by conv => lhs; whnf) (by rfl) (Keeps.c (k := 6) (by conv => lhs; whnf) (by rfl) Keeps.nil)))) ?_
      refine seqK fun K34 hK34 => ?_
      refine region ?_
      refine s0 (fieldVA (TK rfl) rfl rfl (TK rfl) rfl rfl) rfl ?_
      refine s0 (loadV (TK rfl) rfl rfl rfl) rfl ?_
      obtain ⟨x35, gx35, hE⟩ := bindO_some hE
      refine s0 (callP rfl rfl (fun H => Z65_walk gx35 H)) rfl ?_
      refine s0 assignA rfl ?_
      refine nil ?_
      refine hK34 _ ?_
      clear hK34 K34
      refine seqK fun K36 hK36 => ?_
      refine region ?_
      refine s0 (loadV (TK rfl) rfl rfl rfl) rfl ?_
      refine s0 moveA rfl ?_
      obtain ⟨x37, gx37, hE⟩ := bindO_some hE
      refine s0 (callP rfl rfl (fun H => Z60_walk gx37 H)) rfl ?_
      refine s0 moveA rfl ?_
      refine s0 (extract rfl rfl) rfl ?_
      refine s0 (extract rfl rfl) rfl ?_
      refine sL (allocLA (TK rfl) rfl) rfl ?_
      refine sLn (storeLFA (TK rfl) rfl rfl rfl rfl rfl) ?_
      refine s0 assignA rfl ?_
      refine nil ?_
      refine hK36 _ ?_
      clear hK36 K36
      refine freezeA 9 _ rfl (Keeps.c (k := 2) (by conv => lhs; whnf) (by rfl) (Keeps.c (k := 3) (by conv => lhs; whnf) (by rfl) (Keeps.c (k := 5) (by conv => lhs; whnf) (by rfl) (Keeps.c (k := 6) (by conv => lhs; whnf) (by rfl) (Keeps.c (k := 7) (by conv => lhs; whnf) (by rfl) (Keeps.c (k := 8) (by conv => lhs; whnf) (by rfl) Keeps.nil)))))) ?_
      refine seqK fun K38 hK38 => ?_
      refine AWp.tok 1 fun tk2_39 htk2_39 => ?_
      obtain ⟨ne_tk2_39_tk1, htk2_39⟩ := Heap.set_fresh htk2_39
      refine AWp.tok 1 fun tk3_40 htk3_40 => ?_
      obtain ⟨ne_tk3_40_tk2_39, htk3_40⟩ := Heap.set_fresh htk3_40
      obtain ⟨ne_tk3_40_tk1, htk3_40⟩ := Heap.set_fresh htk3_40
      refine region ?_
      refine s0 (loadV (TK rfl) rfl rfl rfl) rfl ?_
      refine s0 (fieldVA (TK rfl) rfl rfl (TK rfl) rfl rfl) rfl ?_
      refine s0 (loadV (TK rfl) rfl rfl rfl) rfl ?_
      obtain ⟨x41, gx41, hE⟩ := bindO_some hE
      refine sH (callH rfl rfl (ACalls.asArgs (.cons (.refl _) (.cons (.refl _) (.cons (AsArg.nil (k' := 1) (t := tk2_39) hpG) (.cons (AsArg.nil (k' := 1) (t := tk3_40) hpG) .nil)))) (Z79_walk gx41 _ hpG hpG (by assumption)))) rfl ?_
      refine AOps.heq (h' := (((H.set tk1 (some (.tok 2 s5_24.l.length))).set tk2_39 (some (.tok 1 x41.1.l.length))).set tk3_40 (some (.tok 1 x41.2.l.length)))) (by first | rfl | (rw [Heap.set_set]; rfl) | (funext n_; simp only [Heap.set]; (repeat' split) <;> first | rfl | (exfalso; simp_all; done) | (simp_all; done))) ?_
      refine s0 moveA rfl ?_
      refine s0 (extract rfl rfl) rfl ?_
      refine s0 (extract rfl rfl) rfl ?_
      refine s0 assignA rfl ?_
      refine s0 assignA rfl ?_
      refine nil ?_
      refine hK38 _ ?_
      clear hK38 K38
      refine seqJH (KeepsT.A (k := 2) (KeepsT.A (k := 3) (KeepsT.A (k := 6) (KeepsT.A (k := 7) (KeepsT.A (k := 8) KeepsT.nil))))) (fun (z : (Sl TFault)) => [(5, .a (.d (Sl.d 2 TFault.c (some tk1) z)))]) (fun z => (((H.set tk1 (some (.tok 2 z.l.length))).set tk2_39 (some (.tok 1 x41.1.l.length))).set tk3_40 (some (.tok 1 x41.2.l.length)))) (fun z => Z67_j42 a0 s6_25 x33 x35 ((Z67_l23 a0 a1 n23)) z = some r) ?_ ?_
      ·intro K42 hK42
       refine seqK fun K47 hK47 => ?_
       refine region ?_
       refine s0 (fieldVA (TK rfl) rfl rfl (TK rfl) rfl rfl) rfl ?_
       refine s0 (loadV (TK rfl) rfl rfl rfl) rfl ?_
       refine s0 (binI rfl rfl rfl) rfl ?_
       refine s0 moveA rfl ?_
       refine gC rfl rfl (fun hC => fieldVA (TK rfl) rfl rfl (TK rfl) rfl rfl) rfl ?_
       refine gC rfl rfl (fun hC => ungdA (k := 47) rfl (loadV (TK rfl) rfl rfl rfl)) rfl ?_
       refine gC rfl rfl (fun hC => ungdA (k := 48) rfl (binI rfl rfl rfl)) rfl ?_
       refine gC rfl rfl (fun hC => ungdA (k := 49) rfl moveA) rfl ?_
       refine gC rfl rfl (fun hC => moveA) rfl ?_
       refine gC rfl rfl (fun hC => ungdA (k := 51) rfl (lenM' (f := strE) (s := x41.1) (TK rfl) rfl rfl rfl)) rfl ?_
       refine gC rfl rfl (fun hC => ungdA (k := 52) rfl (binI rfl rfl rfl)) rfl ?_
       refine gC rfl rfl (fun hC => ungdA (k := 50) rfl (pickAndA rfl rfl rfl)) rfl ?_
       refine s0 (pickOrA rfl rfl rfl) rfl ?_
       refine nil ?_
       refine hK47 _ ?_
       clear hK47 K47
       refine condE hE rfl (fun hc48 hE => ?_) (fun hc48 hE => ?_)
       ·refine region ?_
        refine s0 moveA rfl ?_
        refine s0 (fieldVA (TK rfl) rfl rfl (TK rfl) rfl rfl) rfl ?_
        refine s0 (loadV (TK rfl) rfl rfl rfl) rfl ?_
        refine s0 (build Tryz.tab_ok rfl rfl rfl rfl rfl rfl) rfl ?_
        refine s0 (buildSlice (TK rfl) rfl (TK rfl) rfl rfl rfl rfl rfl rfl) rfl ?_
        obtain ⟨x49, gx49, hE⟩ := bindO_some hE
        refine sH (appM (f := TFault.c) (TK rfl) rfl (TK rfl) (TK rfl) ⟨_, rfl⟩ rfl rfl (by decide) rfl rfl rfl rfl hpG rfl gx49) rfl ?_
        refine AOps.heq (h' := (((H.set tk1 (some (.tok 2 x49.l.length))).set tk2_39 (some (.tok 1 x41.1.l.length))).set tk3_40 (some (.tok 1 x41.2.l.length)))) (by first | rfl | (rw [Heap.set_set]; rfl) | (funext n_; simp only [Heap.set]; (repeat' split) <;> first | rfl | (exfalso; simp_all; done) | (simp_all; done))) ?_
        refine s0 assignA rfl ?_
        refine nil ?_
        exact hK42 _ x49 Weak.toA hE
       refine AWp.skip ?_
       exact hK42 _ s5_24 Weak.toA hE
      rintro s5_43 hE
      try dsimp only at hE
      unfold Z67_j42 at hE
      refine AWp.draw rfl ?_
      refine DOps.s0 moveA rfl ?_
      refine DOps.s0 (loadV (TK rfl) rfl rfl rfl) rfl ?_
      refine DOps.s0 (fieldVA (TK rfl) rfl rfl (TK rfl) rfl rfl) rfl ?_
      refine DOps.s0 (loadV (TK rfl) rfl rfl rfl) rfl ?_
      refine DOps.s0 (loadV (TK rfl) rfl rfl rfl) rfl ?_
      refine DOps.s0 moveA rfl ?_
      obtain ⟨x44, gx44, hE⟩ := bindO_some hE
      refine DOps.s0 (callP rfl rfl (fun H => Z76_walk gx44 H)) rfl ?_
      refine DOps.s0 (fieldVA (TK rfl) rfl rfl (TK rfl) rfl rfl) rfl ?_
      refine DOps.s0 (loadV (TK rfl) rfl rfl rfl) rfl ?_
      obtain ⟨x45, gx45, hE⟩ := bindO_some hE
      refine DOps.s0 (callP rfl rfl (fun H => Z80_walk gx45 H)) rfl ?_
      obtain ⟨x46, gx46, hE⟩ := bindO_some hE
      refine DOps.sH (appM (f := TFault.c) (TK rfl) rfl (TK rfl) (TK rfl) ⟨_, rfl⟩ rfl rfl (by decide) rfl rfl rfl rfl hpG rfl gx46) rfl ?_
      refine DOps.heq (h' := (((H.set tk1 (some (.tok 2 x46.l.length))).set tk2_39 (some (.tok 1 x41.1.l.length))).set tk3_40 (some (.tok 1 x41.2.l.length)))) (by first | rfl | (rw [Heap.set_set]; rfl) | (funext n_; simp only [Heap.set]; (repeat' split) <;> first | rfl | (exfalso; simp_all; done) | (simp_all; done))) ?_
      refine DOps.s0 assignA rfl ?_
      refine DOps.nil (by decide +kernel) ?_
      exact hK30 _ x46 (Weak.toFA (by (intro id_ o_ he_); (have e_tk2_39 : id_ ≠ tk2_39 := fun e_ => by rw [e_] at he_; simp [Heap.set, htk2_39, ne_tk2_39_tk1] at he_); (have e_tk3_40 : id_ ≠ tk3_40 := fun e_ => by rw [e_] at he_; simp [Heap.set, htk3_40, ne_tk3_40_tk1] at he_); (rw [← he_]); (simp only [Heap.set, if_neg e_tk2_39, if_neg e_tk3_40]); (first | done | rfl))) hE
     rintro s5_31 hE
     try dsimp only at hE
     unfold Z67_j30 at hE
     refine region ?_
     refine s0 moveA rfl ?_
     refine s0 (addIA rfl rfl) rfl ?_
     refine s0 assignA rfl ?_
     refine nil ?_
     exact hK23 _ (n23, s5_31, (s6_25 + 1)) Weak.toA hE (Nat.lt_succ_self _)
    refine AWp.exit ?_
    exact hK3 _ s5_24 Weak.toA hE
 rintro s5_4 hE
 try dsimp only at hE
 unfold Z67_j3 at hE
 refine seqJH KeepsT.nil (fun (z : (Sl TFault)) => [(5, .a (.d (Sl.d 2 TFault.c (some tk1) z)))]) (fun z => (H.set tk1 (some (.tok 2 z.l.length)))) (fun z => Z67_j5 z = some r) ?_ ?_
 ·intro K5 hK5
  refine seqK fun K8 hK8 => ?_
  refine region ?_
  refine s0 assignA rfl ?_
  refine nil ?_
  refine hK8 _ ?_
  clear hK8 K8
  refine block ?_
  refine loopH (KeepsT.A (k := 2) (KeepsT.A (k := 3) KeepsT.nil)) (fun (z : Nat × (Sl TFault) × Nat) => [(5, .a (.d (Sl.d 2 TFault.c (some tk1) z.2.1))), (13, .a (.d (.int .i64 ((z.2.2 : Nat) : Int))))]) (fun z => (H.set tk1 (some (.tok 2 z.2.1.l.length)))) (fun z => z.1) (fun z => Z67_l9 a0 a1 z.1 z.2.1 z.2.2 = some r) ((a1.FFrags.l.length + 1), s5_4, 0) hE Weak.toA ?_
  rintro ⟨n9, s5_10, s13_11⟩ hE K9 hK9
  try dsimp only at hE
  cases n9 with
  | zero => cases hE
  | succ n9 =>
    rw [Z67_l9] at hE
    refine seqK fun K12 hK12 => ?_
    refine seqK fun K13 hK13 => ?_
    refine region ?_
    refine s0 moveA rfl ?_
    refine s0 (fieldVA (TK rfl) rfl rfl (TK rfl) rfl rfl) rfl ?_
    refine s0 (loadV (TK rfl) rfl rfl rfl) rfl ?_
    refine sLen (f := TFrag.c) (s := a1.FFrags) (TK rfl) rfl rfl rfl rfl fun hL14 => ?_
    refine s0 (binI rfl rfl rfl) rfl ?_
    refine nil ?_
    refine hK13 _ ?_
    clear hK13 K13
    refine condE hE rfl (fun hc15 hE => ?_) (fun hc15 hE => ?_)
    ·try dsimp only at hc15
     have hf15 := of_decide_eq_true hc15
     refine AWp.skip ?_
     refine hK12 _ ?_
     clear hK12 K12
     refine seqK fun K16 hK16 => ?_
     refine block ?_
     refine seqK fun K17 hK17 => ?_
     refine region ?_
     refine s0 (fieldVA (TK rfl) rfl rfl (TK rfl) rfl rfl) rfl ?_
     refine s0 (loadV (TK rfl) rfl rfl rfl) rfl ?_
     refine s0 moveA rfl ?_
     obtain ⟨x18, gx18, hE⟩ := bindO_some hE
     refine s0 (idxMn (f := TFrag.c) (n := s13_11) (TK rfl) rfl (TK rfl) rfl rfl rfl gx18) rfl ?_
     refine s0 (loadV (TK rfl) rfl rfl rfl) rfl ?_
     refine sL (allocLA (TK rfl) rfl) rfl ?_
     refine sLn (storeLFA (TK rfl) rfl rfl rfl rfl rfl) ?_
     refine nil ?_
     refine hK17 _ ?_
     clear hK17 K17
     refine freezeA 14 _ rfl (Keeps.c (k := 2) (by conv => lhs; whnf) (by rfl) (Keeps.c (k := 3) (by conv => lhs; whnf) (by rfl) (Keeps.c (k := 5) (by conv => lhs; whnf) (by rfl) (Keeps.c (k := 13) (by conv => lhs; whnf) (by rfl) Keeps.nil)))) ?_
     refine AWp.draw rfl ?_
     refine DOps.s0 moveA rfl ?_
     refine DOps.s0 (loadV (TK rfl) rfl rfl rfl) rfl ?_
     refine DOps.s0 (fieldVA (TK rfl) rfl rfl (TK rfl) rfl rfl) rfl ?_
     refine DOps.s0 (loadV (TK rfl) rfl rfl rfl) rfl ?_
     refine DOps.s0 (loadV (TK rfl) rfl rfl rfl) rfl ?_
     refine DOps.s0 (fieldVA (TK rfl) rfl rfl (TK rfl) rfl rfl) rfl ?_
     refine DOps.s0 (loadV (TK rfl) rfl rfl rfl) rfl ?_
     obtain ⟨x19, gx19, hE⟩ := bindO_some hE
     refine DOps.s0 (callP rfl rfl (fun H => Z76_walk gx19 H)) rfl ?_
     refine DOps.s0 (fieldVA (TK rfl) rfl rfl (TK rfl) rfl rfl) rfl ?_
     refine DOps.s0 (loadV (TK rfl) rfl rfl rfl) rfl ?_
     obtain ⟨x20, gx20, hE⟩ := bindO_some hE
     refine DOps.s0 (callP rfl rfl (fun H => Z80_walk gx20 H)) rfl ?_
     obtain ⟨x21, gx21, hE⟩ := bindO_some hE
     refine DOps.sH (appM (f := TFault.c) (TK rfl) rfl (TK rfl) (TK rfl) ⟨_, rfl⟩ rfl rfl (by decide) rfl rfl rfl rfl hpG rfl gx21) rfl ?_
     refine DOps.heq (h' := (H.set tk1 (some (.tok 2 x21.l.length)))) (by first | rfl | (rw [Heap.set_set]; rfl) | (funext n_; simp only [Heap.set]; (repeat' split) <;> first | rfl | (exfalso; simp_all; done) | (simp_all; done))) ?_
     refine DOps.s0 assignA rfl ?_
     refine DOps.nil (by decide +kernel) ?_
     refine hK16 _ ?_
     clear hK16 K16
     refine region ?_
     refine s0 moveA rfl ?_
     refine s0 (addIA rfl rfl) rfl ?_
     refine s0 assignA rfl ?_
     refine nil ?_
     exact hK9 _ (n9, x21, (s13_11 + 1)) Weak.toA hE (Nat.lt_succ_self _)
    refine AWp.exit ?_
    exact hK5 _ s5_10 Weak.toA hE
 rintro s5_6 hE
 try dsimp only at hE
 unfold Z67_j5 at hE
 refine seqK fun K7 hK7 => ?_
 refine region ?_
 refine s0 moveA rfl ?_
 refine s0 assignA rfl ?_
 refine nil ?_
 refine hK7 _ ?_
 clear hK7 K7
 refine AWp.dropTok 4 rfl ?_
 refine AWp.ret ?_
 repeat (first | refine xBlock_ret ?_ | refine xThen_ret ?_)
 obtain rfl := Option.some.inj hE
 refine retQ.retF H rfl ⟨rfl, rfl⟩ ?_
 first | exact Heap.sub_set htk1 | (simp only [Heap.set_set]; exact Heap.sub_set htk1)
def Z15 (a0 : TDoc) (a1 : TQuery) : Option Bool := (Z17 a0 a1).bind fun x4 => bif (!x4) then ((Z16 ).bind fun x7 => some x7) else ((Z0 a0 a1).bind fun x9 => (Z67 a0 a1).bind fun x10 => (Z58 x9 x10).bind fun x11 => guardO (x11) (Z16 ) false fun x12 => some (x11 && x12))
theorem Z15_walk {a0 : TDoc} {a1 : TQuery}   {r : Bool} (hE : Z15 a0 a1 = some r) (H : Heap)  : ACalls Tryz.prog 3 [.agg (TDoc.c a0), .agg (TQuery.c a1)] H fun v h' => v = .a (.d (.bool r)) ∧ h' = H := by
 unfold Z15 at hE
 refine ACalls.of_wp (fn := Tryz.f3) (c := _) Tryz.tab_ok (fun _ _ => Tryz.call3 _ _) Tryz.func3 rfl (n := 20) rfl (rs := [.tmp 4]) rfl rfl ?_
 refine seqK fun K1 hK1 => ?_
 refine region ?_
 refine s0 (boxV rfl) rfl ?_
 refine s0 (boxV rfl) rfl ?_
 refine s0 assignA rfl ?_
 refine nil ?_
 refine hK1 _ ?_
 clear hK1 K1
 refine seqK fun K2 hK2 => ?_
 refine seqK fun K3 hK3 => ?_
 refine region ?_
 refine s0 (loadV (TK rfl) rfl rfl rfl) rfl ?_
 refine s0 (loadV (TK rfl) rfl rfl rfl) rfl ?_
 obtain ⟨x4, gx4, hE⟩ := bindO_some hE
 refine s0 (callP rfl rfl (fun H => Z17_walk gx4 H)) rfl ?_
 refine s0 (notB rfl) rfl ?_
 refine nil ?_
 refine hK3 _ ?_
 clear hK3 K3
 refine condE hE rfl (fun hc5 hE => ?_) (fun hc5 hE => ?_)
 ·refine seqK fun K6 hK6 => ?_
  refine region ?_
  obtain ⟨x7, gx7, hE⟩ := bindO_some hE
  refine s0 (callP rfl rfl (fun H => Z16_walk gx7 H)) rfl ?_
  refine s0 assignA rfl ?_
  refine nil ?_
  refine hK6 _ ?_
  clear hK6 K6
  refine AWp.ret ?_
  repeat (first | refine xBlock_ret ?_ | refine xThen_ret ?_)
  obtain rfl := Option.some.inj hE
  refine retQ.retF H rfl ⟨rfl, rfl⟩ ?_
  exact (fun _ _ h => h)
 refine AWp.skip ?_
 refine hK2 _ ?_
 clear hK2 K2
 refine seqK fun K8 hK8 => ?_
 refine AWp.draw rfl ?_
 refine DOps.s0 (loadV (TK rfl) rfl rfl rfl) rfl ?_
 refine DOps.s0 (loadV (TK rfl) rfl rfl rfl) rfl ?_
 obtain ⟨x9, gx9, hE⟩ := bindO_some hE
 refine DOps.s0 (callP rfl rfl (fun H => Z0_walk gx9 H)) rfl ?_
 refine DOps.s0 (loadV (TK rfl) rfl rfl rfl) rfl ?_
 refine DOps.s0 (loadV (TK rfl) rfl rfl rfl) rfl ?_
 obtain ⟨x10, gx10, hE⟩ := bindO_some hE
 refine DOps.s0 (callP rfl rfl (fun H => Z67_walk gx10 H)) rfl ?_
 obtain ⟨x11, gx11, hE⟩ := bindO_some hE
 refine DOps.s0 (callP rfl rfl (fun H => Z58_walk gx11 H)) rfl ?_
 refine DOps.s0 moveA rfl ?_
 obtain ⟨x12, gx12, hE⟩ := guardO_some hE
 refine DOps.gC rfl rfl (fun hC => callP rfl rfl (fun H => Z16_walk (gx12 hC) H)) rfl ?_
 refine DOps.s0 (pickAndA rfl rfl rfl) rfl ?_
 refine DOps.s0 assignA rfl ?_
 refine DOps.nil (by decide +kernel) ?_
 refine hK8 _ ?_
 clear hK8 K8
 refine AWp.ret ?_
 repeat (first | refine xBlock_ret ?_ | refine xThen_ret ?_)
 obtain rfl := Option.some.inj hE
 refine retQ.retF H rfl ⟨rfl, rfl⟩ ?_
 exact (fun _ _ h => h)
end Go.Proofs
