import Derived.Test.YtjlggcgmmpopmaaGreatDoorV3
set_option maxRecDepth 100000
set_option maxHeartbeats 2000000
set_option linter.unusedVariables false
set_option linter.unusedSimpArgs false
namespace Go.Proofs
open Go Go.Ab
open AOps Cert AWp
variable {lou : Lou}
def Z5_j3  (s3_4 : (Sl Bs)) : Option Bs := (Z82 s3_4 ([44, 32] : Bs)).bind fun x6 => some x6
def Z5_l9 (a0 : (Sl TArg))  : Nat → (Sl Bs) → Nat → Option Bs
 | 0, _, _ => none
 | n9 + 1, s3_10, s8_11 => bif (decide (((s8_11 : Nat) : Int) < ((a0.l.length : Nat) : Int))) then ((a0.l[s8_11]?).bind fun x17 => (catC x17.FName ([58, 32] : Bs)).bind fun x18 => (Z17 x17.FValue).bind fun x19 => (catC x18 x19).bind fun x20 => (appC 16 s3_10 (⟨false, [x20]⟩ : Sl Bs)).bind fun x21 => (Z5_l9 a0 n9) x21 (s8_11 + 1)) else (Z5_j3   s3_10)
def Z5 (a0 : (Sl TArg)) : Option Bs := Z5_l9 a0 (a0.l.length + 1) (Sl.nil : Sl Bs) 0
theorem Z5_walk {a0 : (Sl TArg)} {w0 : Option Nat} {oT : Ab.Obj} {gT : Nat} {r : Bs} (hE : Z5 a0 = some r) (H : Heap) (hgT : H gT = some oT) (hoT : IsTab Tryz.prog oT) : ACalls Tryz.prog 28 [.d (Sl.d 6 TArg.c w0 a0)] H fun v h' => v = .a (.d (.str r)) ∧ h' = H := by
 unfold Z5 at hE
 refine ACalls.of_wp (fn := Tryz.f28) (c := _) Tryz.tab_ok (fun _ _ => Tryz.call28 _ _) Tryz.func28 rfl (n := 25) rfl (rs := [.tmp 2]) rfl rfl ?_
 refine AWp.tok 1 fun tk1 htk1 => ?_
 have ne_tk1_gT : tk1 ≠ gT := fun e_ => by subst e_; simp_all
 refine seqK fun K1 hK1 => ?_
 refine region ?_
 refine s0 assignA rfl ?_
 refine nil ?_
 refine hK1 _ ?_
 clear hK1 K1
 refine seqK fun K2 hK2 => ?_
 refine region ?_
 refine s0 assignA rfl ?_
 refine nil ?_
 refine hK2 _ ?_
 clear hK2 K2
 refine AWp.nilTok 3 1 tk1 rfl hpG ?_
 refine seqJH KeepsT.nil (fun (z : (Sl Bs)) => [(3, .a (.d (Sl.d 1 strE (some tk1) z)))]) (fun z => (H.set tk1 (some (.tok 1 z.l.length)))) (fun z => Z5_j3 z = some r) ?_ ?_
 ·intro K3 hK3
  refine seqK fun K7 hK7 => ?_
  refine region ?_
  refine s0 moveA rfl ?_
  refine sLen (f := TArg.c) (s := a0) (TK rfl) rfl rfl rfl rfl fun hL8 => ?_
  refine s0 moveA rfl ?_
  refine nil ?_
  refine hK7 _ ?_
  clear hK7 K7
  refine block ?_
  refine loopH (KeepsT.A (k := 6) (KeepsT.A (k := 7) KeepsT.nil)) (fun (z : Nat × (Sl Bs) × Nat) => [(3, .a (.d (Sl.d 1 strE (some tk1) z.2.1))), (8, .a (.d (.int .i64 ((z.2.2 : Nat) : Int))))]) (fun z => (H.set tk1 (some (.tok 1 z.2.1.l.length)))) (fun z => z.1) (fun z => Z5_l9 a0 z.1 z.2.1 z.2.2 = some r) ((a0.l.length + 1), (Sl.nil : Sl Bs), 0) hE Weak.toA ?_
  rintro ⟨n9, s3_10, s8_11⟩ hE K9 hK9
  try dsimp only at hE
  cases n9 with
  | zero => cases hE
  | succ n9 =>
    rw [Z5_l9] at hE
    refine seqK fun K12 hK12 => ?_
    refine region ?_
    refine s0 (binI rfl rfl rfl) rfl ?_
    refine nil ?_
    refine hK12 _ ?_
    clear hK12 K12
    refine seqK fun K13 hK13 => ?_
    refine condE hE rfl (fun hc14 hE => ?_) (fun hc14 hE => ?_)
    ·try dsimp only at hc14
     have hf14 := of_decide_eq_true hc14
     refine AWp.skip ?_
     refine hK13 _ ?_
     clear hK13 K13
     refine seqK fun K15 hK15 => ?_
     refine block ?_
     refine seqK fun K16 hK16 => ?_
     refine region ?_
     obtain ⟨x17, gx17, hE⟩ := bindO_some hE
     refine s0 (idxMn (f := TArg.c) (n := s8_11) (TK rfl) rfl (TK rfl) rfl rfl rfl gx17) rfl ?_
     refine s0 (loadV (TK rfl) rfl rfl rfl) rfl ?_
     refine sL (allocLA (TK rfl) rfl) rfl ?_
     refine sLn (storeLFA (TK rfl) rfl rfl rfl rfl rfl) ?_
     refine nil ?_
     refine hK16 _ ?_
     clear hK16 K16
     refine freezeA 5 _ rfl (Keeps.c (k := 3) (by conv => lhs; whnf) (by rfl) (Keeps.c (k := 6) (by conv => lhs; whnf) (by rfl) (Keeps.c (k := 7) (by conv => lhs; whnf) (by rfl) (Keeps.c (k := 8) (by conv => lhs; whnf) (by rfl) Keeps.nil)))) ?_
     refine AWp.draw rfl ?_
     refine DOps.s0 moveA rfl ?_
     refine DOps.s0 (fieldVA (TK rfl) rfl rfl (TK rfl) rfl rfl) rfl ?_
     refine DOps.s0 (loadV (TK rfl) rfl rfl rfl) rfl ?_
     obtain ⟨x18, gx18, hE⟩ := bindO_some hE
     refine DOps.s0 (catM rfl rfl gx18) rfl ?_
     refine DOps.s0 (fieldVA (TK rfl) rfl rfl (TK rfl) rfl rfl) rfl ?_
     refine DOps.s0 (loadV (TK rfl) rfl rfl rfl) rfl ?_
     obtain ⟨x19, gx19, hE⟩ := bindO_some hE
     refine DOps.s0 (callR rfl rfl (Z17_walk (gT := gT) (oT := oT) gx19 _ hpG (by assumption))) rfl ?_
     obtain ⟨x20, gx20, hE⟩ := bindO_some hE
     refine DOps.s0 (catM rfl rfl gx20) rfl ?_
     refine DOps.s0 (buildSlice (TK rfl) rfl (TK rfl) rfl rfl rfl rfl rfl rfl) rfl ?_
     obtain ⟨x21, gx21, hE⟩ := bindO_some hE
     refine DOps.sH (appM (f := strE) (TK rfl) rfl (TK rfl) (TK rfl) ⟨_, rfl⟩ rfl rfl (by decide) rfl rfl rfl rfl hpG rfl gx21) rfl ?_
     refine DOps.heq (h' := (H.set tk1 (some (.tok 1 x21.l.length)))) (by first | rfl | (rw [Heap.set_set]; rfl) | (funext n_; simp only [Heap.set]; (repeat' split) <;> first | rfl | (exfalso; simp_all; done) | (simp_all; done))) ?_
     refine DOps.s0 assignA rfl ?_
     refine DOps.nil (by decide +kernel) ?_
     refine hK15 _ ?_
     clear hK15 K15
     refine region ?_
     refine s0 (addIA rfl rfl) rfl ?_
     refine s0 moveA rfl ?_
     refine nil ?_
     exact hK9 _ (n9, x21, (s8_11 + 1)) Weak.toA hE (Nat.lt_succ_self _)
    refine AWp.exit ?_
    exact hK3 _ s3_10 Weak.toA hE
 rintro s3_4 hE
 try dsimp only at hE
 unfold Z5_j3 at hE
 refine seqK fun K5 hK5 => ?_
 refine region ?_
 refine s0 moveA rfl ?_
 obtain ⟨x6, gx6, hE⟩ := bindO_some hE
 refine s0 (callP rfl rfl (fun H => Z82_walk gx6 H)) rfl ?_
 refine s0 assignA rfl ?_
 refine nil ?_
 refine hK5 _ ?_
 clear hK5 K5
 refine AWp.ret ?_
 repeat (first | refine xBlock_ret ?_ | refine xThen_ret ?_)
 obtain rfl := Option.some.inj hE
 refine retQ.retF H rfl ⟨rfl, rfl⟩ ?_
 first | exact Heap.sub_set htk1 | (simp only [Heap.set_set]; exact Heap.sub_set htk1)
def Z19  : Option Bool := (Z4 (TDoc.mk (⟨false, [(TDef.mk (1 : Int) ([81, 117, 101, 114, 121] : Bs) (Sl.nil : Sl Bs) (Sl.nil : Sl TDir) (⟨false, [(TField.mk ([97] : Bs) (Sl.nil : Sl TInput) (TRef.mk ([73, 110, 116] : Bs) (Sl.nil : Sl Int)) (Sl.nil : Sl TDir))]⟩ : Sl TField) (Sl.nil : Sl TMember) (Sl.nil : Sl TInput))]⟩ : Sl TDef)) (TRef.mk ([73, 68] : Bs) (⟨false, [(2 : Int), (1 : Int)]⟩ : Sl Int)) (TValue.mk (2 : Int) (5 : Int) ([] : Bs) true ([]) (Sl.nil : Sl Bs)) (TValue.mk (0 : Int) (0 : Int) ([] : Bs) true ([]) (Sl.nil : Sl Bs))).bind fun x5 => (Z3 (TDoc.mk (⟨false, [(TDef.mk (1 : Int) ([81, 117, 101, 114, 121] : Bs) (Sl.nil : Sl Bs) (Sl.nil : Sl TDir) (⟨false, [(TField.mk ([97] : Bs) (Sl.nil : Sl TInput) (TRef.mk ([73, 110, 116] : Bs) (Sl.nil : Sl Int)) (Sl.nil : Sl TDir))]⟩ : Sl TField) (Sl.nil : Sl TMember) (Sl.nil : Sl TInput))]⟩ : Sl TDef)) (TRef.mk ([73, 110, 116] : Bs) (⟨false, [(1 : Int)]⟩ : Sl Int)) (TValue.mk (0 : Int) (0 : Int) ([] : Bs) true ([]) (Sl.nil : Sl Bs))).bind fun x7 => (Z0 (TDoc.mk (⟨false, [(TDef.mk (1 : Int) ([81, 117, 101, 114, 121] : Bs) (Sl.nil : Sl Bs) (Sl.nil : Sl TDir) (⟨false, [(TField.mk ([97] : Bs) (Sl.nil : Sl TInput) (TRef.mk ([73, 110, 116] : Bs) (Sl.nil : Sl Int)) (Sl.nil : Sl TDir))]⟩ : Sl TField) (Sl.nil : Sl TMember) (Sl.nil : Sl TInput))]⟩ : Sl TDef)) (⟨false, [(TInput.mk ([102, 105, 114, 115, 116] : Bs) (TRef.mk ([73, 110, 116] : Bs) (Sl.nil : Sl Int)) true (TValue.mk (2 : Int) (5 : Int) ([] : Bs) true ([]) (Sl.nil : Sl Bs)) (Sl.nil : Sl TDir))]⟩ : Sl TInput) (Sl.nil : Sl TArg) (TValue.mk (0 : Int) (0 : Int) ([] : Bs) true ([]) (Sl.nil : Sl Bs))).bind fun x9 => (Z6 (TDoc.mk (⟨false, [(TDef.mk (1 : Int) ([81, 117, 101, 114, 121] : Bs) (Sl.nil : Sl Bs) (Sl.nil : Sl TDir) (⟨false, [(TField.mk ([97] : Bs) (Sl.nil : Sl TInput) (TRef.mk ([73, 110, 116] : Bs) (Sl.nil : Sl Int)) (Sl.nil : Sl TDir))]⟩ : Sl TField) (Sl.nil : Sl TMember) (Sl.nil : Sl TInput))]⟩ : Sl TDef)) (⟨false, [(TVar.mk ([98] : Bs) (TRef.mk ([66, 111, 111, 108, 101, 97, 110] : Bs) (⟨false, [(1 : Int)]⟩ : Sl Int)) false TValue.zero)]⟩ : Sl TVar) (TValue.mk (0 : Int) (0 : Int) ([] : Bs) true ([]) (Sl.nil : Sl Bs))).bind fun x11 => bif ((!decide (((x5.1.FItems.l.length : Nat) : Int) = (1 : Int))) || (!decide (((x9.1.l.length : Nat) : Int) = (1 : Int)))) then (some false) else (guardO ((decide (x5.2 = (0 : Int)))) (x5.1.FItems.l[0]?) TValue.zero fun x18 => guardO (((((decide (x5.2 = (0 : Int))) && ((x18.FText == ([53] : Bs)))) && (decide (x7.2 = (23 : Int)))) && (decide (x9.2 = (0 : Int))))) (x9.1.l[0]?) TArg.zero fun x19 => guardO ((((((decide (x5.2 = (0 : Int))) && ((x18.FText == ([53] : Bs)))) && (decide (x7.2 = (23 : Int)))) && (decide (x9.2 = (0 : Int)))) && ((x19.FName == ([102, 105, 114, 115, 116] : Bs))))) (x9.1.l[0]?) TArg.zero fun x20 => guardO (((((((((decide (x5.2 = (0 : Int))) && ((x18.FText == ([53] : Bs)))) && (decide (x7.2 = (23 : Int)))) && (decide (x9.2 = (0 : Int)))) && ((x19.FName == ([102, 105, 114, 115, 116] : Bs)))) && (decide (x20.FValue.FInt = (5 : Int)))) && ((x11.2.1 == ([98] : Bs)))) && (decide (x11.2.2 = (27 : Int))))) (Z5 x9.1) ([] : Bs) fun x21 => some (((((((((decide (x5.2 = (0 : Int))) && ((x18.FText == ([53] : Bs)))) && (decide (x7.2 = (23 : Int)))) && (decide (x9.2 = (0 : Int)))) && ((x19.FName == ([102, 105, 114, 115, 116] : Bs)))) && (decide (x20.FValue.FInt = (5 : Int)))) && ((x11.2.1 == ([98] : Bs)))) && (decide (x11.2.2 = (27 : Int)))) && ((x21 == ([102, 105, 114, 115, 116, 58, 32, 53] : Bs)))))
theorem Z19_walk  {oT : Ab.Obj} {gT : Nat} {r : Bool} (hE : Z19  = some r) (H : Heap) (hgT : H gT = some oT) (hoT : IsTab Tryz.prog oT) : ACalls Tryz.prog 9 [] H fun v h' => v = .a (.d (.bool r)) ∧ h' = H := by
 unfold Z19 at hE
 refine ACalls.of_wp (fn := Tryz.f9) (c := _) Tryz.tab_ok (fun _ _ => Tryz.call9 _ _) Tryz.func9 rfl (n := 112) rfl (rs := [.tmp 0]) rfl rfl ?_
 refine seqK fun K1 hK1 => ?_
 refine region ?_
 refine s0 assignA rfl ?_
 refine nil ?_
 refine hK1 _ ?_
 clear hK1 K1
 refine seqK fun K2 hK2 => ?_
 refine region ?_
 refine s0 (build Tryz.tab_ok rfl rfl rfl rfl rfl rfl) rfl ?_
 refine sL (allocLA (TK rfl) rfl) rfl ?_
 refine sLn (storeLFA (TK rfl) rfl rfl rfl rfl rfl) ?_
 refine nil ?_
 refine hK2 _ ?_
 clear hK2 K2
 refine freezeA 1 _ rfl Keeps.nil ?_
 refine seqK fun K3 hK3 => ?_
 refine region ?_
 refine s0 (build Tryz.tab_ok rfl rfl rfl rfl rfl rfl) rfl ?_
 refine s0 (build Tryz.tab_ok rfl rfl rfl rfl rfl rfl) rfl ?_
 refine s0 (buildSlice (TK rfl) rfl (TK rfl) rfl rfl rfl rfl rfl rfl) rfl ?_
 refine s0 (build Tryz.tab_ok rfl rfl rfl rfl rfl rfl) rfl ?_
 refine s0 (buildSlice (TK rfl) rfl (TK rfl) rfl rfl rfl rfl rfl rfl) rfl ?_
 refine s0 (build Tryz.tab_ok rfl rfl rfl rfl rfl rfl) rfl ?_
 refine sL (allocLA (TK rfl) rfl) rfl ?_
 refine sLn (storeLFA (TK rfl) rfl rfl rfl rfl rfl) ?_
 refine nil ?_
 refine hK3 _ ?_
 clear hK3 K3
 refine freezeA 2 _ rfl (Keeps.c (k := 1) (by conv => lhs; whnf) (by rfl) Keeps.nil) ?_
 refine seqK fun K4 hK4 => ?_
 refine region ?_
 refine s0 (loadV (TK rfl) rfl rfl rfl) rfl ?_
 refine s0 (buildSlice (TK rfl) rfl (TK rfl) rfl rfl rfl rfl rfl rfl) rfl ?_
 refine s0 (build Tryz.tab_ok rfl rfl rfl rfl rfl rfl) rfl ?_
 refine s0 (loadV (TK rfl) rfl rfl rfl) rfl ?_
 refine s0 (build Tryz.tab_ok rfl rfl rfl rfl rfl rfl) rfl ?_
 obtain ⟨x5, gx5, hE⟩ := bindO_some hE
 refine s0 (callR rfl rfl (Z4_walk (gT := gT) (oT := oT) gx5 _ hpG (by assumption))) rfl ?_
 refine s0 moveA rfl ?_
 refine s0 (extract rfl rfl) rfl ?_
 refine s0 (extract rfl rfl) rfl ?_
 refine sL (allocLA (TK rfl) rfl) rfl ?_
 refine sLn (storeLFA (TK rfl) rfl rfl rfl rfl rfl) ?_
 refine s0 assignA rfl ?_
 refine nil ?_
 refine hK4 _ ?_
 clear hK4 K4
 refine freezeA 3 _ rfl (Keeps.c (k := 1) (by conv => lhs; whnf) (by rfl) (Keeps.c (k := 2) (by conv => lhs; whnf) (by rfl) (Keeps.c (k := 4) (by conv => lhs; whnf) (by rfl) Keeps.nil))) ?_
 refine seqK fun K6 hK6 => ?_
 refine region ?_
 refine s0 (loadV (TK rfl) rfl rfl rfl) rfl ?_
 refine s0 (buildSlice (TK rfl) rfl (TK rfl) rfl rfl rfl rfl rfl rfl) rfl ?_
 refine s0 (build Tryz.tab_ok rfl rfl rfl rfl rfl rfl) rfl ?_
 refine s0 (build Tryz.tab_ok rfl rfl rfl rfl rfl rfl) rfl ?_
 obtain ⟨x7, gx7, hE⟩ := bindO_some hE
 refine s0 (callR rfl rfl (Z3_walk (gT := gT) (oT := oT) gx7 _ hpG (by assumption))) rfl ?_
 refine s0 moveA rfl ?_
 refine s0 (extract rfl rfl) rfl ?_
 refine s0 (extract rfl rfl) rfl ?_
 refine sL (allocLA (TK rfl) rfl) rfl ?_
 refine sLn (storeLFA (TK rfl) rfl rfl rfl rfl rfl) ?_
 refine s0 assignA rfl ?_
 refine nil ?_
 refine hK6 _ ?_
 clear hK6 K6
 refine freezeA 5 _ rfl (Keeps.c (k := 1) (by conv => lhs; whnf) (by rfl) (Keeps.c (k := 2) (by conv => lhs; whnf) (by rfl) (Keeps.c (k := 3) (by conv => lhs; whnf) (by rfl) (Keeps.c (k := 4) (by conv => lhs; whnf) (by rfl) (Keeps.c (k := 6) (by conv => lhs; whnf) (by rfl) Keeps.nil))))) ?_
 refine seqK fun K8 hK8 => ?_
 refine region ?_
 refine s0 (loadV (TK rfl) rfl rfl rfl) rfl ?_
 refine s0 (build Tryz.tab_ok rfl rfl rfl rfl rfl rfl) rfl ?_
 refine s0 (loadV (TK rfl) rfl rfl rfl) rfl ?_
 refine s0 (build Tryz.tab_ok rfl rfl rfl rfl rfl rfl) rfl ?_
 refine s0 (buildSlice (TK rfl) rfl (TK rfl) rfl rfl rfl rfl rfl rfl) rfl ?_
 refine s0 (build Tryz.tab_ok rfl rfl rfl rfl rfl rfl) rfl ?_
 obtain ⟨x9, gx9, hE⟩ := bindO_some hE
 refine s0 (callR rfl rfl (ACalls.asArgs (.cons (.refl _) (.cons (.refl _) (.cons (AsArg.nil0 (k' := 6)) (.cons (.refl _) .nil)))) (Z0_walk (gT := gT) (oT := oT) gx9 _ hpG (by assumption)))) rfl ?_
 refine s0 moveA rfl ?_
 refine s0 (extract rfl rfl) rfl ?_
 refine s0 (extract rfl rfl) rfl ?_
 refine s0 assignA rfl ?_
 refine s0 assignA rfl ?_
 refine nil ?_
 refine hK8 _ ?_
 clear hK8 K8
 refine seqK fun K10 hK10 => ?_
 refine region ?_
 refine s0 (loadV (TK rfl) rfl rfl rfl) rfl ?_
 refine s0 (buildSlice (TK rfl) rfl (TK rfl) rfl rfl rfl rfl rfl rfl) rfl ?_
 refine s0 (build Tryz.tab_ok rfl rfl rfl rfl rfl rfl) rfl ?_
 refine s0 (build Tryz.tab_ok rfl rfl rfl rfl rfl rfl) rfl ?_
 refine s0 (buildSlice (TK rfl) rfl (TK rfl) rfl rfl rfl rfl rfl rfl) rfl ?_
 refine s0 (build Tryz.tab_ok rfl rfl rfl rfl rfl rfl) rfl ?_
 obtain ⟨x11, gx11, hE⟩ := bindO_some hE
 refine s0 (callR rfl rfl (Z6_walk (gT := gT) (oT := oT) gx11 _ hpG (by assumption))) rfl ?_
 refine s0 moveA rfl ?_
 refine s0 (extract rfl rfl) rfl ?_
 refine s0 (extract rfl rfl) rfl ?_
 refine s0 (extract rfl rfl) rfl ?_
 refine sL (allocLA (TK rfl) rfl) rfl ?_
 refine sLn (storeLFA (TK rfl) rfl rfl rfl rfl rfl) ?_
 refine s0 assignA rfl ?_
 refine s0 assignA rfl ?_
 refine nil ?_
 refine hK10 _ ?_
 clear hK10 K10
 refine freezeA 9 _ rfl (Keeps.c (k := 3) (by conv => lhs; whnf) (by rfl) (Keeps.c (k := 4) (by conv => lhs; whnf) (by rfl) (Keeps.c (k := 6) (by conv => lhs; whnf) (by rfl) (Keeps.c (k := 7) (by conv => lhs; whnf) (by rfl) (Keeps.c (k := 8) (by conv => lhs; whnf) (by rfl) (Keeps.c (k := 10) (by conv => lhs; whnf) (by rfl) (Keeps.c (k := 11) (by conv => lhs; whnf) (by rfl) Keeps.nil))))))) ?_
 refine seqK fun K12 hK12 => ?_
 refine seqK fun K13 hK13 => ?_
 refine region ?_
 refine s0 (fieldVA (TK rfl) rfl rfl (TK rfl) rfl rfl) rfl ?_
 refine s0 (loadV (TK rfl) rfl rfl (congrArg (fun x => some (A.d x)) (TValue.FItemsD_eq _))) rfl ?_
 refine sLen (f := TValue.c) (s := x5.1.FItems) (TK rfl) rfl rfl rfl rfl fun hL14 => ?_
 refine s0 (binI rfl rfl rfl) rfl ?_
 refine s0 moveA rfl ?_
 refine gC rfl rfl (fun hC => moveA) rfl ?_
 refine gC rfl rfl (fun hC => ungdA (k := 62) rfl (lenM' (f := TArg.c) (s := x9.1) (TK rfl) rfl rfl rfl)) rfl ?_
 refine gC rfl rfl (fun hC => ungdA (k := 63) rfl (binI rfl rfl rfl)) rfl ?_
 refine s0 (pickOrA rfl rfl rfl) rfl ?_
 refine nil ?_
 refine hK13 _ ?_
 clear hK13 K13
 refine condE hE rfl (fun hc15 hE => ?_) (fun hc15 hE => ?_)
 ·refine seqK fun K16 hK16 => ?_
  refine region ?_
  refine s0 assignA rfl ?_
  refine nil ?_
  refine hK16 _ ?_
  clear hK16 K16
  refine AWp.ret ?_
  repeat (first | refine xBlock_ret ?_ | refine xThen_ret ?_)
  obtain rfl := Option.some.inj hE
  refine retQ.retF H rfl ⟨rfl, rfl⟩ ?_
  exact (fun _ _ h => h)
 refine AWp.skip ?_
 refine hK12 _ ?_
 clear hK12 K12
 refine seqK fun K17 hK17 => ?_
 refine region ?_
 refine s0 moveA rfl ?_
 refine s0 (binI rfl rfl rfl) rfl ?_
 refine s0 moveA rfl ?_
 refine gC rfl rfl (fun hC => fieldVA (TK rfl) rfl rfl (TK rfl) rfl rfl) rfl ?_
 refine gC rfl rfl (fun hC => ungdA (k := 69) rfl (loadV (TK rfl) rfl rfl (congrArg (fun x => some (A.d x)) (TValue.FItemsD_eq _)))) rfl ?_
 obtain ⟨x18, gx18, hE⟩ := guardO_some hE
 refine gC rfl rfl (fun hC => ungdA (k := 70) rfl (idxMn (f := TValue.c) (n := 0) (TK rfl) rfl (TK rfl) rfl rfl rfl (gx18 hC))) rfl ?_
 refine gC rfl rfl (fun hC => ungdA (k := 71) rfl (fieldVA (TK rfl) rfl rfl (TK rfl) rfl rfl)) rfl ?_
 refine gC rfl rfl (fun hC => ungdA (k := 72) rfl (loadV (TK rfl) rfl rfl rfl)) rfl ?_
 refine gC rfl rfl (fun hC => ungdA (k := 73) rfl (binS rfl rfl rfl)) rfl ?_
 refine s0 (pickAndA rfl rfl rfl) rfl ?_
 refine s0 moveA rfl ?_
 refine gC rfl rfl (fun hC => moveA) rfl ?_
 refine gC rfl rfl (fun hC => ungdA (k := 77) rfl (binI rfl rfl rfl)) rfl ?_
 refine s0 (pickAndA rfl rfl rfl) rfl ?_
 refine s0 moveA rfl ?_
 refine gC rfl rfl (fun hC => moveA) rfl ?_
 refine gC rfl rfl (fun hC => ungdA (k := 81) rfl (binI rfl rfl rfl)) rfl ?_
 refine s0 (pickAndA rfl rfl rfl) rfl ?_
 refine s0 moveA rfl ?_
 refine gC rfl rfl (fun hC => moveA) rfl ?_
 obtain ⟨x19, gx19, hE⟩ := guardO_some hE
 refine gC rfl rfl (fun hC => ungdA (k := 85) rfl (idxMn (f := TArg.c) (n := 0) (TK rfl) rfl (TK rfl) rfl rfl rfl (gx19 hC))) rfl ?_
 refine gC rfl rfl (fun hC => ungdA (k := 86) rfl (fieldVA (TK rfl) rfl rfl (TK rfl) rfl rfl)) rfl ?_
 refine gC rfl rfl (fun hC => ungdA (k := 87) rfl (loadV (TK rfl) rfl rfl rfl)) rfl ?_
 refine gC rfl rfl (fun hC => ungdA (k := 88) rfl (binS rfl rfl rfl)) rfl ?_
 refine s0 (pickAndA rfl rfl rfl) rfl ?_
 refine s0 moveA rfl ?_
 refine gC rfl rfl (fun hC => moveA) rfl ?_
 obtain ⟨x20, gx20, hE⟩ := guardO_some hE
 refine gC rfl rfl (fun hC => ungdA (k := 92) rfl (idxMn (f := TArg.c) (n := 0) (TK rfl) rfl (TK rfl) rfl rfl rfl (gx20 hC))) rfl ?_
 refine gC rfl rfl (fun hC => ungdA (k := 93) rfl (fieldVA (TK rfl) rfl rfl (TK rfl) rfl rfl)) rfl ?_
 refine gC rfl rfl (fun hC => ungdA (k := 94) rfl (fieldVA (TK rfl) rfl rfl (TK rfl) rfl rfl)) rfl ?_
 refine gC rfl rfl (fun hC => ungdA (k := 95) rfl (loadV (TK rfl) rfl rfl rfl)) rfl ?_
 refine gC rfl rfl (fun hC => ungdA (k := 96) rfl (binI rfl rfl rfl)) rfl ?_
 refine s0 (pickAndA rfl rfl rfl) rfl ?_
 refine s0 moveA rfl ?_
 refine gC rfl rfl (fun hC => moveA) rfl ?_
 refine gC rfl rfl (fun hC => ungdA (k := 100) rfl (binS rfl rfl rfl)) rfl ?_
 refine s0 (pickAndA rfl rfl rfl) rfl ?_
 refine s0 moveA rfl ?_
 refine gC rfl rfl (fun hC => moveA) rfl ?_
 refine gC rfl rfl (fun hC => ungdA (k := 104) rfl (binI rfl rfl rfl)) rfl ?_
 refine s0 (pickAndA rfl rfl rfl) rfl ?_
 refine s0 moveA rfl ?_
 refine gC rfl rfl (fun hC => moveA) rfl ?_
 obtain ⟨x21, gx21, hE⟩ := guardO_some hE
 refine gC rfl rfl (fun hC => ungdA (k := 108) rfl (callR rfl rfl (Z5_walk (gT := gT) (oT := oT) (gx21 hC) _ hpG (by assumption)))) rfl ?_
 refine gC rfl rfl (fun hC => ungdA (k := 109) rfl (binS rfl rfl rfl)) rfl ?_
 refine s0 (pickAndA rfl rfl rfl) rfl ?_
 refine s0 assignA rfl ?_
 refine nil ?_
 refine hK17 _ ?_
 clear hK17 K17
 refine AWp.ret ?_
 repeat (first | refine xBlock_ret ?_ | refine xThen_ret ?_)
 obtain rfl := Option.some.inj hE
 refine retQ.retF H rfl ⟨rfl, rfl⟩ ?_
 exact (fun _ _ h => h)
def Z33_j7  (s5_8 : Int) : Option Int := some s5_8
def Z33_l11 (a0 : TValue) (a1 : Int) (k_rec_16 : TValue → Int → Option Int) : Nat → Int → Nat → Option Int
 | 0, _, _ => none
 | n11 + 1, s5_12, s7_13 => bif ((decide (((s7_13 : Nat) : Int) < ((a0.FItems.l.length : Nat) : Int))) && (decide (s5_12 ≤ a1))) then ((a0.FItems.l[s7_13]?).bind fun x19 => (k_rec_16 x19 a1).bind fun x20 => (addC s5_12 x20).bind fun x21 => (Z33_l11 a0 a1 k_rec_16 n11) x21 (s7_13 + 1)) else (Z33_j7   s5_12)
def Z33_j5 (a0 : TValue) (a1 : Int) (k_rec_16 : TValue → Int → Option Int) (s5_6 : Int) : Option Int := Z33_l11 a0 a1 k_rec_16 (a0.FItems.l.length + 1) s5_6 0
def Z33_l23 (a0 : TValue) (a1 : Int) (k_rec_16 : TValue → Int → Option Int) : Nat → Int → Nat → Option Int
 | 0, _, _ => none
 | n23 + 1, s5_24, s6_25 => bif ((decide (((s6_25 : Nat) : Int) < ((a0.FKeys.l.length : Nat) : Int))) && (decide (s5_24 ≤ a1))) then ((addC s5_24 (1 : Int)).bind fun x31 => (a0.FKeys.l[s6_25]?).bind fun x32 => (addC x31 ((x32.length : Nat) : Int)).bind fun x34 => (Z33_l23 a0 a1 k_rec_16 n23) x34 (s6_25 + 1)) else (Z33_j5 a0 a1 k_rec_16 s5_24)
def Z33_n : Nat → TValue → Int → Option Int
 | 0, _, _ => none
 | n + 1, a0, a1 => (addC (1 : Int) ((a0.FText.length : Nat) : Int)).bind fun x4 => Z33_l23 a0 a1 (Z33_n n) (a0.FKeys.l.length + 1) x4 0
theorem Z33_step (n : Nat) (ih_16 : ∀ {a0 : TValue} {a1 : Int}   {r : Int}, Z33_n n a0 a1 = some r → ∀ (H : Heap), ACalls Tryz.prog 16 [.agg (TValue.c a0), .d (.int .i64 a1)] H fun v h' => v = .a (.d (.int .i64 r)) ∧ h' = H) : ∀ {a0 : TValue} {a1 : Int}   {r : Int}, Z33_n (n + 1) a0 a1 = some r → ∀ (H : Heap), ACalls Tryz.prog 16 [.agg (TValue.c a0), .d (.int .i64 a1)] H fun v h' => v = .a (.d (.int .i64 r)) ∧ h' = H := by
 intro a0 a1   r hE H 
 rw [Z33_n] at hE
 refine ACalls.of_wp (fn := Tryz.f16) (c := _) Tryz.tab_ok (fun _ _ => Tryz.call16 _ _) Tryz.func16 rfl (n := 55) rfl (rs := [.tmp 4]) rfl rfl ?_
 refine seqK fun K1 hK1 => ?_
 refine region ?_
 refine s0 (boxV rfl) rfl ?_
 refine s0 assignA rfl ?_
 refine nil ?_
 refine hK1 _ ?_
 clear hK1 K1
 refine seqK fun K2 hK2 => ?_
 refine region ?_
 refine s0 (fieldVA (TK rfl) rfl rfl (TK rfl) rfl rfl) rfl ?_
 refine s0 (loadV (TK rfl) rfl rfl rfl) rfl ?_
 refine sLenS (TK rfl) rfl rfl rfl rfl fun hL3 => ?_
 obtain ⟨x4, gx4, hE⟩ := bindO_some hE
 refine s0 (addM rfl rfl gx4) rfl ?_
 refine s0 assignA rfl ?_
 refine nil ?_
 refine hK2 _ ?_
 clear hK2 K2
 refine seqJH (KeepsT.A (k := 1) (KeepsT.A (k := 2) KeepsT.nil)) (fun (z : Int) => [(5, .a (.d (.int .i64 z)))]) (fun z => H) (fun z => Z33_j5 a0 a1 (Z33_n n) z = some r) ?_ ?_
 ·intro K5 hK5
  refine seqK fun K22 hK22 => ?_
  refine region ?_
  refine s0 assignA rfl ?_
  refine nil ?_
  refine hK22 _ ?_
  clear hK22 K22
  refine block ?_
  refine loopH (KeepsT.A (k := 1) (KeepsT.A (k := 2) KeepsT.nil)) (fun (z : Nat × Int × Nat) => [(5, .a (.d (.int .i64 z.2.1))), (6, .a (.d (.int .i64 ((z.2.2 : Nat) : Int))))]) (fun z => H) (fun z => z.1) (fun z => Z33_l23 a0 a1 (Z33_n n) z.1 z.2.1 z.2.2 = some r) ((a0.FKeys.l.length + 1), x4, 0) hE Weak.toA ?_
  rintro ⟨n23, s5_24, s6_25⟩ hE K23 hK23
  try dsimp only at hE
  cases n23 with
  | zero => cases hE
  | succ n23 =>
    rw [Z33_l23] at hE
    refine seqK fun K26 hK26 => ?_
    refine seqK fun K27 hK27 => ?_
    refine region ?_
    refine s0 moveA rfl ?_
    refine s0 (fieldVA (TK rfl) rfl rfl (TK rfl) rfl rfl) rfl ?_
    refine s0 (loadV (TK rfl) rfl rfl rfl) rfl ?_
    refine sLen (f := strE) (s := a0.FKeys) (TK rfl) rfl rfl rfl rfl fun hL28 => ?_
    refine s0 (binI rfl rfl rfl) rfl ?_
    refine s0 moveA rfl ?_
    refine gC rfl rfl (fun hC => moveA) rfl ?_
    refine gC rfl rfl (fun hC => moveA) rfl ?_
    refine gC rfl rfl (fun hC => ungdA (k := 18) rfl (ungdA (k := 19) rfl (binI rfl rfl rfl))) rfl ?_
    refine s0 (pickAndA rfl rfl rfl) rfl ?_
    refine nil ?_
    refine hK27 _ ?_
    clear hK27 K27
    refine condE hE rfl (fun hc29 hE => ?_) (fun hc29 hE => ?_)
    ·try dsimp only at hc29
     have hf29 := of_decide_eq_true (and_left hc29)
     refine AWp.skip ?_
     refine hK26 _ ?_
     clear hK26 K26
     refine seqK fun K30 hK30 => ?_
     refine block ?_
     refine region ?_
     refine s0 moveA rfl ?_
     obtain ⟨x31, gx31, hE⟩ := bindO_some hE
     refine s0 (addM rfl rfl gx31) rfl ?_
     refine s0 (fieldVA (TK rfl) rfl rfl (TK rfl) rfl rfl) rfl ?_
     refine s0 (loadV (TK rfl) rfl rfl rfl) rfl ?_
     refine s0 moveA rfl ?_
     obtain ⟨x32, gx32, hE⟩ := bindO_some hE
     refine s0 (idxMn (f := strE) (n := s6_25) (TK rfl) rfl (TK rfl) rfl rfl rfl gx32) rfl ?_
     refine s0 (loadV (TK rfl) rfl rfl rfl) rfl ?_
     refine sLenS (TK rfl) rfl rfl rfl rfl fun hL33 => ?_
     obtain ⟨x34, gx34, hE⟩ := bindO_some hE
     refine s0 (addM rfl rfl gx34) rfl ?_
     refine s0 assignA rfl ?_
     refine nil ?_
     refine hK30 _ ?_
     clear hK30 K30
     refine region ?_
     refine s0 moveA rfl ?_
     refine s0 (addIA rfl rfl) rfl ?_
     refine s0 assignA rfl ?_
     refine nil ?_
     exact hK23 _ (n23, x34, (s6_25 + 1)) Weak.toA hE (Nat.lt_succ_self _)
    refine AWp.exit ?_
    exact hK5 _ s5_24 Weak.toA hE
 rintro s5_6 hE
 try dsimp only at hE
 unfold Z33_j5 at hE
 refine seqJH KeepsT.nil (fun (z : Int) => [(5, .a (.d (.int .i64 z)))]) (fun z => H) (fun z => Z33_j7 z = some r) ?_ ?_
 ·intro K7 hK7
  refine seqK fun K10 hK10 => ?_
  refine region ?_
  refine s0 assignA rfl ?_
  refine nil ?_
  refine hK10 _ ?_
  clear hK10 K10
  refine block ?_
  refine loopH (KeepsT.A (k := 1) (KeepsT.A (k := 2) KeepsT.nil)) (fun (z : Nat × Int × Nat) => [(5, .a (.d (.int .i64 z.2.1))), (7, .a (.d (.int .i64 ((z.2.2 : Nat) : Int))))]) (fun z => H) (fun z => z.1) (fun z => Z33_l11 a0 a1 (Z33_n n) z.1 z.2.1 z.2.2 = some r) ((a0.FItems.l.length + 1), s5_6, 0) hE Weak.toA ?_
  rintro ⟨n11, s5_12, s7_13⟩ hE K11 hK11
  try dsimp only at hE
  cases n11 with
  | zero => cases hE
  | succ n11 =>
    rw [Z33_l11] at hE
    refine seqK fun K14 hK14 => ?_
    refine seqK fun K15 hK15 => ?_
    refine region ?_
    refine s0 moveA rfl ?_
    refine s0 (fieldVA (TK rfl) rfl rfl (TK rfl) rfl rfl) rfl ?_
    refine s0 (loadV (TK rfl) rfl rfl (congrArg (fun x => some (A.d x)) (TValue.FItemsD_eq _))) rfl ?_
    refine sLen (f := TValue.c) (s := a0.FItems) (TK rfl) rfl rfl rfl rfl fun hL16 => ?_
    refine s0 (binI rfl rfl rfl) rfl ?_
    refine s0 moveA rfl ?_
    refine gC rfl rfl (fun hC => moveA) rfl ?_
    refine gC rfl rfl (fun hC => moveA) rfl ?_
    refine gC rfl rfl (fun hC => ungdA (k := 39) rfl (ungdA (k := 40) rfl (binI rfl rfl rfl))) rfl ?_
    refine s0 (pickAndA rfl rfl rfl) rfl ?_
    refine nil ?_
    refine hK15 _ ?_
    clear hK15 K15
    refine condE hE rfl (fun hc17 hE => ?_) (fun hc17 hE => ?_)
    ·try dsimp only at hc17
     have hf17 := of_decide_eq_true (and_left hc17)
     refine AWp.skip ?_
     refine hK14 _ ?_
     clear hK14 K14
     refine seqK fun K18 hK18 => ?_
     refine block ?_
     refine region ?_
     refine s0 moveA rfl ?_
     refine s0 (fieldVA (TK rfl) rfl rfl (TK rfl) rfl rfl) rfl ?_
     refine s0 (loadV (TK rfl) rfl rfl (congrArg (fun x => some (A.d x)) (TValue.FItemsD_eq _))) rfl ?_
     refine s0 moveA rfl ?_
     obtain ⟨x19, gx19, hE⟩ := bindO_some hE
     refine s0 (idxMn (f := TValue.c) (n := s7_13) (TK rfl) rfl (TK rfl) rfl rfl rfl gx19) rfl ?_
     refine s0 (loadV (TK rfl) rfl rfl rfl) rfl ?_
     refine s0 moveA rfl ?_
     obtain ⟨x20, gx20, hE⟩ := bindO_some hE
     refine s0 (callP rfl rfl (fun H => ih_16 gx20 H)) rfl ?_
     obtain ⟨x21, gx21, hE⟩ := bindO_some hE
     refine s0 (addM rfl rfl gx21) rfl ?_
     refine s0 assignA rfl ?_
     refine nil ?_
     refine hK18 _ ?_
     clear hK18 K18
     refine region ?_
     refine s0 moveA rfl ?_
     refine s0 (addIA rfl rfl) rfl ?_
     refine s0 assignA rfl ?_
     refine nil ?_
     exact hK11 _ (n11, x21, (s7_13 + 1)) Weak.toA hE (Nat.lt_succ_self _)
    refine AWp.exit ?_
    exact hK7 _ s5_12 Weak.toA hE
 rintro s5_8 hE
 try dsimp only at hE
 unfold Z33_j7 at hE
 refine seqK fun K9 hK9 => ?_
 refine region ?_
 refine s0 moveA rfl ?_
 refine s0 assignA rfl ?_
 refine nil ?_
 refine hK9 _ ?_
 clear hK9 K9
 refine AWp.ret ?_
 repeat (first | refine xBlock_ret ?_ | refine xThen_ret ?_)
 obtain rfl := Option.some.inj hE
 refine retQ.retF H rfl ⟨rfl, rfl⟩ ?_
 exact (fun _ _ h => h)
theorem Z33_all : ∀ (n : Nat), (∀ {a0 : TValue} {a1 : Int}   {r : Int}, Z33_n n a0 a1 = some r → ∀ (H : Heap), ACalls Tryz.prog 16 [.agg (TValue.c a0), .d (.int .i64 a1)] H fun v h' => v = .a (.d (.int .i64 r)) ∧ h' = H)
 | 0 => fun hE => by first | cases hE | (rw [Z33_n] at hE; cases hE)
 | n + 1 => Z33_step n (Z33_all n)
def Z33 (a0 : TValue) (a1 : Int) : Option Int := Z33_n F0 a0 a1
theorem Z33_walk {a0 : TValue} {a1 : Int}   {r : Int} (hE : Z33 a0 a1 = some r) (H : Heap)  : ACalls Tryz.prog 16 [.agg (TValue.c a0), .d (.int .i64 a1)] H fun v h' => v = .a (.d (.int .i64 r)) ∧ h' = H := (Z33_all F0) hE H 
def Z49_j3  (s5_4 : Int) : Option Int := some s5_4
def Z49_j14 (s6_9 : Nat) (k_next_7 : Int → Nat → Option Int) (s5_15 : Int) : Option Int := k_next_7 s5_15 (s6_9 + 1)
def Z49_l19 (a0 : (Sl TDir)) (a1 : Int) (s6_9 : Nat) (k_next_7 : Int → Nat → Option Int) : Nat → Int → Nat → Option Int
 | 0, _, _ => none
 | n19 + 1, s5_20, s7_21 => (a0.l[s6_9]?).bind fun x24 => bif ((decide (((s7_21 : Nat) : Int) < ((x24.FArgs.l.length : Nat) : Int))) && (decide (s5_20 ≤ a1))) then ((addC s5_20 (1 : Int)).bind fun x28 => (a0.l[s6_9]?).bind fun x29 => (x29.FArgs.l[s7_21]?).bind fun x30 => (Z33 x30.FValue a1).bind fun x31 => (addC x28 x31).bind fun x32 => (Z49_l19 a0 a1 s6_9 k_next_7 n19) x32 (s7_21 + 1)) else (Z49_j14 s6_9 k_next_7 s5_20)
def Z49_l7 (a0 : (Sl TDir)) (a1 : Int)  : Nat → Int → Nat → Option Int
 | 0, _, _ => none
 | n7 + 1, s5_8, s6_9 => bif ((decide (((s6_9 : Nat) : Int) < ((a0.l.length : Nat) : Int))) && (decide (s5_8 ≤ a1))) then ((addC s5_8 (1 : Int)).bind fun x17 => Z49_l19 a0 a1 s6_9 ((Z49_l7 a0 a1 n7)) (Option.elim (a0.l[s6_9]?) 1 (fun x24 => x24.FArgs.l.length + 1)) x17 0) else (Z49_j3   s5_8)
def Z49 (a0 : (Sl TDir)) (a1 : Int) : Option Int := Z49_l7 a0 a1 (a0.l.length + 1) (0 : Int) 0
theorem Z49_walk {a0 : (Sl TDir)} {a1 : Int} {w0 : Option Nat}  {r : Int} (hE : Z49 a0 a1 = some r) (H : Heap)  : ACalls Tryz.prog 50 [.d (Sl.d 2 TDir.c w0 a0), .d (.int .i64 a1)] H fun v h' => v = .a (.d (.int .i64 r)) ∧ h' = H := by
 unfold Z49 at hE
 refine ACalls.of_wp (fn := Tryz.f50) (c := _) Tryz.tab_ok (fun _ _ => Tryz.call50 _ _) Tryz.func50 rfl (n := 51) rfl (rs := [.tmp 4]) rfl rfl ?_
 refine seqK fun K1 hK1 => ?_
 refine region ?_
 refine s0 assignA rfl ?_
 refine nil ?_
 refine hK1 _ ?_
 clear hK1 K1
 refine seqK fun K2 hK2 => ?_
 refine region ?_
 refine s0 assignA rfl ?_
 refine nil ?_
 refine hK2 _ ?_
 clear hK2 K2
 refine seqJH KeepsT.nil (fun (z : Int) => [(5, .a (.d (.int .i64 z)))]) (fun z => H) (fun z => Z49_j3 z = some r) ?_ ?_
 ·intro K3 hK3
  refine seqK fun K6 hK6 => ?_
  refine region ?_
  refine s0 assignA rfl ?_
  refine nil ?_
  refine hK6 _ ?_
  clear hK6 K6
  refine block ?_
  refine loopH (KeepsT.A (k := 0) (KeepsT.A (k := 1) KeepsT.nil)) (fun (z : Nat × Int × Nat) => [(5, .a (.d (.int .i64 z.2.1))), (6, .a (.d (.int .i64 ((z.2.2 : Nat) : Int))))]) (fun z => H) (fun z => z.1) (fun z => Z49_l7 a0 a1 z.1 z.2.1 z.2.2 = some r) ((a0.l.length + 1), (0 : Int), 0) hE Weak.toA ?_
  rintro ⟨n7, s5_8, s6_9⟩ hE K7 hK7
  try dsimp only at hE
  cases n7 with
  | zero => cases hE
  | succ n7 =>
    rw [Z49_l7] at hE
    refine seqK fun K10 hK10 => ?_
    refine seqK fun K11 hK11 => ?_
    refine region ?_
    refine s0 moveA rfl ?_
    refine s0 moveA rfl ?_
    refine sLen (f := TDir.c) (s := a0) (TK rfl) rfl rfl rfl rfl fun hL12 => ?_
    refine s0 (binI rfl rfl rfl) rfl ?_
    refine s0 moveA rfl ?_
    refine gC rfl rfl (fun hC => moveA) rfl ?_
    refine gC rfl rfl (fun hC => moveA) rfl ?_
    refine gC rfl rfl (fun hC => ungdA (k := 13) rfl (ungdA (k := 14) rfl (binI rfl rfl rfl))) rfl ?_
    refine s0 (pickAndA rfl rfl rfl) rfl ?_
    refine nil ?_
    refine hK11 _ ?_
    clear hK11 K11
    refine condE hE rfl (fun hc13 hE => ?_) (fun hc13 hE => ?_)
    ·try dsimp only at hc13
     have hf13 := of_decide_eq_true (and_left hc13)
     refine AWp.skip ?_
     refine hK10 _ ?_
     clear hK10 K10
     refine seqJH (KeepsT.A (k := 0) (KeepsT.A (k := 1) (KeepsT.A (k := 6) KeepsT.nil))) (fun (z : Int) => [(5, .a (.d (.int .i64 z)))]) (fun z => H) (fun z => Z49_j14 s6_9 ((Z49_l7 a0 a1 n7)) z = some r) ?_ ?_
     ·intro K14 hK14
      refine block ?_
      refine seqK fun K16 hK16 => ?_
      refine region ?_
      refine s0 moveA rfl ?_
      obtain ⟨x17, gx17, hE⟩ := bindO_some hE
      refine s0 (addM rfl rfl gx17) rfl ?_
      refine s0 assignA rfl ?_
      refine nil ?_
      refine hK16 _ ?_
      clear hK16 K16
      refine seqK fun K18 hK18 => ?_
      refine region ?_
      refine s0 assignA rfl ?_
      refine nil ?_
      refine hK18 _ ?_
      clear hK18 K18
      refine block ?_
      refine loopH (KeepsT.A (k := 0) (KeepsT.A (k := 1) (KeepsT.A (k := 6) KeepsT.nil))) (fun (z : Nat × Int × Nat) => [(5, .a (.d (.int .i64 z.2.1))), (7, .a (.d (.int .i64 ((z.2.2 : Nat) : Int))))]) (fun z => H) (fun z => z.1) (fun z => Z49_l19 a0 a1 s6_9 ((Z49_l7 a0 a1 n7)) z.1 z.2.1 z.2.2 = some r) ((Option.elim (a0.l[s6_9]?) 1 (fun x24 => x24.FArgs.l.length + 1)), x17, 0) hE Weak.toA ?_
      rintro ⟨n19, s5_20, s7_21⟩ hE K19 hK19
      try dsimp only at hE
      cases n19 with
      | zero => cases hE
      | succ n19 =>
        rw [Z49_l19] at hE
        refine seqK fun K22 hK22 => ?_
        refine seqK fun K23 hK23 => ?_
        refine region ?_
        refine s0 moveA rfl ?_
        refine s0 moveA rfl ?_
        refine s0 moveA rfl ?_
        obtain ⟨x24, gx24, hE⟩ := bindO_some hE
        refine s0 (idxMn (f := TDir.c) (n := s6_9) (TK rfl) rfl (TK rfl) rfl rfl rfl gx24) rfl ?_
        refine s0 (fieldVA (TK rfl) rfl rfl (TK rfl) rfl rfl) rfl ?_
        refine s0 (loadV (TK rfl) rfl rfl rfl) rfl ?_
        refine sLen (f := TArg.c) (s := x24.FArgs) (TK rfl) rfl rfl rfl rfl fun hL25 => ?_
        refine s0 (binI rfl rfl rfl) rfl ?_
        refine s0 moveA rfl ?_
        refine gC rfl rfl (fun hC => moveA) rfl ?_
        refine gC rfl rfl (fun hC => moveA) rfl ?_
        refine gC rfl rfl (fun hC => ungdA (k := 30) rfl (ungdA (k := 31) rfl (binI rfl rfl rfl))) rfl ?_
        refine s0 (pickAndA rfl rfl rfl) rfl ?_
        refine nil ?_
        refine hK23 _ ?_
        clear hK23 K23
        refine condE hE rfl (fun hc26 hE => ?_) (fun hc26 hE => ?_)
        ·try dsimp only at hc26
         have hf26 := of_decide_eq_true (and_left hc26)
         refine AWp.skip ?_
         refine hK22 _ ?_
         clear hK22 K22
         refine seqK fun K27 hK27 => ?_
         refine block ?_
         refine region ?_
         refine s0 moveA rfl ?_
         obtain ⟨x28, gx28, hE⟩ := bindO_some hE
         refine s0 (addM rfl rfl gx28) rfl ?_
         refine s0 moveA rfl ?_
         refine s0 moveA rfl ?_
         obtain ⟨x29, gx29, hE⟩ := bindO_some hE
         refine s0 (idxMn (f := TDir.c) (n := s6_9) (TK rfl) rfl (TK rfl) rfl rfl rfl gx29) rfl ?_
         refine s0 (fieldVA (TK rfl) rfl rfl (TK rfl) rfl rfl) rfl ?_
         refine s0 (loadV (TK rfl) rfl rfl rfl) rfl ?_
         refine s0 moveA rfl ?_
         obtain ⟨x30, gx30, hE⟩ := bindO_some hE
         refine s0 (idxMn (f := TArg.c) (n := s7_21) (TK rfl) rfl (TK rfl) rfl rfl rfl gx30) rfl ?_
         refine s0 (fieldVA (TK rfl) rfl rfl (TK rfl) rfl rfl) rfl ?_
         refine s0 (loadV (TK rfl) rfl rfl rfl) rfl ?_
         refine s0 moveA rfl ?_
         obtain ⟨x31, gx31, hE⟩ := bindO_some hE
         refine s0 (callP rfl rfl (fun H => Z33_walk gx31 H)) rfl ?_
         obtain ⟨x32, gx32, hE⟩ := bindO_some hE
         refine s0 (addM rfl rfl gx32) rfl ?_
         refine s0 assignA rfl ?_
         refine nil ?_
         refine hK27 _ ?_
         clear hK27 K27
         refine region ?_
         refine s0 moveA rfl ?_
         refine s0 (addIA rfl rfl) rfl ?_
         refine s0 assignA rfl ?_
         refine nil ?_
         exact hK19 _ (n19, x32, (s7_21 + 1)) Weak.toA hE (Nat.lt_succ_self _)
        refine AWp.exit ?_
        exact hK14 _ s5_20 Weak.toA hE
     rintro s5_15 hE
     try dsimp only at hE
     unfold Z49_j14 at hE
     refine region ?_
     refine s0 moveA rfl ?_
     refine s0 (addIA rfl rfl) rfl ?_
     refine s0 assignA rfl ?_
     refine nil ?_
     exact hK7 _ (n7, s5_15, (s6_9 + 1)) Weak.toA hE (Nat.lt_succ_self _)
    refine AWp.exit ?_
    exact hK3 _ s5_8 Weak.toA hE
 rintro s5_4 hE
 try dsimp only at hE
 unfold Z49_j3 at hE
 refine seqK fun K5 hK5 => ?_
 refine region ?_
 refine s0 moveA rfl ?_
 refine s0 assignA rfl ?_
 refine nil ?_
 refine hK5 _ ?_
 clear hK5 K5
 refine AWp.ret ?_
 repeat (first | refine xBlock_ret ?_ | refine xThen_ret ?_)
 obtain rfl := Option.some.inj hE
 refine retQ.retF H rfl ⟨rfl, rfl⟩ ?_
 exact (fun _ _ h => h)
def Z50_j3  (s5_4 : Int) : Option Int := some s5_4
def Z50_l7 (a0 : (Sl TInput)) (a1 : Int)  : Nat → Int → Nat → Option Int
 | 0, _, _ => none
 | n7 + 1, s5_8, s6_9 => bif ((decide (((s6_9 : Nat) : Int) < ((a0.l.length : Nat) : Int))) && (decide (s5_8 ≤ a1))) then ((addC s5_8 (1 : Int)).bind fun x15 => (a0.l[s6_9]?).bind fun x16 => (addC x15 ((x16.FType.FWraps.l.length : Nat) : Int)).bind fun x17 => (a0.l[s6_9]?).bind fun x18 => (Z33 x18.FDefault a1).bind fun x19 => (addC x17 x19).bind fun x20 => (a0.l[s6_9]?).bind fun x21 => (Z49 x21.FDirs a1).bind fun x22 => (addC x20 x22).bind fun x23 => (Z50_l7 a0 a1 n7) x23 (s6_9 + 1)) else (Z50_j3   s5_8)
def Z50 (a0 : (Sl TInput)) (a1 : Int) : Option Int := Z50_l7 a0 a1 (a0.l.length + 1) (0 : Int) 0
theorem Z50_walk {a0 : (Sl TInput)} {a1 : Int} {w0 : Option Nat}  {r : Int} (hE : Z50 a0 a1 = some r) (H : Heap)  : ACalls Tryz.prog 51 [.d (Sl.d 10 TInput.c w0 a0), .d (.int .i64 a1)] H fun v h' => v = .a (.d (.int .i64 r)) ∧ h' = H := by
 unfold Z50 at hE
 refine ACalls.of_wp (fn := Tryz.f51) (c := _) Tryz.tab_ok (fun _ _ => Tryz.call51 _ _) Tryz.func51 rfl (n := 45) rfl (rs := [.tmp 4]) rfl rfl ?_
 refine seqK fun K1 hK1 => ?_
 refine region ?_
 refine s0 assignA rfl ?_
 refine nil ?_
 refine hK1 _ ?_
 clear hK1 K1
 refine seqK fun K2 hK2 => ?_
 refine region ?_
 refine s0 assignA rfl ?_
 refine nil ?_
 refine hK2 _ ?_
 clear hK2 K2
 refine seqJH KeepsT.nil (fun (z : Int) => [(5, .a (.d (.int .i64 z)))]) (fun z => H) (fun z => Z50_j3 z = some r) ?_ ?_
 ·intro K3 hK3
  refine seqK fun K6 hK6 => ?_
  refine region ?_
  refine s0 assignA rfl ?_
  refine nil ?_
  refine hK6 _ ?_
  clear hK6 K6
  refine block ?_
  refine loopH (KeepsT.A (k := 0) (KeepsT.A (k := 1) KeepsT.nil)) (fun (z : Nat × Int × Nat) => [(5, .a (.d (.int .i64 z.2.1))), (6, .a (.d (.int .i64 ((z.2.2 : Nat) : Int))))]) (fun z => H) (fun z => z.1) (fun z => Z50_l7 a0 a1 z.1 z.2.1 z.2.2 = some r) ((a0.l.length + 1), (0 : Int), 0) hE Weak.toA ?_
  rintro ⟨n7, s5_8, s6_9⟩ hE K7 hK7
  try dsimp only at hE
  cases n7 with
  | zero => cases hE
  | succ n7 =>
    rw [Z50_l7] at hE
    refine seqK fun K10 hK10 => ?_
    refine seqK fun K11 hK11 => ?_
    refine region ?_
    refine s0 moveA rfl ?_
    refine s0 moveA rfl ?_
    refine sLen (f := TInput.c) (s := a0) (TK rfl) rfl rfl rfl rfl fun hL12 => ?_
    refine s0 (binI rfl rfl rfl) rfl ?_
    refine s0 moveA rfl ?_
    refine gC rfl rfl (fun hC => moveA) rfl ?_
    refine gC rfl rfl (fun hC => moveA) rfl ?_
    refine gC rfl rfl (fun hC => ungdA (k := 12) rfl (ungdA (k := 13) rfl (binI rfl rfl rfl))) rfl ?_
    refine s0 (pickAndA rfl rfl rfl) rfl ?_
    refine nil ?_
    refine hK11 _ ?_
    clear hK11 K11
    refine condE hE rfl (fun hc13 hE => ?_) (fun hc13 hE => ?_)
    ·try dsimp only at hc13
     have hf13 := of_decide_eq_true (and_left hc13)
     refine AWp.skip ?_
     refine hK10 _ ?_
     clear hK10 K10
     refine seqK fun K14 hK14 => ?_
     refine block ?_
     refine AWp.draw rfl ?_
     refine DOps.s0 moveA rfl ?_
     obtain ⟨x15, gx15, hE⟩ := bindO_some hE
     refine DOps.s0 (addM rfl rfl gx15) rfl ?_
     refine DOps.s0 moveA rfl ?_
     refine DOps.s0 moveA rfl ?_
     obtain ⟨x16, gx16, hE⟩ := bindO_some hE
     refine DOps.s0 (idxMn (f := TInput.c) (n := s6_9) (TK rfl) rfl (TK rfl) rfl rfl rfl gx16) rfl ?_
     refine DOps.s0 (fieldVA (TK rfl) rfl rfl (TK rfl) rfl rfl) rfl ?_
     refine DOps.s0 (fieldVA (TK rfl) rfl rfl (TK rfl) rfl rfl) rfl ?_
     refine DOps.s0 (loadV (TK rfl) rfl rfl rfl) rfl ?_
     refine DOps.s0 (lenM' (f := (intE .i64)) (s := x16.FType.FWraps) (TK rfl) rfl rfl rfl) rfl ?_
     obtain ⟨x17, gx17, hE⟩ := bindO_some hE
     refine DOps.s0 (addM rfl rfl gx17) rfl ?_
     refine DOps.s0 moveA rfl ?_
     refine DOps.s0 moveA rfl ?_
     obtain ⟨x18, gx18, hE⟩ := bindO_some hE
     refine DOps.s0 (idxMn (f := TInput.c) (n := s6_9) (TK rfl) rfl (TK rfl) rfl rfl rfl gx18) rfl ?_
     refine DOps.s0 (fieldVA (TK rfl) rfl rfl (TK rfl) rfl rfl) rfl ?_
     refine DOps.s0 (loadV (TK rfl) rfl rfl rfl) rfl ?_
     refine DOps.s0 moveA rfl ?_
     obtain ⟨x19, gx19, hE⟩ := bindO_some hE
     refine DOps.s0 (callP rfl rfl (fun H => Z33_walk gx19 H)) rfl ?_
     obtain ⟨x20, gx20, hE⟩ := bindO_some hE
     refine DOps.s0 (addM rfl rfl gx20) rfl ?_
     refine DOps.s0 moveA rfl ?_
     refine DOps.s0 moveA rfl ?_
     obtain ⟨x21, gx21, hE⟩ := bindO_some hE
     refine DOps.s0 (idxMn (f := TInput.c) (n := s6_9) (TK rfl) rfl (TK rfl) rfl rfl rfl gx21) rfl ?_
     refine DOps.s0 (fieldVA (TK rfl) rfl rfl (TK rfl) rfl rfl) rfl ?_
     refine DOps.s0 (loadV (TK rfl) rfl rfl rfl) rfl ?_
     refine DOps.s0 moveA rfl ?_
     obtain ⟨x22, gx22, hE⟩ := bindO_some hE
     refine DOps.s0 (callP rfl rfl (fun H => Z49_walk gx22 H)) rfl ?_
     obtain ⟨x23, gx23, hE⟩ := bindO_some hE
     refine DOps.s0 (addM rfl rfl gx23) rfl ?_
     refine DOps.s0 assignA rfl ?_
     refine DOps.nil (by decide +kernel) ?_
     refine hK14 _ ?_
     clear hK14 K14
     refine region ?_
     refine s0 moveA rfl ?_
     refine s0 (addIA rfl rfl) rfl ?_
     refine s0 assignA rfl ?_
     refine nil ?_
     exact hK7 _ (n7, x23, (s6_9 + 1)) Weak.toA hE (Nat.lt_succ_self _)
    refine AWp.exit ?_
    exact hK3 _ s5_8 Weak.toA hE
 rintro s5_4 hE
 try dsimp only at hE
 unfold Z50_j3 at hE
 refine seqK fun K5 hK5 => ?_
 refine region ?_
 refine s0 moveA rfl ?_
 refine s0 assignA rfl ?_
 refine nil ?_
 refine hK5 _ ?_
 clear hK5 K5
 refine AWp.ret ?_
 repeat (first | refine xBlock_ret ?_ | refine xThen_ret ?_)
 obtain rfl := Option.some.inj hE
 refine retQ.retF H rfl ⟨rfl, rfl⟩ ?_
 exact (fun _ _ h => h)
end Go.Proofs

namespace Go.Proofs
open Go Go.Ab
open AOps Cert AWp
variable {lou : Lou}
def Z41_j4  (s5_5 : Int) : Option Int := some s5_5
def Z41_j15 (s6_10 : Nat) (k_next_8 : Int → Nat → Option Int) (s5_16 : Int) : Option Int := k_next_8 s5_16 (s6_10 + 1)
def Z41_l28 (a1 : Int) (s6_10 : Nat) (x18 : TDef) (k_next_8 : Int → Nat → Option Int) : Nat → Int → Nat → Option Int
 | 0, _, _ => none
 | n28 + 1, s5_29, s9_30 => bif ((decide (((s9_30 : Nat) : Int) < ((x18.FMembers.l.length : Nat) : Int))) && (decide (s5_29 ≤ a1))) then ((addC s5_29 (1 : Int)).bind fun x36 => (x18.FMembers.l[s9_30]?).bind fun x37 => (Z49 x37.FDirs a1).bind fun x38 => (addC x36 x38).bind fun x39 => (Z41_l28 a1 s6_10 x18 k_next_8 n28) x39 (s9_30 + 1)) else (Z41_j15 s6_10 k_next_8 s5_29)
def Z41_j25 (a1 : Int) (s6_10 : Nat) (x18 : TDef) (k_next_8 : Int → Nat → Option Int) (s5_26 : Int) : Option Int := Z41_l28 a1 s6_10 x18 k_next_8 (x18.FMembers.l.length + 1) s5_26 0
def Z41_l41 (a1 : Int) (s6_10 : Nat) (x18 : TDef) (k_next_8 : Int → Nat → Option Int) : Nat → Int → Nat → Option Int
 | 0, _, _ => none
 | n41 + 1, s5_42, s8_43 => bif ((decide (((s8_43 : Nat) : Int) < ((x18.FFields.l.length : Nat) : Int))) && (decide (s5_42 ≤ a1))) then ((addC s5_42 (1 : Int)).bind fun x49 => (x18.FFields.l[s8_43]?).bind fun x50 => (addC x49 ((x50.FType.FWraps.l.length : Nat) : Int)).bind fun x51 => (x18.FFields.l[s8_43]?).bind fun x52 => (Z50 x52.FArgs a1).bind fun x53 => (addC x51 x53).bind fun x54 => (x18.FFields.l[s8_43]?).bind fun x55 => (Z49 x55.FDirs a1).bind fun x56 => (addC x54 x56).bind fun x57 => (Z41_l41 a1 s6_10 x18 k_next_8 n41) x57 (s8_43 + 1)) else (Z41_j25 a1 s6_10 x18 k_next_8 s5_42)
def Z41_l8 (a0 : TDoc) (a1 : Int)  : Nat → Int → Nat → Option Int
 | 0, _, _ => none
 | n8 + 1, s5_9, s6_10 => bif ((decide (((s6_10 : Nat) : Int) < ((a0.FDefs.l.length : Nat) : Int))) && (decide (s5_9 ≤ a1))) then ((a0.FDefs.l[s6_10]?).bind fun x18 => (addC s5_9 ((x18.FImplements.l.length : Nat) : Int)).bind fun x20 => (Z49 x18.FDirs a1).bind fun x21 => (addC x20 x21).bind fun x22 => (Z50 x18.FInputs a1).bind fun x23 => (addC x22 x23).bind fun x24 => Z41_l41 a1 s6_10 x18 ((Z41_l8 a0 a1 n8)) (x18.FFields.l.length + 1) x24 0) else (Z41_j4   s5_9)
def Z41 (a0 : TDoc) (a1 : Int) : Option Int := Z41_l8 a0 a1 (a0.FDefs.l.length + 1) ((a0.FDefs.l.length : Nat) : Int) 0
theorem Z41_walk {a0 : TDoc} {a1 : Int}   {r : Int} (hE : Z41 a0 a1 = some r) (H : Heap)  : ACalls Tryz.prog 22 [.agg (TDoc.c a0), .d (.int .i64 a1)] H fun v h' => v = .a (.d (.int .i64 r)) ∧ h' = H := by
 unfold Z41 at hE
 refine ACalls.of_wp (fn := Tryz.f22) (c := _) Tryz.tab_ok (fun _ _ => Tryz.call22 _ _) Tryz.func22 rfl (n := 110) rfl (rs := [.tmp 4]) rfl rfl ?_
 refine seqK fun K1 hK1 => ?_
 refine region ?_
 refine s0 (boxV rfl) rfl ?_
 refine s0 assignA rfl ?_
 refine nil ?_
 refine hK1 _ ?_
 clear hK1 K1
 refine seqK fun K2 hK2 => ?_
 refine region ?_
 refine s0 (fieldVA (TK rfl) rfl rfl (TK rfl) rfl rfl) rfl ?_
 refine s0 (loadV (TK rfl) rfl rfl rfl) rfl ?_
 refine sLen (f := TDef.c) (s := a0.FDefs) (TK rfl) rfl rfl rfl rfl fun hL3 => ?_
 refine s0 assignA rfl ?_
 refine nil ?_
 refine hK2 _ ?_
 clear hK2 K2
 refine seqJH KeepsT.nil (fun (z : Int) => [(5, .a (.d (.int .i64 z)))]) (fun z => H) (fun z => Z41_j4 z = some r) ?_ ?_
 ·intro K4 hK4
  refine seqK fun K7 hK7 => ?_
  refine region ?_
  refine s0 assignA rfl ?_
  refine nil ?_
  refine hK7 _ ?_
  clear hK7 K7
  refine block ?_
  refine loopH (KeepsT.A (k := 1) (KeepsT.A (k := 2) KeepsT.nil)) (fun (z : Nat × Int × Nat) => [(5, .a (.d (.int .i64 z.2.1))), (6, .a (.d (.int .i64 ((z.2.2 : Nat) : Int))))]) (fun z => H) (fun z => z.1) (fun z => Z41_l8 a0 a1 z.1 z.2.1 z.2.2 = some r) ((a0.FDefs.l.length + 1), ((a0.FDefs.l.length : Nat) : Int), 0) hE Weak.toA ?_
  rintro ⟨n8, s5_9, s6_10⟩ hE K8 hK8
  try dsimp only at hE
  cases n8 with
  | zero => cases hE
  | succ n8 =>
    rw [Z41_l8] at hE
    refine seqK fun K11 hK11 => ?_
    refine seqK fun K12 hK12 => ?_
    refine region ?_
    refine s0 moveA rfl ?_
    refine s0 (fieldVA (TK rfl) rfl rfl (TK rfl) rfl rfl) rfl ?_
    refine s0 (loadV (TK rfl) rfl rfl rfl) rfl ?_
    refine sLen (f := TDef.c) (s := a0.FDefs) (TK rfl) rfl rfl rfl rfl fun hL13 => ?_
    refine s0 (binI rfl rfl rfl) rfl ?_
    refine s0 moveA rfl ?_
    refine gC rfl rfl (fun hC => moveA) rfl ?_
    refine gC rfl rfl (fun hC => moveA) rfl ?_
    refine gC rfl rfl (fun hC => ungdA (k := 19) rfl (ungdA (k := 20) rfl (binI rfl rfl rfl))) rfl ?_
    refine s0 (pickAndA rfl rfl rfl) rfl ?_
    refine nil ?_
    refine hK12 _ ?_
    clear hK12 K12
    refine condE hE rfl (fun hc14 hE => ?_) (fun hc14 hE => ?_)
    ·try dsimp only at hc14
     have hf14 := of_decide_eq_true (and_left hc14)
     refine AWp.skip ?_
     refine hK11 _ ?_
     clear hK11 K11
     refine seqJH (KeepsT.A (k := 1) (KeepsT.A (k := 2) (KeepsT.A (k := 6) KeepsT.nil))) (fun (z : Int) => [(5, .a (.d (.int .i64 z)))]) (fun z => H) (fun z => Z41_j15 s6_10 ((Z41_l8 a0 a1 n8)) z = some r) ?_ ?_
     ·intro K15 hK15
      refine block ?_
      refine seqK fun K17 hK17 => ?_
      refine region ?_
      refine s0 (fieldVA (TK rfl) rfl rfl (TK rfl) rfl rfl) rfl ?_
      refine s0 (loadV (TK rfl) rfl rfl rfl) rfl ?_
      refine s0 moveA rfl ?_
      obtain ⟨x18, gx18, hE⟩ := bindO_some hE
      refine s0 (idxMn (f := TDef.c) (n := s6_10) (TK rfl) rfl (TK rfl) rfl rfl rfl gx18) rfl ?_
      refine s0 (loadV (TK rfl) rfl rfl rfl) rfl ?_
      refine sL (allocLA (TK rfl) rfl) rfl ?_
      refine sLn (storeLFA (TK rfl) rfl rfl rfl rfl rfl) ?_
      refine nil ?_
      refine hK17 _ ?_
      clear hK17 K17
      refine freezeA 7 _ rfl (Keeps.c (k := 1) (by conv => lhs; whnf) (by rfl) (Keeps.c (k := 2) (by conv => lhs; whnf) (by rfl) (Keeps.c (k := 5) (by conv => lhs; whnf) (by rfl) (Keeps.c (k := 6) (by conv => lhs; whnf) (by rfl) Keeps.nil)))) ?_
      refine seqK fun K19 hK19 => ?_
      refine AWp.draw rfl ?_
      refine DOps.s0 moveA rfl ?_
      refine DOps.s0 (fieldVA (TK rfl) rfl rfl (TK rfl) rfl rfl) rfl ?_
      refine DOps.s0 (loadV (TK rfl) rfl rfl rfl) rfl ?_
      refine DOps.s0 (lenM' (f := strE) (s := x18.FImplements) (TK rfl) rfl rfl rfl) rfl ?_
      obtain ⟨x20, gx20, hE⟩ := bindO_some hE
      refine DOps.s0 (addM rfl rfl gx20) rfl ?_
      refine DOps.s0 (fieldVA (TK rfl) rfl rfl (TK rfl) rfl rfl) rfl ?_
      refine DOps.s0 (loadV (TK rfl) rfl rfl rfl) rfl ?_
      refine DOps.s0 moveA rfl ?_
      obtain ⟨x21, gx21, hE⟩ := bindO_some hE
      refine DOps.s0 (callP rfl rfl (fun H => Z49_walk gx21 H)) rfl ?_
      obtain ⟨x22, gx22, hE⟩ := bindO_some hE
      refine DOps.s0 (addM rfl rfl gx22) rfl ?_
      refine DOps.s0 (fieldVA (TK rfl) rfl rfl (TK rfl) rfl rfl) rfl ?_
      refine DOps.s0 (loadV (TK rfl) rfl rfl rfl) rfl ?_
      refine DOps.s0 moveA rfl ?_
      obtain ⟨x23, gx23, hE⟩ := bindO_some hE
      refine DOps.s0 (callP rfl rfl (fun H => Z50_walk gx23 H)) rfl ?_
      obtain ⟨x24, gx24, hE⟩ := bindO_some hE
      refine DOps.s0 (addM rfl rfl gx24) rfl ?_
      refine DOps.s0 assignA rfl ?_
      refine DOps.nil (by decide +kernel) ?_
      refine hK19 _ ?_
      clear hK19 K19
      refine seqJH (KeepsT.A (k := 1) (KeepsT.A (k := 2) (KeepsT.A (k := 6) (KeepsT.A (k := 7) KeepsT.nil)))) (fun (z : Int) => [(5, .a (.d (.int .i64 z)))]) (fun z => H) (fun z => Z41_j25 a1 s6_10 x18 ((Z41_l8 a0 a1 n8)) z = some r) ?_ ?_
      ·intro K25 hK25
       refine seqK fun K40 hK40 => ?_
       refine region ?_
       refine s0 assignA rfl ?_
       refine nil ?_
       refine hK40 _ ?_
       clear hK40 K40
       refine block ?_
       refine loopH (KeepsT.A (k := 1) (KeepsT.A (k := 2) (KeepsT.A (k := 6) (KeepsT.A (k := 7) KeepsT.nil)))) (fun (z : Nat × Int × Nat) => [(5, .a (.d (.int .i64 z.2.1))), (8, .a (.d (.int .i64 ((z.2.2 : Nat) : Int))))]) (fun z => H) (fun z => z.1) (fun z => Z41_l41 a1 s6_10 x18 ((Z41_l8 a0 a1 n8)) z.1 z.2.1 z.2.2 = some r) ((x18.FFields.l.length + 1), x24, 0) hE Weak.toA ?_
       rintro ⟨n41, s5_42, s8_43⟩ hE K41 hK41
       try dsimp only at hE
       cases n41 with
       | zero => cases hE
       | succ n41 =>
         rw [Z41_l41] at hE
         refine seqK fun K44 hK44 => ?_
         refine seqK fun K45 hK45 => ?_
         refine region ?_
         refine s0 moveA rfl ?_
         refine s0 (fieldVA (TK rfl) rfl rfl (TK rfl) rfl rfl) rfl ?_
         refine s0 (loadV (TK rfl) rfl rfl rfl) rfl ?_
         refine sLen (f := TField.c) (s := x18.FFields) (TK rfl) rfl rfl rfl rfl fun hL46 => ?_
         refine s0 (binI rfl rfl rfl) rfl ?_
         refine s0 moveA rfl ?_
         refine gC rfl rfl (fun hC => moveA) rfl ?_
         refine gC rfl rfl (fun hC => moveA) rfl ?_
         refine gC rfl rfl (fun hC => ungdA (k := 51) rfl (ungdA (k := 52) rfl (binI rfl rfl rfl))) rfl ?_
         refine s0 (pickAndA rfl rfl rfl) rfl ?_
         refine nil ?_
         refine hK45 _ ?_
         clear hK45 K45
         refine condE hE rfl (fun hc47 hE => ?_) (fun hc47 hE => ?_)
         ·try dsimp only at hc47
          have hf47 := of_decide_eq_true (and_left hc47)
          refine AWp.skip ?_
          refine hK44 _ ?_
          clear hK44 K44
          refine seqK fun K48 hK48 => ?_
          refine block ?_
          refine AWp.draw rfl ?_
          refine DOps.s0 moveA rfl ?_
          obtain ⟨x49, gx49, hE⟩ := bindO_some hE
          refine DOps.s0 (addM rfl rfl gx49) rfl ?_
          refine DOps.s0 (fieldVA (TK rfl) rfl rfl (TK rfl) rfl rfl) rfl ?_
          refine DOps.s0 (loadV (TK rfl) rfl rfl rfl) rfl ?_
          refine DOps.s0 moveA rfl ?_
          obtain ⟨x50, gx50, hE⟩ := bindO_some hE
          refine DOps.s0 (idxMn (f := TField.c) (n := s8_43) (TK rfl) rfl (TK rfl) rfl rfl rfl gx50) rfl ?_
          refine DOps.s0 (fieldVA (TK rfl) rfl rfl (TK rfl) rfl rfl) rfl ?_
          refine DOps.s0 (fieldVA (TK rfl) rfl rfl (TK rfl) rfl rfl) rfl ?_
          refine DOps.s0 (loadV (TK rfl) rfl rfl rfl) rfl ?_
          refine DOps.s0 (lenM' (f := (intE .i64)) (s := x50.FType.FWraps) (TK rfl) rfl rfl rfl) rfl ?_
          obtain ⟨x51, gx51, hE⟩ := bindO_some hE
          refine DOps.s0 (addM rfl rfl gx51) rfl ?_
          refine DOps.s0 (fieldVA (TK rfl) rfl rfl (TK rfl) rfl rfl) rfl ?_
          refine DOps.s0 (loadV (TK rfl) rfl rfl rfl) rfl ?_
          refine DOps.s0 moveA rfl ?_
          obtain ⟨x52, gx52, hE⟩ := bindO_some hE
          refine DOps.s0 (idxMn (f := TField.c) (n := s8_43) (TK rfl) rfl (TK rfl) rfl rfl rfl gx52) rfl ?_
          refine DOps.s0 (fieldVA (TK rfl) rfl rfl (TK rfl) rfl rfl) rfl ?_
          refine DOps.s0 (loadV (TK rfl) rfl rfl rfl) rfl ?_
          refine DOps.s0 moveA rfl ?_
          obtain ⟨x53, gx53, hE⟩ := bindO_some hE
          refine DOps.s0 (callP rfl rfl (fun H => Z50_walk gx53 H)) rfl ?_
          obtain ⟨x54, gx54, hE⟩ := bindO_some hE
          refine DOps.s0 (addM rfl rfl gx54) rfl ?_
          refine DOps.s0 (fieldVA (TK rfl) rfl rfl (TK rfl) rfl rfl) rfl ?_
          refine DOps.s0 (loadV (TK rfl) rfl rfl rfl) rfl ?_
          refine DOps.s0 moveA rfl ?_
          obtain ⟨x55, gx55, hE⟩ := bindO_some hE
          refine DOps.s0 (idxMn (f := TField.c) (n := s8_43) (TK rfl) rfl (TK rfl) rfl rfl rfl gx55) rfl ?_
          refine DOps.s0 (fieldVA (TK rfl) rfl rfl (TK rfl) rfl rfl) rfl ?_
          refine DOps.s0 (loadV (TK rfl) rfl rfl rfl) rfl ?_
          refine DOps.s0 moveA rfl ?_
          obtain ⟨x56, gx56, hE⟩ := bindO_some hE
          refine DOps.s0 (callP rfl rfl (fun H => Z49_walk gx56 H)) rfl ?_
          obtain ⟨x57, gx57, hE⟩ := bindO_some hE
          refine DOps.s0 (addM rfl rfl gx57) rfl ?_
          refine DOps.s0 assignA rfl ?_
          refine DOps.nil (by decide +kernel) ?_
          refine hK48 _ ?_
          clear hK48 K48
          refine region ?_
          refine s0 moveA rfl ?_
          refine s0 (addIA rfl rfl) rfl ?_
          refine s0 assignA rfl ?_
          refine nil ?_
          exact hK41 _ (n41, x57, (s8_43 + 1)) Weak.toA hE (Nat.lt_succ_self _)
         refine AWp.exit ?_
         exact hK25 _ s5_42 Weak.toA hE
      rintro s5_26 hE
      try dsimp only at hE
      unfold Z41_j25 at hE
      refine seqK fun K27 hK27 => ?_
      refine region ?_
      refine s0 assignA rfl ?_
      refine nil ?_
      refine hK27 _ ?_
      clear hK27 K27
      refine block ?_
      refine loopH (KeepsT.A (k := 1) (KeepsT.A (k := 2) (KeepsT.A (k := 6) (KeepsT.A (k := 7) KeepsT.nil)))) (fun (z : Nat × Int × Nat) => [(5, .a (.d (.int .i64 z.2.1))), (9, .a (.d (.int .i64 ((z.2.2 : Nat) : Int))))]) (fun z => H) (fun z => z.1) (fun z => Z41_l28 a1 s6_10 x18 ((Z41_l8 a0 a1 n8)) z.1 z.2.1 z.2.2 = some r) ((x18.FMembers.l.length + 1), s5_26, 0) hE Weak.toA ?_
      rintro ⟨n28, s5_29, s9_30⟩ hE K28 hK28
      try dsimp only at hE
      cases n28 with
      | zero => cases hE
      | succ n28 =>
        rw [Z41_l28] at hE
        refine seqK fun K31 hK31 => ?_
        refine seqK fun K32 hK32 => ?_
        refine region ?_
        refine s0 moveA rfl ?_
        refine s0 (fieldVA (TK rfl) rfl rfl (TK rfl) rfl rfl) rfl ?_
        refine s0 (loadV (TK rfl) rfl rfl rfl) rfl ?_
        refine sLen (f := TMember.c) (s := x18.FMembers) (TK rfl) rfl rfl rfl rfl fun hL33 => ?_
        refine s0 (binI rfl rfl rfl) rfl ?_
        refine s0 moveA rfl ?_
        refine gC rfl rfl (fun hC => moveA) rfl ?_
        refine gC rfl rfl (fun hC => moveA) rfl ?_
        refine gC rfl rfl (fun hC => ungdA (k := 92) rfl (ungdA (k := 93) rfl (binI rfl rfl rfl))) rfl ?_
        refine s0 (pickAndA rfl rfl rfl) rfl ?_
        refine nil ?_
        refine hK32 _ ?_
        clear hK32 K32
        refine condE hE rfl (fun hc34 hE => ?_) (fun hc34 hE => ?_)
        ·try dsimp only at hc34
         have hf34 := of_decide_eq_true (and_left hc34)
         refine AWp.skip ?_
         refine hK31 _ ?_
         clear hK31 K31
         refine seqK fun K35 hK35 => ?_
         refine block ?_
         refine region ?_
         refine s0 moveA rfl ?_
         obtain ⟨x36, gx36, hE⟩ := bindO_some hE
         refine s0 (addM rfl rfl gx36) rfl ?_
         refine s0 (fieldVA (TK rfl) rfl rfl (TK rfl) rfl rfl) rfl ?_
         refine s0 (loadV (TK rfl) rfl rfl rfl) rfl ?_
         refine s0 moveA rfl ?_
         obtain ⟨x37, gx37, hE⟩ := bindO_some hE
         refine s0 (idxMn (f := TMember.c) (n := s9_30) (TK rfl) rfl (TK rfl) rfl rfl rfl gx37) rfl ?_
         refine s0 (fieldVA (TK rfl) rfl rfl (TK rfl) rfl rfl) rfl ?_
         refine s0 (loadV (TK rfl) rfl rfl rfl) rfl ?_
         refine s0 moveA rfl ?_
         obtain ⟨x38, gx38, hE⟩ := bindO_some hE
         refine s0 (callP rfl rfl (fun H => Z49_walk gx38 H)) rfl ?_
         obtain ⟨x39, gx39, hE⟩ := bindO_some hE
         refine s0 (addM rfl rfl gx39) rfl ?_
         refine s0 assignA rfl ?_
         refine nil ?_
         refine hK35 _ ?_
         clear hK35 K35
         refine region ?_
         refine s0 moveA rfl ?_
         refine s0 (addIA rfl rfl) rfl ?_
         refine s0 assignA rfl ?_
         refine nil ?_
         exact hK28 _ (n28, x39, (s9_30 + 1)) Weak.toA hE (Nat.lt_succ_self _)
        refine AWp.exit ?_
        exact hK15 _ s5_29 Weak.toA hE
     rintro s5_16 hE
     try dsimp only at hE
     unfold Z41_j15 at hE
     refine region ?_
     refine s0 moveA rfl ?_
     refine s0 (addIA rfl rfl) rfl ?_
     refine s0 assignA rfl ?_
     refine nil ?_
     exact hK8 _ (n8, s5_16, (s6_10 + 1)) Weak.toA hE (Nat.lt_succ_self _)
    refine AWp.exit ?_
    exact hK4 _ s5_9 Weak.toA hE
 rintro s5_5 hE
 try dsimp only at hE
 unfold Z41_j4 at hE
 refine seqK fun K6 hK6 => ?_
 refine region ?_
 refine s0 moveA rfl ?_
 refine s0 assignA rfl ?_
 refine nil ?_
 refine hK6 _ ?_
 clear hK6 K6
 refine AWp.ret ?_
 repeat (first | refine xBlock_ret ?_ | refine xThen_ret ?_)
 obtain rfl := Option.some.inj hE
 refine retQ.retF H rfl ⟨rfl, rfl⟩ ?_
 exact (fun _ _ h => h)
def Z24 (a0 : Int) : Option Bool := some ((((decide ((65 : Int) ≤ a0)) && (decide (a0 ≤ (90 : Int)))) || ((decide ((97 : Int) ≤ a0)) && (decide (a0 ≤ (122 : Int))))) || (decide (a0 = (95 : Int))))
theorem Z24_walk {a0 : Int}   {r : Bool} (hE : Z24 a0 = some r) (H : Heap)  : ACalls Tryz.prog 80 [.d (.int .u8 a0)] H fun v h' => v = .a (.d (.bool r)) ∧ h' = H := by
 unfold Z24 at hE
 refine ACalls.of_wp (fn := Tryz.f80) (c := _) Tryz.tab_ok (fun _ _ => Tryz.call80 _ _) Tryz.func80 rfl (n := 21) rfl (rs := [.tmp 2]) rfl rfl ?_
 refine seqK fun K1 hK1 => ?_
 refine region ?_
 refine s0 assignA rfl ?_
 refine nil ?_
 refine hK1 _ ?_
 clear hK1 K1
 refine seqK fun K2 hK2 => ?_
 refine region ?_
 refine s0 moveA rfl ?_
 refine s0 (binI rfl rfl rfl) rfl ?_
 refine s0 moveA rfl ?_
 refine gC rfl rfl (fun hC => moveA) rfl ?_
 refine gC rfl rfl (fun hC => ungdA (k := 6) rfl (binI rfl rfl rfl)) rfl ?_
 refine s0 (pickAndA rfl rfl rfl) rfl ?_
 refine s0 moveA rfl ?_
 refine gC rfl rfl (fun hC => moveA) rfl ?_
 refine gC rfl rfl (fun hC => ungdA (k := 10) rfl (binI rfl rfl rfl)) rfl ?_
 refine gC rfl rfl (fun hC => ungdA (k := 11) rfl moveA) rfl ?_
 refine gC rfl rfl (fun hC => moveA) rfl ?_
 refine gC rfl rfl (fun hC => ungdA (k := 13) rfl (binI rfl rfl rfl)) rfl ?_
 refine gC rfl rfl (fun hC => ungdA (k := 12) rfl (pickAndA rfl rfl rfl)) rfl ?_
 refine s0 (pickOrA rfl rfl rfl) rfl ?_
 refine s0 moveA rfl ?_
 refine gC rfl rfl (fun hC => moveA) rfl ?_
 refine gC rfl rfl (fun hC => ungdA (k := 18) rfl (binI rfl rfl rfl)) rfl ?_
 refine s0 (pickOrA rfl rfl rfl) rfl ?_
 refine s0 assignA rfl ?_
 refine nil ?_
 refine hK2 _ ?_
 clear hK2 K2
 refine AWp.ret ?_
 repeat (first | refine xBlock_ret ?_ | refine xThen_ret ?_)
 obtain rfl := Option.some.inj hE
 refine retQ.retF H rfl ⟨rfl, rfl⟩ ?_
 exact (fun _ _ h => h)
def Z22 (a0 : Int) : Option Bool := some ((decide ((48 : Int) ≤ a0)) && (decide (a0 ≤ (57 : Int))))
theorem Z22_walk {a0 : Int}   {r : Bool} (hE : Z22 a0 = some r) (H : Heap)  : ACalls Tryz.prog 81 [.d (.int .u8 a0)] H fun v h' => v = .a (.d (.bool r)) ∧ h' = H := by
 unfold Z22 at hE
 refine ACalls.of_wp (fn := Tryz.f81) (c := _) Tryz.tab_ok (fun _ _ => Tryz.call81 _ _) Tryz.func81 rfl (n := 9) rfl (rs := [.tmp 2]) rfl rfl ?_
 refine seqK fun K1 hK1 => ?_
 refine region ?_
 refine s0 assignA rfl ?_
 refine nil ?_
 refine hK1 _ ?_
 clear hK1 K1
 refine seqK fun K2 hK2 => ?_
 refine region ?_
 refine s0 moveA rfl ?_
 refine s0 (binI rfl rfl rfl) rfl ?_
 refine s0 moveA rfl ?_
 refine gC rfl rfl (fun hC => moveA) rfl ?_
 refine gC rfl rfl (fun hC => ungdA (k := 6) rfl (binI rfl rfl rfl)) rfl ?_
 refine s0 (pickAndA rfl rfl rfl) rfl ?_
 refine s0 assignA rfl ?_
 refine nil ?_
 refine hK2 _ ?_
 clear hK2 K2
 refine AWp.ret ?_
 repeat (first | refine xBlock_ret ?_ | refine xThen_ret ?_)
 obtain rfl := Option.some.inj hE
 refine retQ.retF H rfl ⟨rfl, rfl⟩ ?_
 exact (fun _ _ h => h)
def Z21_j7   : Option Bool := some true
def Z21_l10 (a0 : Bs)  : Nat → Nat → Option Bool
 | 0, _ => none
 | n10 + 1, s3_11 => bif (decide (((s3_11 : Nat) : Int) < ((a0.length : Nat) : Int))) then ((a0[s3_11]?).bind fun x18 => (Z24 ((x18.toNat : Nat) : Int)).bind fun x19 => guardO (((!x19) && !(decide (((s3_11 : Nat) : Int) = (0 : Int))))) (a0[s3_11]?) (0 : UInt8) fun x20 => guardO (((!x19) && !(decide (((s3_11 : Nat) : Int) = (0 : Int))))) (Z22 ((x20.toNat : Nat) : Int)) false fun x21 => bif ((!x19) && ((decide (((s3_11 : Nat) : Int) = (0 : Int))) || (!x21))) then (some false) else ((Z21_l10 a0 n10) (s3_11 + 1))) else (Z21_j7   )
def Z21 (a0 : Bs) : Option Bool := bif ((decide (((a0.length : Nat) : Int) < (1 : Int))) || (decide ((64 : Int) < ((a0.length : Nat) : Int)))) then (some false) else (Z21_l10 a0 (a0.length + 1) 0)
theorem Z21_walk {a0 : Bs}   {r : Bool} (hE : Z21 a0 = some r) (H : Heap)  : ACalls Tryz.prog 55 [.d (.str a0)] H fun v h' => v = .a (.d (.bool r)) ∧ h' = H := by
 unfold Z21 at hE
 refine ACalls.of_wp (fn := Tryz.f55) (c := _) Tryz.tab_ok (fun _ _ => Tryz.call55 _ _) Tryz.func55 rfl (n := 34) rfl (rs := [.tmp 2]) rfl rfl ?_
 refine seqK fun K1 hK1 => ?_
 refine region ?_
 refine s0 assignA rfl ?_
 refine nil ?_
 refine hK1 _ ?_
 clear hK1 K1
 refine seqK fun K2 hK2 => ?_
 refine seqK fun K3 hK3 => ?_
 refine region ?_
 refine s0 moveA rfl ?_
 refine sLenS (TK rfl) rfl rfl rfl rfl fun hL4 => ?_
 refine s0 (binI rfl rfl rfl) rfl ?_
 refine s0 moveA rfl ?_
 refine gC rfl rfl (fun hC => moveA) rfl ?_
 refine gC rfl rfl (fun hC => ungdA (k := 8) rfl (lenS (TK rfl) rfl rfl rfl)) rfl ?_
 refine gC rfl rfl (fun hC => ungdA (k := 9) rfl (binI rfl rfl rfl)) rfl ?_
 refine s0 (pickOrA rfl rfl rfl) rfl ?_
 refine nil ?_
 refine hK3 _ ?_
 clear hK3 K3
 refine condE hE rfl (fun hc5 hE => ?_) (fun hc5 hE => ?_)
 ·refine seqK fun K6 hK6 => ?_
  refine region ?_
  refine s0 assignA rfl ?_
  refine nil ?_
  refine hK6 _ ?_
  clear hK6 K6
  refine AWp.ret ?_
  repeat (first | refine xBlock_ret ?_ | refine xThen_ret ?_)
  obtain rfl := Option.some.inj hE
  refine retQ.retF H rfl ⟨rfl, rfl⟩ ?_
  exact (fun _ _ h => h)
 refine AWp.skip ?_
 refine hK2 _ ?_
 clear hK2 K2
 refine seqJH KeepsT.nil (fun (z : Unit) => []) (fun z => H) (fun z => Z21_j7  = some r) ?_ ?_
 ·intro K7 hK7
  refine seqK fun K9 hK9 => ?_
  refine region ?_
  refine s0 assignA rfl ?_
  refine nil ?_
  refine hK9 _ ?_
  clear hK9 K9
  refine block ?_
  refine loopH (KeepsT.A (k := 0) KeepsT.nil) (fun (z : Nat × Nat) => [(3, .a (.d (.int .i64 ((z.2 : Nat) : Int))))]) (fun z => H) (fun z => z.1) (fun z => Z21_l10 a0 z.1 z.2 = some r) ((a0.length + 1), 0) hE Weak.toA ?_
  rintro ⟨n10, s3_11⟩ hE K10 hK10
  try dsimp only at hE
  cases n10 with
  | zero => cases hE
  | succ n10 =>
    rw [Z21_l10] at hE
    refine seqK fun K12 hK12 => ?_
    refine seqK fun K13 hK13 => ?_
    refine region ?_
    refine s0 moveA rfl ?_
    refine s0 moveA rfl ?_
    refine sLenS (TK rfl) rfl rfl rfl rfl fun hL14 => ?_
    refine s0 (binI rfl rfl rfl) rfl ?_
    refine nil ?_
    refine hK13 _ ?_
    clear hK13 K13
    refine condE hE rfl (fun hc15 hE => ?_) (fun hc15 hE => ?_)
    ·try dsimp only at hc15
     have hf15 := of_decide_eq_true hc15
     refine AWp.skip ?_
     refine hK12 _ ?_
     clear hK12 K12
     refine seqK fun K16 hK16 => ?_
     refine block ?_
     refine seqK fun K17 hK17 => ?_
     refine region ?_
     refine s0 moveA rfl ?_
     refine s0 moveA rfl ?_
     obtain ⟨x18, gx18, hE⟩ := bindO_some hE
     refine s0 (idxSn (n := s3_11) (TK rfl) rfl rfl rfl gx18) rfl ?_
     obtain ⟨x19, gx19, hE⟩ := bindO_some hE
     refine s0 (callP rfl rfl (fun H => Z24_walk gx19 H)) rfl ?_
     refine s0 (notB rfl) rfl ?_
     refine s0 moveA rfl ?_
     refine gC rfl rfl (fun hC => moveA) rfl ?_
     refine gC rfl rfl (fun hC => ungdA (k := 24) rfl (binI rfl rfl rfl)) rfl ?_
     refine gC rfl rfl (fun hC => ungdA (k := 25) rfl moveA) rfl ?_
     refine gC rfl rfl (fun hC => moveA) rfl ?_
     refine gC rfl rfl (fun hC => moveA) rfl ?_
     obtain ⟨x20, gx20, hE⟩ := guardO_some hE
     refine gC rfl rfl (fun hC => ungdA (k := 27) rfl (ungdA (k := 28) rfl (idxSn (n := s3_11) (TK rfl) rfl rfl rfl (gx20 hC)))) rfl ?_
     obtain ⟨x21, gx21, hE⟩ := guardO_some hE
     refine gC rfl rfl (fun hC => ungdA (k := 29) rfl (callP rfl rfl (fun H => Z22_walk (gx21 hC) H))) rfl ?_
     refine gC rfl rfl (fun hC => ungdA (k := 30) rfl (notB rfl)) rfl ?_
     refine gC rfl rfl (fun hC => ungdA (k := 26) rfl (pickOrA rfl rfl rfl)) rfl ?_
     refine s0 (pickAndA rfl rfl rfl) rfl ?_
     refine nil ?_
     refine hK17 _ ?_
     clear hK17 K17
     refine condE hE rfl (fun hc22 hE => ?_) (fun hc22 hE => ?_)
     ·refine seqK fun K23 hK23 => ?_
      refine region ?_
      refine s0 assignA rfl ?_
      refine nil ?_
      refine hK23 _ ?_
      clear hK23 K23
      refine AWp.ret ?_
      repeat (first | refine xBlock_ret ?_ | refine xThen_ret ?_)
      obtain rfl := Option.some.inj hE
      refine retQ.retF H rfl ⟨rfl, rfl⟩ ?_
      exact (fun _ _ h => h)
     refine AWp.skip ?_
     refine hK16 _ ?_
     clear hK16 K16
     refine region ?_
     refine s0 moveA rfl ?_
     refine s0 (addIA rfl rfl) rfl ?_
     refine s0 assignA rfl ?_
     refine nil ?_
     exact hK10 _ (n10, (s3_11 + 1)) Weak.toA hE (Nat.lt_succ_self _)
    refine AWp.exit ?_
    exact hK7 _ () Weak.toA hE
 rintro _ hE
 try dsimp only at hE
 unfold Z21_j7 at hE
 refine seqK fun K8 hK8 => ?_
 refine region ?_
 refine s0 assignA rfl ?_
 refine nil ?_
 refine hK8 _ ?_
 clear hK8 K8
 refine AWp.ret ?_
 repeat (first | refine xBlock_ret ?_ | refine xThen_ret ?_)
 obtain rfl := Option.some.inj hE
 refine retQ.retF H rfl ⟨rfl, rfl⟩ ?_
 exact (fun _ _ h => h)
def Z28_j3  (s3_4 : Int) : Option Int := some s3_4
def Z28_l7 (a0 : TValue) (k_rec_36 : TValue → Option Int) : Nat → Int → Nat → Option Int
 | 0, _, _ => none
 | n7 + 1, s3_8, s4_9 => bif (decide (((s4_9 : Nat) : Int) < ((a0.FItems.l.length : Nat) : Int))) then ((a0.FItems.l[s4_9]?).bind fun x15 => (k_rec_36 x15).bind fun x16 => (addC s3_8 x16).bind fun x17 => (Z28_l7 a0 k_rec_36 n7) x17 (s4_9 + 1)) else (Z28_j3   s3_8)
def Z28_n : Nat → TValue → Option Int
 | 0, _ => none
 | n + 1, a0 => Z28_l7 a0 (Z28_n n) (a0.FItems.l.length + 1) (1 : Int) 0
theorem Z28_step (n : Nat) (ih_36 : ∀ {a0 : TValue}   {r : Int}, Z28_n n a0 = some r → ∀ (H : Heap), ACalls Tryz.prog 36 [.agg (TValue.c a0)] H fun v h' => v = .a (.d (.int .i64 r)) ∧ h' = H) : ∀ {a0 : TValue}   {r : Int}, Z28_n (n + 1) a0 = some r → ∀ (H : Heap), ACalls Tryz.prog 36 [.agg (TValue.c a0)] H fun v h' => v = .a (.d (.int .i64 r)) ∧ h' = H := by
 intro a0   r hE H 
 rw [Z28_n] at hE
 refine ACalls.of_wp (fn := Tryz.f36) (c := _) Tryz.tab_ok (fun _ _ => Tryz.call36 _ _) Tryz.func36 rfl (n := 21) rfl (rs := [.tmp 2]) rfl rfl ?_
 refine seqK fun K1 hK1 => ?_
 refine region ?_
 refine s0 (boxV rfl) rfl ?_
 refine s0 assignA rfl ?_
 refine nil ?_
 refine hK1 _ ?_
 clear hK1 K1
 refine seqK fun K2 hK2 => ?_
 refine region ?_
 refine s0 assignA rfl ?_
 refine nil ?_
 refine hK2 _ ?_
 clear hK2 K2
 refine seqJH KeepsT.nil (fun (z : Int) => [(3, .a (.d (.int .i64 z)))]) (fun z => H) (fun z => Z28_j3 z = some r) ?_ ?_
 ·intro K3 hK3
  refine seqK fun K6 hK6 => ?_
  refine region ?_
  refine s0 assignA rfl ?_
  refine nil ?_
  refine hK6 _ ?_
  clear hK6 K6
  refine block ?_
  refine loopH (KeepsT.A (k := 1) KeepsT.nil) (fun (z : Nat × Int × Nat) => [(3, .a (.d (.int .i64 z.2.1))), (4, .a (.d (.int .i64 ((z.2.2 : Nat) : Int))))]) (fun z => H) (fun z => z.1) (fun z => Z28_l7 a0 (Z28_n n) z.1 z.2.1 z.2.2 = some r) ((a0.FItems.l.length + 1), (1 : Int), 0) hE Weak.toA ?_
  rintro ⟨n7, s3_8, s4_9⟩ hE K7 hK7
  try dsimp only at hE
  cases n7 with
  | zero => cases hE
  | succ n7 =>
    rw [Z28_l7] at hE
    refine seqK fun K10 hK10 => ?_
    refine seqK fun K11 hK11 => ?_
    refine region ?_
    refine s0 moveA rfl ?_
    refine s0 (fieldVA (TK rfl) rfl rfl (TK rfl) rfl rfl) rfl ?_
    refine s0 (loadV (TK rfl) rfl rfl (congrArg (fun x => some (A.d x)) (TValue.FItemsD_eq _))) rfl ?_
    refine sLen (f := TValue.c) (s := a0.FItems) (TK rfl) rfl rfl rfl rfl fun hL12 => ?_
    refine s0 (binI rfl rfl rfl) rfl ?_
    refine nil ?_
    refine hK11 _ ?_
    clear hK11 K11
    refine condE hE rfl (fun hc13 hE => ?_) (fun hc13 hE => ?_)
    ·try dsimp only at hc13
     have hf13 := of_decide_eq_true hc13
     refine AWp.skip ?_
     refine hK10 _ ?_
     clear hK10 K10
     refine seqK fun K14 hK14 => ?_
     refine block ?_
     refine region ?_
     refine s0 moveA rfl ?_
     refine s0 (fieldVA (TK rfl) rfl rfl (TK rfl) rfl rfl) rfl ?_
     refine s0 (loadV (TK rfl) rfl rfl (congrArg (fun x => some (A.d x)) (TValue.FItemsD_eq _))) rfl ?_
     refine s0 moveA rfl ?_
     obtain ⟨x15, gx15, hE⟩ := bindO_some hE
     refine s0 (idxMn (f := TValue.c) (n := s4_9) (TK rfl) rfl (TK rfl) rfl rfl rfl gx15) rfl ?_
     refine s0 (loadV (TK rfl) rfl rfl rfl) rfl ?_
     obtain ⟨x16, gx16, hE⟩ := bindO_some hE
     refine s0 (callP rfl rfl (fun H => ih_36 gx16 H)) rfl ?_
     obtain ⟨x17, gx17, hE⟩ := bindO_some hE
     refine s0 (addM rfl rfl gx17) rfl ?_
     refine s0 assignA rfl ?_
     refine nil ?_
     refine hK14 _ ?_
     clear hK14 K14
     refine region ?_
     refine s0 moveA rfl ?_
     refine s0 (addIA rfl rfl) rfl ?_
     refine s0 assignA rfl ?_
     refine nil ?_
     exact hK7 _ (n7, x17, (s4_9 + 1)) Weak.toA hE (Nat.lt_succ_self _)
    refine AWp.exit ?_
    exact hK3 _ s3_8 Weak.toA hE
 rintro s3_4 hE
 try dsimp only at hE
 unfold Z28_j3 at hE
 refine seqK fun K5 hK5 => ?_
 refine region ?_
 refine s0 moveA rfl ?_
 refine s0 assignA rfl ?_
 refine nil ?_
 refine hK5 _ ?_
 clear hK5 K5
 refine AWp.ret ?_
 repeat (first | refine xBlock_ret ?_ | refine xThen_ret ?_)
 obtain rfl := Option.some.inj hE
 refine retQ.retF H rfl ⟨rfl, rfl⟩ ?_
 exact (fun _ _ h => h)
theorem Z28_all : ∀ (n : Nat), (∀ {a0 : TValue}   {r : Int}, Z28_n n a0 = some r → ∀ (H : Heap), ACalls Tryz.prog 36 [.agg (TValue.c a0)] H fun v h' => v = .a (.d (.int .i64 r)) ∧ h' = H)
 | 0 => fun hE => by first | cases hE | (rw [Z28_n] at hE; cases hE)
 | n + 1 => Z28_step n (Z28_all n)
def Z28 (a0 : TValue) : Option Int := Z28_n F0 a0
theorem Z28_walk {a0 : TValue}   {r : Int} (hE : Z28 a0 = some r) (H : Heap)  : ACalls Tryz.prog 36 [.agg (TValue.c a0)] H fun v h' => v = .a (.d (.int .i64 r)) ∧ h' = H := (Z28_all F0) hE H 
def Z25_j3  (s3_4 : Int) : Option Int := (addC s3_4 (1 : Int)).bind fun x6 => some x6
def Z25_l8 (a0 : TValue) (k_rec_37 : TValue → Option Int) : Nat → Int → Nat → Option Int
 | 0, _, _ => none
 | n8 + 1, s3_9, s4_10 => bif (decide (((s4_10 : Nat) : Int) < ((a0.FItems.l.length : Nat) : Int))) then ((a0.FItems.l[s4_10]?).bind fun x16 => (k_rec_37 x16).bind fun x17 => (Z25_l8 a0 k_rec_37 n8) (if x17 > s3_9 then x17 else s3_9) (s4_10 + 1)) else (Z25_j3   s3_9)
def Z25_n : Nat → TValue → Option Int
 | 0, _ => none
 | n + 1, a0 => Z25_l8 a0 (Z25_n n) (a0.FItems.l.length + 1) (0 : Int) 0
theorem Z25_step (n : Nat) (ih_37 : ∀ {a0 : TValue}   {r : Int}, Z25_n n a0 = some r → ∀ (H : Heap), ACalls Tryz.prog 37 [.agg (TValue.c a0)] H fun v h' => v = .a (.d (.int .i64 r)) ∧ h' = H) : ∀ {a0 : TValue}   {r : Int}, Z25_n (n + 1) a0 = some r → ∀ (H : Heap), ACalls Tryz.prog 37 [.agg (TValue.c a0)] H fun v h' => v = .a (.d (.int .i64 r)) ∧ h' = H := by
 intro a0   r hE H 
 rw [Z25_n] at hE
 refine ACalls.of_wp (fn := Tryz.f37) (c := _) Tryz.tab_ok (fun _ _ => Tryz.call37 _ _) Tryz.func37 rfl (n := 22) rfl (rs := [.tmp 2]) rfl rfl ?_
 refine seqK fun K1 hK1 => ?_
 refine region ?_
 refine s0 (boxV rfl) rfl ?_
 refine s0 assignA rfl ?_
 refine nil ?_
 refine hK1 _ ?_
 clear hK1 K1
 refine seqK fun K2 hK2 => ?_
 refine region ?_
 refine s0 assignA rfl ?_
 refine nil ?_
 refine hK2 _ ?_
 clear hK2 K2
 refine seqJH KeepsT.nil (fun (z : Int) => [(3, .a (.d (.int .i64 z)))]) (fun z => H) (fun z => Z25_j3 z = some r) ?_ ?_
 ·intro K3 hK3
  refine seqK fun K7 hK7 => ?_
  refine region ?_
  refine s0 assignA rfl ?_
  refine nil ?_
  refine hK7 _ ?_
  clear hK7 K7
  refine block ?_
  refine loopH (KeepsT.A (k := 1) KeepsT.nil) (fun (z : Nat × Int × Nat) => [(3, .a (.d (.int .i64 z.2.1))), (4, .a (.d (.int .i64 ((z.2.2 : Nat) : Int))))]) (fun z => H) (fun z => z.1) (fun z => Z25_l8 a0 (Z25_n n) z.1 z.2.1 z.2.2 = some r) ((a0.FItems.l.length + 1), (0 : Int), 0) hE Weak.toA ?_
  rintro ⟨n8, s3_9, s4_10⟩ hE K8 hK8
  try dsimp only at hE
  cases n8 with
  | zero => cases hE
  | succ n8 =>
    rw [Z25_l8] at hE
    refine seqK fun K11 hK11 => ?_
    refine seqK fun K12 hK12 => ?_
    refine region ?_
    refine s0 moveA rfl ?_
    refine s0 (fieldVA (TK rfl) rfl rfl (TK rfl) rfl rfl) rfl ?_
    refine s0 (loadV (TK rfl) rfl rfl (congrArg (fun x => some (A.d x)) (TValue.FItemsD_eq _))) rfl ?_
    refine sLen (f := TValue.c) (s := a0.FItems) (TK rfl) rfl rfl rfl rfl fun hL13 => ?_
    refine s0 (binI rfl rfl rfl) rfl ?_
    refine nil ?_
    refine hK12 _ ?_
    clear hK12 K12
    refine condE hE rfl (fun hc14 hE => ?_) (fun hc14 hE => ?_)
    ·try dsimp only at hc14
     have hf14 := of_decide_eq_true hc14
     refine AWp.skip ?_
     refine hK11 _ ?_
     clear hK11 K11
     refine seqK fun K15 hK15 => ?_
     refine block ?_
     refine region ?_
     refine s0 moveA rfl ?_
     refine s0 (fieldVA (TK rfl) rfl rfl (TK rfl) rfl rfl) rfl ?_
     refine s0 (loadV (TK rfl) rfl rfl (congrArg (fun x => some (A.d x)) (TValue.FItemsD_eq _))) rfl ?_
     refine s0 moveA rfl ?_
     obtain ⟨x16, gx16, hE⟩ := bindO_some hE
     refine s0 (idxMn (f := TValue.c) (n := s4_10) (TK rfl) rfl (TK rfl) rfl rfl rfl gx16) rfl ?_
     refine s0 (loadV (TK rfl) rfl rfl rfl) rfl ?_
     obtain ⟨x17, gx17, hE⟩ := bindO_some hE
     refine s0 (callP rfl rfl (fun H => ih_37 gx17 H)) rfl ?_
     refine s0 (maxM rfl rfl) rfl ?_
     refine s0 assignA rfl ?_
     refine nil ?_
     refine hK15 _ ?_
     clear hK15 K15
     refine region ?_
     refine s0 moveA rfl ?_
     refine s0 (addIA rfl rfl) rfl ?_
     refine s0 assignA rfl ?_
     refine nil ?_
     exact hK8 _ (n8, (if x17 > s3_9 then x17 else s3_9), (s4_10 + 1)) Weak.toA hE (Nat.lt_succ_self _)
    refine AWp.exit ?_
    exact hK3 _ s3_9 Weak.toA hE
 rintro s3_4 hE
 try dsimp only at hE
 unfold Z25_j3 at hE
 refine seqK fun K5 hK5 => ?_
 refine region ?_
 refine s0 moveA rfl ?_
 obtain ⟨x6, gx6, hE⟩ := bindO_some hE
 refine s0 (addM rfl rfl gx6) rfl ?_
 refine s0 assignA rfl ?_
 refine nil ?_
 refine hK5 _ ?_
 clear hK5 K5
 refine AWp.ret ?_
 repeat (first | refine xBlock_ret ?_ | refine xThen_ret ?_)
 obtain rfl := Option.some.inj hE
 refine retQ.retF H rfl ⟨rfl, rfl⟩ ?_
 exact (fun _ _ h => h)
theorem Z25_all : ∀ (n : Nat), (∀ {a0 : TValue}   {r : Int}, Z25_n n a0 = some r → ∀ (H : Heap), ACalls Tryz.prog 37 [.agg (TValue.c a0)] H fun v h' => v = .a (.d (.int .i64 r)) ∧ h' = H)
 | 0 => fun hE => by first | cases hE | (rw [Z25_n] at hE; cases hE)
 | n + 1 => Z25_step n (Z25_all n)
def Z25 (a0 : TValue) : Option Int := Z25_n F0 a0
theorem Z25_walk {a0 : TValue}   {r : Int} (hE : Z25 a0 = some r) (H : Heap)  : ACalls Tryz.prog 37 [.agg (TValue.c a0)] H fun v h' => v = .a (.d (.int .i64 r)) ∧ h' = H := (Z25_all F0) hE H 
def Z31_j2   : Option Bool := some false
def Z31_j11 (s3_6 : Nat) (k_next_5 : Nat → Option Bool)  : Option Bool := k_next_5 (s3_6 + 1)
def Z31_l13 (a0 : (Sl Bs)) (s3_6 : Nat) (k_next_5 : Nat → Option Bool) : Nat → Nat → Option Bool
 | 0, _ => none
 | n13 + 1, s4_14 => bif (decide (((s4_14 : Nat) : Int) < ((s3_6 : Nat) : Int))) then ((a0.l[s3_6]?).bind fun x20 => (a0.l[s4_14]?).bind fun x21 => bif ((x20 == x21)) then (some true) else ((Z31_l13 a0 s3_6 k_next_5 n13) (s4_14 + 1))) else (Z31_j11 s3_6 k_next_5 )
def Z31_l5 (a0 : (Sl Bs))  : Nat → Nat → Option Bool
 | 0, _ => none
 | n5 + 1, s3_6 => bif (decide (((s3_6 : Nat) : Int) < ((a0.l.length : Nat) : Int))) then (Z31_l13 a0 s3_6 ((Z31_l5 a0 n5)) (s3_6 + 1) 0) else (Z31_j2   )
def Z31 (a0 : (Sl Bs)) : Option Bool := Z31_l5 a0 (a0.l.length + 1) 0
theorem Z31_walk {a0 : (Sl Bs)} {w0 : Option Nat}  {r : Bool} (hE : Z31 a0 = some r) (H : Heap)  : ACalls Tryz.prog 104 [.d (Sl.d 1 strE w0 a0)] H fun v h' => v = .a (.d (.bool r)) ∧ h' = H := by
 unfold Z31 at hE
 refine ACalls.of_wp (fn := Tryz.f104) (c := _) Tryz.tab_ok (fun _ _ => Tryz.call104 _ _) Tryz.func104 rfl (n := 25) rfl (rs := [.tmp 2]) rfl rfl ?_
 refine seqK fun K1 hK1 => ?_
 refine region ?_
 refine s0 assignA rfl ?_
 refine nil ?_
 refine hK1 _ ?_
 clear hK1 K1
 refine seqJH KeepsT.nil (fun (z : Unit) => []) (fun z => H) (fun z => Z31_j2  = some r) ?_ ?_
 ·intro K2 hK2
  refine seqK fun K4 hK4 => ?_
  refine region ?_
  refine s0 assignA rfl ?_
  refine nil ?_
  refine hK4 _ ?_
  clear hK4 K4
  refine block ?_
  refine loopH (KeepsT.A (k := 0) KeepsT.nil) (fun (z : Nat × Nat) => [(3, .a (.d (.int .i64 ((z.2 : Nat) : Int))))]) (fun z => H) (fun z => z.1) (fun z => Z31_l5 a0 z.1 z.2 = some r) ((a0.l.length + 1), 0) hE Weak.toA ?_
  rintro ⟨n5, s3_6⟩ hE K5 hK5
  try dsimp only at hE
  cases n5 with
  | zero => cases hE
  | succ n5 =>
    rw [Z31_l5] at hE
    refine seqK fun K7 hK7 => ?_
    refine seqK fun K8 hK8 => ?_
    refine region ?_
    refine s0 moveA rfl ?_
    refine s0 moveA rfl ?_
    refine sLen (f := strE) (s := a0) (TK rfl) rfl rfl rfl rfl fun hL9 => ?_
    refine s0 (binI rfl rfl rfl) rfl ?_
    refine nil ?_
    refine hK8 _ ?_
    clear hK8 K8
    refine condE hE rfl (fun hc10 hE => ?_) (fun hc10 hE => ?_)
    ·try dsimp only at hc10
     have hf10 := of_decide_eq_true hc10
     refine AWp.skip ?_
     refine hK7 _ ?_
     clear hK7 K7
     refine seqJH (KeepsT.A (k := 0) (KeepsT.A (k := 3) KeepsT.nil)) (fun (z : Unit) => []) (fun z => H) (fun z => Z31_j11 s3_6 ((Z31_l5 a0 n5))  = some r) ?_ ?_
     ·intro K11 hK11
      refine block ?_
      refine seqK fun K12 hK12 => ?_
      refine region ?_
      refine s0 assignA rfl ?_
      refine nil ?_
      refine hK12 _ ?_
      clear hK12 K12
      refine block ?_
      refine loopH (KeepsT.A (k := 0) (KeepsT.A (k := 3) KeepsT.nil)) (fun (z : Nat × Nat) => [(4, .a (.d (.int .i64 ((z.2 : Nat) : Int))))]) (fun z => H) (fun z => z.1) (fun z => Z31_l13 a0 s3_6 ((Z31_l5 a0 n5)) z.1 z.2 = some r) ((s3_6 + 1), 0) hE Weak.toA ?_
      rintro ⟨n13, s4_14⟩ hE K13 hK13
      try dsimp only at hE
      cases n13 with
      | zero => cases hE
      | succ n13 =>
        rw [Z31_l13] at hE
        refine seqK fun K15 hK15 => ?_
        refine seqK fun K16 hK16 => ?_
        refine region ?_
        refine s0 moveA rfl ?_
        refine s0 moveA rfl ?_
        refine s0 (binI rfl rfl rfl) rfl ?_
        refine nil ?_
        refine hK16 _ ?_
        clear hK16 K16
        refine condE hE rfl (fun hc17 hE => ?_) (fun hc17 hE => ?_)
        ·try dsimp only at hc17
         have hf17 := of_decide_eq_true hc17
         refine AWp.skip ?_
         refine hK15 _ ?_
         clear hK15 K15
         refine seqK fun K18 hK18 => ?_
         refine block ?_
         refine seqK fun K19 hK19 => ?_
         refine AWp.draw rfl ?_
         refine DOps.s0 moveA rfl ?_
         refine DOps.s0 moveA rfl ?_
         obtain ⟨x20, gx20, hE⟩ := bindO_some hE
         refine DOps.s0 (idxMn (f := strE) (n := s3_6) (TK rfl) rfl (TK rfl) rfl rfl rfl gx20) rfl ?_
         refine DOps.s0 (loadV (TK rfl) rfl rfl rfl) rfl ?_
         refine DOps.s0 moveA rfl ?_
         refine DOps.s0 moveA rfl ?_
         obtain ⟨x21, gx21, hE⟩ := bindO_some hE
         refine DOps.s0 (idxMn (f := strE) (n := s4_14) (TK rfl) rfl (TK rfl) rfl rfl rfl gx21) rfl ?_
         refine DOps.s0 (loadV (TK rfl) rfl rfl rfl) rfl ?_
         refine DOps.s0 (binS rfl rfl rfl) rfl ?_
         refine DOps.nil (by decide +kernel) ?_
         refine hK19 _ ?_
         clear hK19 K19
         refine condE hE rfl (fun hc22 hE => ?_) (fun hc22 hE => ?_)
         ·refine seqK fun K23 hK23 => ?_
          refine region ?_
          refine s0 assignA rfl ?_
          refine nil ?_
          refine hK23 _ ?_
          clear hK23 K23
          refine AWp.ret ?_
          repeat (first | refine xBlock_ret ?_ | refine xThen_ret ?_)
          obtain rfl := Option.some.inj hE
          refine retQ.retF H rfl ⟨rfl, rfl⟩ ?_
          exact (fun _ _ h => h)
         refine AWp.skip ?_
         refine hK18 _ ?_
         clear hK18 K18
         refine region ?_
         refine s0 moveA rfl ?_
         refine s0 (addIA rfl rfl) rfl ?_
         refine s0 assignA rfl ?_
         refine nil ?_
         exact hK13 _ (n13, (s4_14 + 1)) Weak.toA hE (Nat.lt_succ_self _)
        refine AWp.exit ?_
        exact hK11 _ () Weak.toA hE
     rintro _ hE
     try dsimp only at hE
     unfold Z31_j11 at hE
     refine region ?_
     refine s0 moveA rfl ?_
     refine s0 (addIA rfl rfl) rfl ?_
     refine s0 assignA rfl ?_
     refine nil ?_
     exact hK5 _ (n5, (s3_6 + 1)) Weak.toA hE (Nat.lt_succ_self _)
    refine AWp.exit ?_
    exact hK2 _ () Weak.toA hE
 rintro _ hE
 try dsimp only at hE
 unfold Z31_j2 at hE
 refine seqK fun K3 hK3 => ?_
 refine region ?_
 refine s0 assignA rfl ?_
 refine nil ?_
 refine hK3 _ ?_
 clear hK3 K3
 refine AWp.ret ?_
 repeat (first | refine xBlock_ret ?_ | refine xThen_ret ?_)
 obtain rfl := Option.some.inj hE
 refine retQ.retF H rfl ⟨rfl, rfl⟩ ?_
 exact (fun _ _ h => h)
end Go.Proofs
