import Derived.Test.YtjghdpblmakljaaGreatV5
set_option maxRecDepth 100000
set_option maxHeartbeats 2000000
set_option linter.unusedVariables false
set_option linter.unusedSimpArgs false
namespace Go.Proofs
open Go Go.Ab
open AOps Cert AWp
def Z7_j9 (s20_4 : Nat) (k_next_3 : Nat → Fields_checker → Option Fields_checker) (y10_c0 : Fields_checker) : Option Fields_checker := k_next_3 (s20_4 + 1) y10_c0
def Z7_l3 (a1 : (Sl TInput)) (a2 : (Sl TArg)) (a3 : Bool) (a4 : Bs)  : Nat → Nat → Fields_checker → Option Fields_checker
 | 0, _, _ => none
 | n3 + 1, s20_4, y5_c0 => bif (decide (((s20_4 : Nat) : Int) < ((a2.l.length : Nat) : Int))) then ((a2.l[s20_4]?).bind fun x12 => (Z85 a1 x12.FName).bind fun x14 => (partC a2 none (some ((s20_4 : Nat) : Int))).bind fun x16 => (Z10 x16 x12.FName).bind fun x17 => bif ((!x14.2) || x17.2) then ((Z3 y5_c0 true (22 : Int) a4).bind fun x22 => Z7_j9 s20_4 ((Z7_l3 a1 a2 a3 a4 n3)) x22) else ((fields_fits y5_c0.Fd x14.1.FType x12.FValue).bind fun x23 => (Z3 y5_c0 ((!x23) || (a3 && (((decide (x12.FValue.FKind = (7 : Int))) || ((decide (x12.FValue.FKind = (3 : Int))) && ((x12.FValue.FText == ([] : Bs))))) || ((decide (x12.FValue.FKind = (2 : Int))) && (decide (x12.FValue.FInt < (0 : Int))))))) (23 : Int) a4).bind fun x24 => Z7_j9 s20_4 ((Z7_l3 a1 a2 a3 a4 n3)) x24)) else (some y5_c0)
def Z7 (a0 : Fields_checker) (a1 : (Sl TInput)) (a2 : (Sl TArg)) (a3 : Bool) (a4 : Bs) : Option Fields_checker := Z7_l3 a1 a2 a3 a4 (a2.l.length + 1) 0 a0
theorem Z7_walk {a0 : Fields_checker} {a1 : (Sl TInput)} {a2 : (Sl TArg)} {a3 : Bool} {a4 : Bs} {w1 : Option Nat} {w2 : Option Nat} {c0 : Nat} {c0_2 : Nat} {r : Fields_checker} (hE : Z7 a0 a1 a2 a3 a4 = some r) (H : Heap) (hc0 : H c0 = some (.cells (Fields_checker.cg (some c0_2) a0))) (ht0_2 : H c0_2 = some (.tok 2 a0.Fout.l.length)) : ACalls Tryz.prog 94 [.d (.ptr c0 0), .d (Sl.d 10 TInput.c w1 a1), .d (Sl.d 6 TArg.c w2 a2), .d (.bool a3), .d (.str a4)] H fun v h' => v = .tup [] ∧ h' = ((H.set c0_2 (some (.tok 2 r.Fout.l.length))).set c0 (some (.cells (Fields_checker.cg (some c0_2) r)))) := by
 unfold Z7 at hE
 refine ACalls.of_wp (fn := Tryz.f94) (c := _) Tryz.tab_ok (fun _ _ => Tryz.call94 _ _) Tryz.func94 rfl (n := 94) rfl (rs := []) rfl rfl ?_
 have ne_c0_c0_2 : c0 ≠ c0_2 := fun e_ => by subst e_; simp_all
 refine AWp.heqA (h' := ((H.set c0_2 (some (.tok 2 a0.Fout.l.length))).set c0 (some (.cells (Fields_checker.cg (some c0_2) a0))))) (by funext n_; simp only [Heap.set]; (repeat' split) <;> simp_all) ?_
 refine seqK fun K1 hK1 => ?_
 refine region ?_
 refine s0 moveA rfl ?_
 refine sLen (f := TArg.c) (s := a2) (TK rfl) rfl rfl rfl rfl fun hL2 => ?_
 refine s0 moveA rfl ?_
 refine nil ?_
 refine hK1 _ ?_
 clear hK1 K1
 refine block ?_
 refine loopH (KeepsT.A (k := 0) (KeepsT.A (k := 1) (KeepsT.A (k := 2) (KeepsT.A (k := 3) (KeepsT.A (k := 4) (KeepsT.A (k := 18) (KeepsT.A (k := 19) KeepsT.nil))))))) (fun (z : Nat × Nat × Fields_checker) => [(20, .a (.d (.int .i64 ((z.2.1 : Nat) : Int))))]) (fun z => ((H.set c0_2 (some (.tok 2 z.2.2.Fout.l.length))).set c0 (some (.cells (Fields_checker.cg (some c0_2) z.2.2))))) (fun z => z.1) (fun z => Z7_l3 a1 a2 a3 a4 z.1 z.2.1 z.2.2 = some r) ((a2.l.length + 1), 0, a0) hE Weak.toA ?_
 rintro ⟨n3, s20_4, y5_c0⟩ hE K3 hK3
 try dsimp only at hE
 cases n3 with
 | zero => cases hE
 | succ n3 =>
   rw [Z7_l3] at hE
   refine seqK fun K6 hK6 => ?_
   refine region ?_
   refine s0 (binI rfl rfl rfl) rfl ?_
   refine nil ?_
   refine hK6 _ ?_
   clear hK6 K6
   refine seqK fun K7 hK7 => ?_
   refine condE hE rfl (fun hc8 hE => ?_) (fun hc8 hE => ?_)
   ·try dsimp only at hc8
    have hf8 := of_decide_eq_true hc8
    refine AWp.skip ?_
    refine hK7 _ ?_
    clear hK7 K7
    refine seqJH (KeepsT.A (k := 0) (KeepsT.A (k := 1) (KeepsT.A (k := 2) (KeepsT.A (k := 3) (KeepsT.A (k := 4) (KeepsT.A (k := 18) (KeepsT.A (k := 19) (KeepsT.A (k := 20) KeepsT.nil)))))))) (fun (z : Fields_checker) => []) (fun z => ((H.set c0_2 (some (.tok 2 z.Fout.l.length))).set c0 (some (.cells (Fields_checker.cg (some c0_2) z))))) (fun z => Z7_j9 s20_4 ((Z7_l3 a1 a2 a3 a4 n3)) z = some r) ?_ ?_
    ·intro K9 hK9
     refine block ?_
     refine seqK fun K11 hK11 => ?_
     refine region ?_
     refine s0 moveA rfl ?_
     obtain ⟨x12, gx12, hE⟩ := bindO_some hE
     refine s0 (idxMn (f := TArg.c) (n := s20_4) (TK rfl) rfl (TK rfl) rfl rfl rfl gx12) rfl ?_
     refine s0 (loadV (TK rfl) rfl rfl rfl) rfl ?_
     refine sL (allocLA (TK rfl) rfl) rfl ?_
     refine s0 assignA rfl ?_
     refine sLn (storeLFA (TK rfl) rfl rfl rfl rfl rfl) ?_
     refine nil ?_
     refine hK11 _ ?_
     clear hK11 K11
     refine freezeA 11 _ rfl (Keeps.c (k := 0) (by conv => lhs; whnf) (by rfl) (Keeps.c (k := 1) (by conv => lhs; whnf) (by rfl) (Keeps.c (k := 2) (by conv => lhs; whnf) (by rfl) (Keeps.c (k := 3) (by conv => lhs; whnf) (by rfl) (Keeps.c (k := 4) (by conv => lhs; whnf) (by rfl) (Keeps.c (k := 10) (by conv => lhs; whnf) (by rfl) (Keeps.c (k := 18) (by conv => lhs; whnf) (by rfl) (Keeps.c (k := 19) (by conv => lhs; whnf) (by rfl) (Keeps.c (k := 20) (by conv => lhs; whnf) (by rfl) Keeps.nil))))))))) ?_
     refine seqK fun K13 hK13 => ?_
     refine region ?_
     refine s0 moveA rfl ?_
     refine s0 (fieldVA (TK rfl) rfl rfl (TK rfl) rfl rfl) rfl ?_
     refine s0 (loadV (TK rfl) rfl rfl rfl) rfl ?_
     obtain ⟨x14, gx14, hE⟩ := bindO_some hE
     refine s0 (callP rfl rfl (fun H => Z85_walk gx14 H)) rfl ?_
     refine s0 moveA rfl ?_
     refine s0 (extract rfl rfl) rfl ?_
     refine s0 (extract rfl rfl) rfl ?_
     refine sL (allocLA (TK rfl) rfl) rfl ?_
     refine sLn (storeLFA (TK rfl) rfl rfl rfl rfl rfl) ?_
     refine s0 assignA rfl ?_
     refine nil ?_
     refine hK13 _ ?_
     clear hK13 K13
     refine freezeA 12 _ rfl (Keeps.c (k := 0) (by conv => lhs; whnf) (by rfl) (Keeps.c (k := 1) (by conv => lhs; whnf) (by rfl) (Keeps.c (k := 2) (by conv => lhs; whnf) (by rfl) (Keeps.c (k := 3) (by conv => lhs; whnf) (by rfl) (Keeps.c (k := 4) (by conv => lhs; whnf) (by rfl) (Keeps.c (k := 10) (by conv => lhs; whnf) (by rfl) (Keeps.c (k := 11) (by conv => lhs; whnf) (by rfl) (Keeps.c (k := 13) (by conv => lhs; whnf) (by rfl) (Keeps.c (k := 18) (by conv => lhs; whnf) (by rfl) (Keeps.c (k := 19) (by conv => lhs; whnf) (by rfl) (Keeps.c (k := 20) (by conv => lhs; whnf) (by rfl) Keeps.nil))))))))))) ?_
     refine seqK fun K15 hK15 => ?_
     refine AWp.draw rfl ?_
     refine DOps.s0 moveA rfl ?_
     refine DOps.s0 moveA rfl ?_
     obtain ⟨x16, gx16, hE⟩ := bindO_some hE
     refine DOps.s0 (partM (f := TArg.c) (l := none) (r := (some ((s20_4 : Nat) : Int))) (TK rfl) rfl (TK rfl) rfl rfl trivial rfl gx16) rfl ?_
     refine DOps.s0 (fieldVA (TK rfl) rfl rfl (TK rfl) rfl rfl) rfl ?_
     refine DOps.s0 (loadV (TK rfl) rfl rfl rfl) rfl ?_
     obtain ⟨x17, gx17, hE⟩ := bindO_some hE
     refine DOps.s0 (callP rfl rfl (fun H => Z10_walk gx17 H)) rfl ?_
     refine DOps.s0 moveA rfl ?_
     refine DOps.s0 (extract rfl rfl) rfl ?_
     refine DOps.s0 (extract rfl rfl) rfl ?_
     refine DOps.sL (allocLA (TK rfl) rfl) rfl ?_
     refine DOps.sLn (storeLFA (TK rfl) rfl rfl rfl rfl rfl) ?_
     refine DOps.s0 assignA rfl ?_
     refine DOps.nil (by decide +kernel) ?_
     refine hK15 _ ?_
     clear hK15 K15
     refine freezeA 14 _ rfl (Keeps.c (k := 0) (by conv => lhs; whnf) (by rfl) (Keeps.c (k := 1) (by conv => lhs; whnf) (by rfl) (Keeps.c (k := 2) (by conv => lhs; whnf) (by rfl) (Keeps.c (k := 3) (by conv => lhs; whnf) (by rfl) (Keeps.c (k := 4) (by conv => lhs; whnf) (by rfl) (Keeps.c (k := 11) (by conv => lhs; whnf) (by rfl) (Keeps.c (k := 12) (by conv => lhs; whnf) (by rfl) (Keeps.c (k := 13) (by conv => lhs; whnf) (by rfl) (Keeps.c (k := 15) (by conv => lhs; whnf) (by rfl) (Keeps.c (k := 18) (by conv => lhs; whnf) (by rfl) (Keeps.c (k := 19) (by conv => lhs; whnf) (by rfl) (Keeps.c (k := 20) (by conv => lhs; whnf) (by rfl) Keeps.nil)))))))))))) ?_
     refine seqK fun K18 hK18 => ?_
     refine region ?_
     refine s0 (fieldVA (TK rfl) rfl rfl (TK rfl) rfl rfl) rfl ?_
     refine s0 (loadV (TK rfl) rfl rfl rfl) rfl ?_
     refine sL (allocLA (TK rfl) rfl) rfl ?_
     refine sLn (storeLFA (TK rfl) rfl rfl rfl rfl rfl) ?_
     refine nil ?_
     refine hK18 _ ?_
     clear hK18 K18
     refine freezeA 16 _ rfl (Keeps.c (k := 0) (by conv => lhs; whnf) (by rfl) (Keeps.c (k := 1) (by conv => lhs; whnf) (by rfl) (Keeps.c (k := 2) (by conv => lhs; whnf) (by rfl) (Keeps.c (k := 3) (by conv => lhs; whnf) (by rfl) (Keeps.c (k := 4) (by conv => lhs; whnf) (by rfl) (Keeps.c (k := 12) (by conv => lhs; whnf) (by rfl) (Keeps.c (k := 13) (by conv => lhs; whnf) (by rfl) (Keeps.c (k := 15) (by conv => lhs; whnf) (by rfl) (Keeps.c (k := 18) (by conv => lhs; whnf) (by rfl) (Keeps.c (k := 19) (by conv => lhs; whnf) (by rfl) (Keeps.c (k := 20) (by conv => lhs; whnf) (by rfl) Keeps.nil))))))))))) ?_
     refine seqK fun K19 hK19 => ?_
     refine region ?_
     refine s0 (fieldVA (TK rfl) rfl rfl (TK rfl) rfl rfl) rfl ?_
     refine s0 (loadV (TK rfl) rfl rfl rfl) rfl ?_
     refine s0 (binI rfl rfl rfl) rfl ?_
     refine s0 moveA rfl ?_
     refine gC rfl rfl (fun hC => fieldVA (TK rfl) rfl rfl (TK rfl) rfl rfl) rfl ?_
     refine gC rfl rfl (fun hC => ungdA (k := 47) rfl (loadV (TK rfl) rfl rfl rfl)) rfl ?_
     refine gC rfl rfl (fun hC => ungdA (k := 48) rfl (binI rfl rfl rfl)) rfl ?_
     refine gC rfl rfl (fun hC => ungdA (k := 49) rfl moveA) rfl ?_
     refine gC rfl rfl (fun hC => fieldVA (TK rfl) rfl rfl (TK rfl) rfl rfl) rfl ?_
     refine gC rfl rfl (fun hC => ungdA (k := 51) rfl (loadV (TK rfl) rfl rfl rfl)) rfl ?_
     refine gC rfl rfl (fun hC => ungdA (k := 52) rfl (binS rfl rfl rfl)) rfl ?_
     refine gC rfl rfl (fun hC => ungdA (k := 50) rfl (pickAndA rfl rfl rfl)) rfl ?_
     refine s0 (pickOrA rfl rfl rfl) rfl ?_
     refine s0 moveA rfl ?_
     refine gC rfl rfl (fun hC => fieldVA (TK rfl) rfl rfl (TK rfl) rfl rfl) rfl ?_
     refine gC rfl rfl (fun hC => ungdA (k := 57) rfl (loadV (TK rfl) rfl rfl rfl)) rfl ?_
     refine gC rfl rfl (fun hC => ungdA (k := 58) rfl (binI rfl rfl rfl)) rfl ?_
     refine gC rfl rfl (fun hC => ungdA (k := 59) rfl moveA) rfl ?_
     refine gC rfl rfl (fun hC => fieldVA (TK rfl) rfl rfl (TK rfl) rfl rfl) rfl ?_
     refine gC rfl rfl (fun hC => ungdA (k := 61) rfl (loadV (TK rfl) rfl rfl rfl)) rfl ?_
     refine gC rfl rfl (fun hC => ungdA (k := 62) rfl (binI rfl rfl rfl)) rfl ?_
     refine gC rfl rfl (fun hC => ungdA (k := 60) rfl (pickAndA rfl rfl rfl)) rfl ?_
     refine s0 (pickOrA rfl rfl rfl) rfl ?_
     refine s0 assignA rfl ?_
     refine nil ?_
     refine hK19 _ ?_
     clear hK19 K19
     refine block ?_
     refine seqK fun K20 hK20 => ?_
     refine region ?_
     refine s0 moveA rfl ?_
     refine s0 (notB rfl) rfl ?_
     refine s0 moveA rfl ?_
     refine gC rfl rfl (fun hC => moveA) rfl ?_
     refine s0 (pickOrA rfl rfl rfl) rfl ?_
     refine s0 assignA rfl ?_
     refine nil ?_
     refine hK20 _ ?_
     clear hK20 K20
     refine condE hE rfl (fun hc21 hE => ?_) (fun hc21 hE => ?_)
     ·refine region ?_
      refine s0 moveA rfl ?_
      refine s0 moveA rfl ?_
      obtain ⟨x22, gx22, hE⟩ := bindO_some hE
      refine sH (callH rfl rfl (Z3_walk gx22 _ hpG hpG)) rfl ?_
      refine AOps.heq (h' := ((H.set c0_2 (some (.tok 2 x22.Fout.l.length))).set c0 (some (.cells (Fields_checker.cg (some c0_2) x22))))) (by first | rfl | (rw [Heap.set_set]; rfl) | (funext n_; simp only [Heap.set]; (repeat' split) <;> first | rfl | (exfalso; simp_all; done) | (simp_all; done))) ?_
      refine nil ?_
      exact hK9 _ x22 Weak.toA hE
     refine AWp.draw rfl ?_
     refine DOps.s0 moveA rfl ?_
     refine DOps.s0 moveA rfl ?_
     refine DOps.s0 (nilP rfl) rfl ?_
     refine DOps.s0 (fieldP (TK rfl) rfl rfl (TK rfl) rfl rfl) rfl ?_
     refine DOps.s0 (loadP (TK rfl) rfl rfl hpG rfl) rfl ?_
     refine DOps.s0 (fieldVA (TK rfl) rfl rfl (TK rfl) rfl rfl) rfl ?_
     refine DOps.s0 (loadV (TK rfl) rfl rfl rfl) rfl ?_
     refine DOps.s0 (loadV (TK rfl) rfl rfl rfl) rfl ?_
     obtain ⟨x23, gx23, hE⟩ := bindO_some hE
     refine DOps.s0 (callP rfl rfl (fun H => fields_fits_walk gx23 H)) rfl ?_
     refine DOps.s0 (notB rfl) rfl ?_
     refine DOps.s0 moveA rfl ?_
     refine DOps.gC rfl rfl (fun hC => moveA) rfl ?_
     refine DOps.gC rfl rfl (fun hC => ungdA (k := 77) rfl moveA) rfl ?_
     refine DOps.gC rfl rfl (fun hC => moveA) rfl ?_
     refine DOps.gC rfl rfl (fun hC => ungdA (k := 78) rfl (pickAndA rfl rfl rfl)) rfl ?_
     refine DOps.s0 (pickOrA rfl rfl rfl) rfl ?_
     refine DOps.s0 moveA rfl ?_
     obtain ⟨x24, gx24, hE⟩ := bindO_some hE
     refine DOps.sH (callH rfl rfl (Z3_walk gx24 _ hpG hpG)) rfl ?_
     refine DOps.heq (h' := ((H.set c0_2 (some (.tok 2 x24.Fout.l.length))).set c0 (some (.cells (Fields_checker.cg (some c0_2) x24))))) (by first | rfl | (rw [Heap.set_set]; rfl) | (funext n_; simp only [Heap.set]; (repeat' split) <;> first | rfl | (exfalso; simp_all; done) | (simp_all; done))) ?_
     refine DOps.nil (by decide +kernel) ?_
     exact hK9 _ x24 Weak.toA hE
    rintro y10_c0 hE
    try dsimp only at hE
    unfold Z7_j9 at hE
    refine region ?_
    refine s0 (addIA rfl rfl) rfl ?_
    refine s0 moveA rfl ?_
    refine nil ?_
    exact hK3 _ (n3, (s20_4 + 1), y10_c0) Weak.toA hE (Nat.lt_succ_self _)
   refine AWp.exit ?_
   repeat (first | refine xBlock_normal ?_ | refine xThen_exit ?_ | refine xBlock_exit ?_)
   obtain rfl := Option.some.inj hE
   refine retQ.normalF ((H.set c0_2 (some (.tok 2 y5_c0.Fout.l.length))).set c0 (some (.cells (Fields_checker.cg (some c0_2) y5_c0)))) (xs := []) rfl ⟨rfl, rfl⟩ ?_
   exact (fun _ _ h => h)
def Z4_j10 (s21_5 : Nat) (k_next_4 : Nat → Fields_checker → Option Fields_checker) (y11_c0 : Fields_checker) : Option Fields_checker := k_next_4 (s21_5 + 1) y11_c0
def Z4_l30 (a4 : Bs) (s21_5 : Nat) (x13 : TDir) (s13_18 : (Sl TInput)) (k_next_4 : Nat → Fields_checker → Option Fields_checker) : Nat → Nat → Fields_checker → Option Fields_checker
 | 0, _, _ => none
 | n30 + 1, s78_31, y32_c0 => bif (decide (((s78_31 : Nat) : Int) < ((s13_18.l.length : Nat) : Int))) then ((s13_18.l[s78_31]?).bind fun x38 => (Z10 x13.FArgs x38.FName).bind fun x40 => (Z3 y32_c0 (!x40.2) (22 : Int) a4).bind fun x41 => (Z4_l30 a4 s21_5 x13 s13_18 k_next_4 n30) (s78_31 + 1) x41) else (Z4_j10 s21_5 k_next_4 y32_c0)
def Z4_j17 (a1 : TSel) (a4 : Bs) (s21_5 : Nat) (y6_c0 : Fields_checker) (x13 : TDir) (k_next_4 : Nat → Fields_checker → Option Fields_checker) (s13_18 : (Sl TInput)) : Option Fields_checker := guardO (!s13_18.nl) (partC a1.FDirs none (some ((s21_5 : Nat) : Int))) (Sl.nil : Sl TDir) fun x21 => guardO (!s13_18.nl) (Z93 x21 (fun y0 => Z5 y0 x13)) false fun x22 => bif (s13_18.nl || x22) then ((Z3 y6_c0 true (29 : Int) a4).bind fun x25 => Z4_j10 s21_5 k_next_4 x25) else ((Z7 y6_c0 s13_18 x13.FArgs (((x13.FName == ([100, 101, 102, 101, 114] : Bs))) || ((x13.FName == ([115, 116, 114, 101, 97, 109] : Bs)))) a4).bind fun x27 => Z4_l30 a4 s21_5 x13 s13_18 k_next_4 (s13_18.l.length + 1) 0 x27)
def Z4_l4 (a1 : TSel) (a2 : TRef) (a3 : Bool) (a4 : Bs)  : Nat → Nat → Fields_checker → Option Fields_checker
 | 0, _, _ => none
 | n4 + 1, s21_5, y6_c0 => bif (decide (((s21_5 : Nat) : Int) < ((a1.FDirs.l.length : Nat) : Int))) then ((a1.FDirs.l[s21_5]?).bind fun x13 => (Z2 x13.FName ((!decide (a1.FKind = (2 : Int))) && (!decide (a1.FKind = (3 : Int))))).bind fun x16 => guardO ((((x13.FName == ([115, 116, 114, 101, 97, 109] : Bs))) && a3)) (Z105 a2) false fun x43 => bif ((((x13.FName == ([115, 116, 114, 101, 97, 109] : Bs))) && a3) && (!x43)) then (Z4_j17 a1 a4 s21_5 y6_c0 x13 ((Z4_l4 a1 a2 a3 a4 n4)) (Sl.nil : Sl TInput)) else (Z4_j17 a1 a4 s21_5 y6_c0 x13 ((Z4_l4 a1 a2 a3 a4 n4)) x16)) else (some y6_c0)
def Z4 (a0 : Fields_checker) (a1 : TSel) (a2 : TRef) (a3 : Bool) (a4 : Bs) : Option Fields_checker := Z4_l4 a1 a2 a3 a4 (a1.FDirs.l.length + 1) 0 a0
theorem Z4_walk {a0 : Fields_checker} {a1 : TSel} {a2 : TRef} {a3 : Bool} {a4 : Bs}  {c0 : Nat} {c0_2 : Nat} {r : Fields_checker} (hE : Z4 a0 a1 a2 a3 a4 = some r) (H : Heap) (hc0 : H c0 = some (.cells (Fields_checker.cg (some c0_2) a0))) (ht0_2 : H c0_2 = some (.tok 2 a0.Fout.l.length)) : ACalls Tryz.prog 58 [.d (.ptr c0 0), .agg (TSel.c a1), .agg (TRef.c a2), .d (.bool a3), .d (.str a4)] H fun v h' => v = .tup [] ∧ h' = ((H.set c0_2 (some (.tok 2 r.Fout.l.length))).set c0 (some (.cells (Fields_checker.cg (some c0_2) r)))) := by
 unfold Z4 at hE
 refine ACalls.of_wp (fn := Tryz.f58) (c := _) Tryz.tab_ok (fun _ _ => Tryz.call58 _ _) Tryz.func58 rfl (n := 97) rfl (rs := []) rfl rfl ?_
 have ne_c0_c0_2 : c0 ≠ c0_2 := fun e_ => by subst e_; simp_all
 refine AWp.heqA (h' := ((H.set c0_2 (some (.tok 2 a0.Fout.l.length))).set c0 (some (.cells (Fields_checker.cg (some c0_2) a0))))) (by funext n_; simp only [Heap.set]; (repeat' split) <;> simp_all) ?_
 refine seqK fun K1 hK1 => ?_
 refine region ?_
 refine s0 (boxV rfl) rfl ?_
 refine s0 (boxV rfl) rfl ?_
 refine nil ?_
 refine hK1 _ ?_
 clear hK1 K1
 refine seqK fun K2 hK2 => ?_
 refine region ?_
 refine s0 (fieldVA (TK rfl) rfl rfl (TK rfl) rfl rfl) rfl ?_
 refine s0 (loadV (TK rfl) rfl rfl rfl) rfl ?_
 refine sLen (f := TDir.c) (s := a1.FDirs) (TK rfl) rfl rfl rfl rfl fun hL3 => ?_
 refine s0 moveA rfl ?_
 refine nil ?_
 refine hK2 _ ?_
 clear hK2 K2
 refine block ?_
 refine loopH (KeepsT.A (k := 0) (KeepsT.A (k := 3) (KeepsT.A (k := 4) (KeepsT.A (k := 6) (KeepsT.A (k := 7) (KeepsT.A (k := 19) (KeepsT.A (k := 20) KeepsT.nil))))))) (fun (z : Nat × Nat × Fields_checker) => [(21, .a (.d (.int .i64 ((z.2.1 : Nat) : Int))))]) (fun z => ((H.set c0_2 (some (.tok 2 z.2.2.Fout.l.length))).set c0 (some (.cells (Fields_checker.cg (some c0_2) z.2.2))))) (fun z => z.1) (fun z => Z4_l4 a1 a2 a3 a4 z.1 z.2.1 z.2.2 = some r) ((a1.FDirs.l.length + 1), 0, a0) hE Weak.toA ?_
 rintro ⟨n4, s21_5, y6_c0⟩ hE K4 hK4
 try dsimp only at hE
 cases n4 with
 | zero => cases hE
 | succ n4 =>
   rw [Z4_l4] at hE
   refine seqK fun K7 hK7 => ?_
   refine region ?_
   refine s0 (binI rfl rfl rfl) rfl ?_
   refine nil ?_
   refine hK7 _ ?_
   clear hK7 K7
   refine seqK fun K8 hK8 => ?_
   refine condE hE rfl (fun hc9 hE => ?_) (fun hc9 hE => ?_)
   ·try dsimp only at hc9
    have hf9 := of_decide_eq_true hc9
    refine AWp.skip ?_
    refine hK8 _ ?_
    clear hK8 K8
    refine seqJH (KeepsT.A (k := 0) (KeepsT.A (k := 3) (KeepsT.A (k := 4) (KeepsT.A (k := 6) (KeepsT.A (k := 7) (KeepsT.A (k := 19) (KeepsT.A (k := 20) (KeepsT.A (k := 21) KeepsT.nil)))))))) (fun (z : Fields_checker) => []) (fun z => ((H.set c0_2 (some (.tok 2 z.Fout.l.length))).set c0 (some (.cells (Fields_checker.cg (some c0_2) z))))) (fun z => Z4_j10 s21_5 ((Z4_l4 a1 a2 a3 a4 n4)) z = some r) ?_ ?_
    ·intro K10 hK10
     refine block ?_
     refine seqK fun K12 hK12 => ?_
     refine region ?_
     refine s0 moveA rfl ?_
     obtain ⟨x13, gx13, hE⟩ := bindO_some hE
     refine s0 (idxMn (f := TDir.c) (n := s21_5) (TK rfl) rfl (TK rfl) rfl rfl rfl gx13) rfl ?_
     refine s0 (loadV (TK rfl) rfl rfl rfl) rfl ?_
     refine sL (allocLA (TK rfl) rfl) rfl ?_
     refine s0 assignA rfl ?_
     refine sLn (storeLFA (TK rfl) rfl rfl rfl rfl rfl) ?_
     refine nil ?_
     refine hK12 _ ?_
     clear hK12 K12
     refine freezeA 11 _ rfl (Keeps.c (k := 0) (by conv => lhs; whnf) (by rfl) (Keeps.c (k := 3) (by conv => lhs; whnf) (by rfl) (Keeps.c (k := 4) (by conv => lhs; whnf) (by rfl) (Keeps.c (k := 6) (by conv => lhs; whnf) (by rfl) (Keeps.c (k := 7) (by conv => lhs; whnf) (by rfl) (Keeps.c (k := 10) (by conv => lhs; whnf) (by rfl) (Keeps.c (k := 19) (by conv => lhs; whnf) (by rfl) (Keeps.c (k := 20) (by conv => lhs; whnf) (by rfl) (Keeps.c (k := 21) (by conv => lhs; whnf) (by rfl) Keeps.nil))))))))) ?_
     refine seqK fun K14 hK14 => ?_
     refine region ?_
     refine s0 (fieldVA (TK rfl) rfl rfl (TK rfl) rfl rfl) rfl ?_
     refine s0 (loadV (TK rfl) rfl rfl rfl) rfl ?_
     refine s0 (binI rfl rfl rfl) rfl ?_
     refine s0 moveA rfl ?_
     refine gC rfl rfl (fun hC => fieldVA (TK rfl) rfl rfl (TK rfl) rfl rfl) rfl ?_
     refine gC rfl rfl (fun hC => ungdA (k := 30) rfl (loadV (TK rfl) rfl rfl rfl)) rfl ?_
     refine gC rfl rfl (fun hC => ungdA (k := 31) rfl (binI rfl rfl rfl)) rfl ?_
     refine s0 (pickAndA rfl rfl rfl) rfl ?_
     refine s0 assignA rfl ?_
     refine nil ?_
     refine hK14 _ ?_
     clear hK14 K14
     refine seqK fun K15 hK15 => ?_
     refine region ?_
     refine s0 (fieldVA (TK rfl) rfl rfl (TK rfl) rfl rfl) rfl ?_
     refine s0 (loadV (TK rfl) rfl rfl rfl) rfl ?_
     refine s0 moveA rfl ?_
     obtain ⟨x16, gx16, hE⟩ := bindO_some hE
     refine s0 (callP rfl rfl (fun H => Z2_walk gx16 H)) rfl ?_
     refine s0 assignA rfl ?_
     refine nil ?_
     refine hK15 _ ?_
     clear hK15 K15
     refine seqJH (KeepsT.A (k := 0) (KeepsT.A (k := 3) (KeepsT.A (k := 4) (KeepsT.A (k := 6) (KeepsT.A (k := 7) (KeepsT.A (k := 10) (KeepsT.A (k := 11) (KeepsT.A (k := 19) (KeepsT.A (k := 20) (KeepsT.A (k := 21) KeepsT.nil)))))))))) (fun (z : (Sl TInput)) => [(13, .a (.d (Sl.d 10 TInput.c none z)))]) (fun z => ((H.set c0_2 (some (.tok 2 y6_c0.Fout.l.length))).set c0 (some (.cells (Fields_checker.cg (some c0_2) y6_c0))))) (fun z => Z4_j17 a1 a4 s21_5 y6_c0 x13 ((Z4_l4 a1 a2 a3 a4 n4)) z = some r) ?_ ?_
     ·intro K17 hK17
      refine seqK fun K42 hK42 => ?_
      refine region ?_
      refine s0 (fieldVA (TK rfl) rfl rfl (TK rfl) rfl rfl) rfl ?_
      refine s0 (loadV (TK rfl) rfl rfl rfl) rfl ?_
      refine s0 (binS rfl rfl rfl) rfl ?_
      refine s0 moveA rfl ?_
      refine gC rfl rfl (fun hC => moveA) rfl ?_
      refine s0 (pickAndA rfl rfl rfl) rfl ?_
      refine s0 moveA rfl ?_
      refine gC rfl rfl (fun hC => loadV (TK rfl) rfl rfl rfl) rfl ?_
      obtain ⟨x43, gx43, hE⟩ := guardO_some hE
      refine gC rfl rfl (fun hC => ungdA (k := 45) rfl (callP rfl rfl (fun H => Z105_walk (gx43 hC) H))) rfl ?_
      refine gC rfl rfl (fun hC => ungdA (k := 46) rfl (notB rfl)) rfl ?_
      refine s0 (pickAndA rfl rfl rfl) rfl ?_
      refine nil ?_
      refine hK42 _ ?_
      clear hK42 K42
      refine condE hE rfl (fun hc44 hE => ?_) (fun hc44 hE => ?_)
      ·refine region ?_
       refine s0 (assignNil (k' := 10) rfl) rfl ?_
       refine nil ?_
       exact hK17 _ (Sl.nil : Sl TInput) Weak.toA hE
      refine AWp.skip ?_
      exact hK17 _ x16 Weak.toA hE
     rintro s13_18 hE
     try dsimp only at hE
     unfold Z4_j17 at hE
     refine seqK fun K19 hK19 => ?_
     refine seqK fun K20 hK20 => ?_
     refine region ?_
     refine s0 moveA rfl ?_
     refine s0 (eqNil (TK rfl) rfl rfl) rfl ?_
     refine s0 moveA rfl ?_
     refine gC rfl rfl (fun hC => fieldVA (TK rfl) rfl rfl (TK rfl) rfl rfl) rfl ?_
     refine gC rfl rfl (fun hC => ungdA (k := 52) rfl (loadV (TK rfl) rfl rfl rfl)) rfl ?_
     refine gC rfl rfl (fun hC => moveA) rfl ?_
     obtain ⟨x21, gx21, hE⟩ := guardO_some hE
     refine gC rfl rfl (fun hC => ungdA (k := 53) rfl (ungdA (k := 54) rfl (partM (f := TDir.c) (l := none) (r := (some ((s21_5 : Nat) : Int))) (TK rfl) rfl (TK rfl) rfl rfl trivial rfl (gx21 hC)))) rfl ?_
     refine gC rfl rfl (fun hC => makeFunc rfl) rfl ?_
     obtain ⟨x22, gx22, hE⟩ := guardO_some hE
     refine gC rfl rfl (fun hC => ungdA (k := 55) rfl (ungdA (k := 56) rfl (callP rfl rfl (fun H => Z93_walk (gx22 hC) H (fun _ _ hx => Z5_walk hx))))) rfl ?_
     refine s0 (pickOrA rfl rfl rfl) rfl ?_
     refine nil ?_
     refine hK20 _ ?_
     clear hK20 K20
     refine condE hE rfl (fun hc23 hE => ?_) (fun hc23 hE => ?_)
     ·refine seqK fun K24 hK24 => ?_
      refine region ?_
      refine s0 moveA rfl ?_
      refine s0 moveA rfl ?_
      obtain ⟨x25, gx25, hE⟩ := bindO_some hE
      refine sH (callH rfl rfl (Z3_walk gx25 _ hpG hpG)) rfl ?_
      refine AOps.heq (h' := ((H.set c0_2 (some (.tok 2 x25.Fout.l.length))).set c0 (some (.cells (Fields_checker.cg (some c0_2) x25))))) (by first | rfl | (rw [Heap.set_set]; rfl) | (funext n_; simp only [Heap.set]; (repeat' split) <;> first | rfl | (exfalso; simp_all; done) | (simp_all; done))) ?_
      refine nil ?_
      refine hK24 _ ?_
      clear hK24 K24
      refine AWp.exit ?_
      exact hK10 _ x25 Weak.toA hE
     refine AWp.skip ?_
     refine hK19 _ ?_
     clear hK19 K19
     refine seqK fun K26 hK26 => ?_
     refine region ?_
     refine s0 moveA rfl ?_
     refine s0 moveA rfl ?_
     refine s0 (fieldVA (TK rfl) rfl rfl (TK rfl) rfl rfl) rfl ?_
     refine s0 (loadV (TK rfl) rfl rfl rfl) rfl ?_
     refine s0 (fieldVA (TK rfl) rfl rfl (TK rfl) rfl rfl) rfl ?_
     refine s0 (loadV (TK rfl) rfl rfl rfl) rfl ?_
     refine s0 (binS rfl rfl rfl) rfl ?_
     refine s0 moveA rfl ?_
     refine gC rfl rfl (fun hC => fieldVA (TK rfl) rfl rfl (TK rfl) rfl rfl) rfl ?_
     refine gC rfl rfl (fun hC => ungdA (k := 70) rfl (loadV (TK rfl) rfl rfl rfl)) rfl ?_
     refine gC rfl rfl (fun hC => ungdA (k := 71) rfl (binS rfl rfl rfl)) rfl ?_
     refine s0 (pickOrA rfl rfl rfl) rfl ?_
     refine s0 moveA rfl ?_
     obtain ⟨x27, gx27, hE⟩ := bindO_some hE
     refine sH (callH rfl rfl (Z7_walk gx27 _ hpG hpG)) rfl ?_
     refine AOps.heq (h' := ((H.set c0_2 (some (.tok 2 x27.Fout.l.length))).set c0 (some (.cells (Fields_checker.cg (some c0_2) x27))))) (by first | rfl | (rw [Heap.set_set]; rfl) | (funext n_; simp only [Heap.set]; (repeat' split) <;> first | rfl | (exfalso; simp_all; done) | (simp_all; done))) ?_
     refine nil ?_
     refine hK26 _ ?_
     clear hK26 K26
     refine seqK fun K28 hK28 => ?_
     refine region ?_
     refine s0 moveA rfl ?_
     refine sLen (f := TInput.c) (s := s13_18) (TK rfl) rfl rfl rfl rfl fun hL29 => ?_
     refine s0 moveA rfl ?_
     refine nil ?_
     refine hK28 _ ?_
     clear hK28 K28
     refine block ?_
     refine loopH (KeepsT.A (k := 0) (KeepsT.A (k := 3) (KeepsT.A (k := 4) (KeepsT.A (k := 6) (KeepsT.A (k := 7) (KeepsT.A (k := 11) (KeepsT.A (k := 19) (KeepsT.A (k := 20) (KeepsT.A (k := 21) (KeepsT.A (k := 76) (KeepsT.A (k := 77) KeepsT.nil))))))))))) (fun (z : Nat × Nat × Fields_checker) => [(78, .a (.d (.int .i64 ((z.2.1 : Nat) : Int))))]) (fun z => ((H.set c0_2 (some (.tok 2 z.2.2.Fout.l.length))).set c0 (some (.cells (Fields_checker.cg (some c0_2) z.2.2))))) (fun z => z.1) (fun z => Z4_l30 a4 s21_5 x13 s13_18 ((Z4_l4 a1 a2 a3 a4 n4)) z.1 z.2.1 z.2.2 = some r) ((s13_18.l.length + 1), 0, x27) hE Weak.toA ?_
     rintro ⟨n30, s78_31, y32_c0⟩ hE K30 hK30
     try dsimp only at hE
     cases n30 with
     | zero => cases hE
     | succ n30 =>
       rw [Z4_l30] at hE
       refine seqK fun K33 hK33 => ?_
       refine region ?_
       refine s0 (binI rfl rfl rfl) rfl ?_
       refine nil ?_
       refine hK33 _ ?_
       clear hK33 K33
       refine seqK fun K34 hK34 => ?_
       refine condE hE rfl (fun hc35 hE => ?_) (fun hc35 hE => ?_)
       ·try dsimp only at hc35
        have hf35 := of_decide_eq_true hc35
        refine AWp.skip ?_
        refine hK34 _ ?_
        clear hK34 K34
        refine seqK fun K36 hK36 => ?_
        refine block ?_
        refine seqK fun K37 hK37 => ?_
        refine region ?_
        obtain ⟨x38, gx38, hE⟩ := bindO_some hE
        refine s0 (idxMn (f := TInput.c) (n := s78_31) (TK rfl) rfl (TK rfl) rfl rfl rfl gx38) rfl ?_
        refine s0 (loadV (TK rfl) rfl rfl rfl) rfl ?_
        refine sL (allocLA (TK rfl) rfl) rfl ?_
        refine sLn (storeLFA (TK rfl) rfl rfl rfl rfl rfl) ?_
        refine nil ?_
        refine hK37 _ ?_
        clear hK37 K37
        refine freezeA 15 _ rfl (Keeps.c (k := 0) (by conv => lhs; whnf) (by rfl) (Keeps.c (k := 3) (by conv => lhs; whnf) (by rfl) (Keeps.c (k := 4) (by conv => lhs; whnf) (by rfl) (Keeps.c (k := 6) (by conv => lhs; whnf) (by rfl) (Keeps.c (k := 7) (by conv => lhs; whnf) (by rfl) (Keeps.c (k := 11) (by conv => lhs; whnf) (by rfl) (Keeps.c (k := 19) (by conv => lhs; whnf) (by rfl) (Keeps.c (k := 20) (by conv => lhs; whnf) (by rfl) (Keeps.c (k := 21) (by conv => lhs; whnf) (by rfl) (Keeps.c (k := 76) (by conv => lhs; whnf) (by rfl) (Keeps.c (k := 77) (by conv => lhs; whnf) (by rfl) (Keeps.c (k := 78) (by conv => lhs; whnf) (by rfl) Keeps.nil)))))))))))) ?_
        refine seqK fun K39 hK39 => ?_
        refine region ?_
        refine s0 (fieldVA (TK rfl) rfl rfl (TK rfl) rfl rfl) rfl ?_
        refine s0 (loadV (TK rfl) rfl rfl rfl) rfl ?_
        refine s0 (fieldVA (TK rfl) rfl rfl (TK rfl) rfl rfl) rfl ?_
        refine s0 (loadV (TK rfl) rfl rfl rfl) rfl ?_
        obtain ⟨x40, gx40, hE⟩ := bindO_some hE
        refine s0 (callP rfl rfl (fun H => Z10_walk gx40 H)) rfl ?_
        refine s0 moveA rfl ?_
        refine s0 (extract rfl rfl) rfl ?_
        refine s0 (extract rfl rfl) rfl ?_
        refine sL (allocLA (TK rfl) rfl) rfl ?_
        refine sLn (storeLFA (TK rfl) rfl rfl rfl rfl rfl) ?_
        refine s0 assignA rfl ?_
        refine nil ?_
        refine hK39 _ ?_
        clear hK39 K39
        refine freezeA 16 _ rfl (Keeps.c (k := 0) (by conv => lhs; whnf) (by rfl) (Keeps.c (k := 3) (by conv => lhs; whnf) (by rfl) (Keeps.c (k := 4) (by conv => lhs; whnf) (by rfl) (Keeps.c (k := 6) (by conv => lhs; whnf) (by rfl) (Keeps.c (k := 7) (by conv => lhs; whnf) (by rfl) (Keeps.c (k := 11) (by conv => lhs; whnf) (by rfl) (Keeps.c (k := 17) (by conv => lhs; whnf) (by rfl) (Keeps.c (k := 19) (by conv => lhs; whnf) (by rfl) (Keeps.c (k := 20) (by conv => lhs; whnf) (by rfl) (Keeps.c (k := 21) (by conv => lhs; whnf) (by rfl) (Keeps.c (k := 76) (by conv => lhs; whnf) (by rfl) (Keeps.c (k := 77) (by conv => lhs; whnf) (by rfl) (Keeps.c (k := 78) (by conv => lhs; whnf) (by rfl) Keeps.nil))))))))))))) ?_
        refine region ?_
        refine s0 moveA rfl ?_
        refine s0 moveA rfl ?_
        refine s0 (notB rfl) rfl ?_
        refine s0 moveA rfl ?_
        obtain ⟨x41, gx41, hE⟩ := bindO_some hE
        refine sH (callH rfl rfl (Z3_walk gx41 _ hpG hpG)) rfl ?_
        refine AOps.heq (h' := ((H.set c0_2 (some (.tok 2 x41.Fout.l.length))).set c0 (some (.cells (Fields_checker.cg (some c0_2) x41))))) (by first | rfl | (rw [Heap.set_set]; rfl) | (funext n_; simp only [Heap.set]; (repeat' split) <;> first | rfl | (exfalso; simp_all; done) | (simp_all; done))) ?_
        refine nil ?_
        refine hK36 _ ?_
        clear hK36 K36
        refine region ?_
        refine s0 (addIA rfl rfl) rfl ?_
        refine s0 moveA rfl ?_
        refine nil ?_
        exact hK30 _ (n30, (s78_31 + 1), x41) Weak.toA hE (Nat.lt_succ_self _)
       refine AWp.exit ?_
       exact hK10 _ y32_c0 Weak.toA hE
    rintro y11_c0 hE
    try dsimp only at hE
    unfold Z4_j10 at hE
    refine region ?_
    refine s0 (addIA rfl rfl) rfl ?_
    refine s0 moveA rfl ?_
    refine nil ?_
    exact hK4 _ (n4, (s21_5 + 1), y11_c0) Weak.toA hE (Nat.lt_succ_self _)
   refine AWp.exit ?_
   repeat (first | refine xBlock_normal ?_ | refine xThen_exit ?_ | refine xBlock_exit ?_)
   obtain rfl := Option.some.inj hE
   refine retQ.normalF ((H.set c0_2 (some (.tok 2 y6_c0.Fout.l.length))).set c0 (some (.cells (Fields_checker.cg (some c0_2) y6_c0)))) (xs := []) rfl ⟨rfl, rfl⟩ ?_
   exact (fun _ _ h => h)
def Z82 (a0 : TDoc) (a1 : Bs) : Option Bool := (Z90 a0 a1).bind fun x3 => (Z89 a1).bind fun x5 => some ((!x5) && (((decide (x3 = (1 : Int))) || (decide (x3 = (2 : Int)))) || (decide (x3 = (3 : Int)))))
theorem Z82_walk {a0 : TDoc} {a1 : Bs}   {r : Bool} (hE : Z82 a0 a1 = some r) (H : Heap)  : ACalls Tryz.prog 43 [.agg (TDoc.c a0), .d (.str a1)] H fun v h' => v = .a (.d (.bool r)) ∧ h' = H := by
 unfold Z82 at hE
 refine ACalls.of_wp (fn := Tryz.f43) (c := _) Tryz.tab_ok (fun _ _ => Tryz.call43 _ _) Tryz.func43 rfl (n := 24) rfl (rs := [.tmp 4]) rfl rfl ?_
 refine seqK fun K1 hK1 => ?_
 refine region ?_
 refine s0 (boxV rfl) rfl ?_
 refine s0 assignA rfl ?_
 refine nil ?_
 refine hK1 _ ?_
 clear hK1 K1
 refine seqK fun K2 hK2 => ?_
 refine region ?_
 refine s0 (loadV (TK rfl) rfl rfl rfl) rfl ?_
 refine s0 moveA rfl ?_
 obtain ⟨x3, gx3, hE⟩ := bindO_some hE
 refine s0 (callP rfl rfl (fun H => Z90_walk gx3 H)) rfl ?_
 refine s0 assignA rfl ?_
 refine nil ?_
 refine hK2 _ ?_
 clear hK2 K2
 refine seqK fun K4 hK4 => ?_
 refine region ?_
 refine s0 moveA rfl ?_
 obtain ⟨x5, gx5, hE⟩ := bindO_some hE
 refine s0 (callP rfl rfl (fun H => Z89_walk gx5 H)) rfl ?_
 refine s0 (notB rfl) rfl ?_
 refine s0 moveA rfl ?_
 refine gC rfl rfl (fun hC => moveA) rfl ?_
 refine gC rfl rfl (fun hC => ungdA (k := 13) rfl (binI rfl rfl rfl)) rfl ?_
 refine gC rfl rfl (fun hC => ungdA (k := 14) rfl moveA) rfl ?_
 refine gC rfl rfl (fun hC => moveA) rfl ?_
 refine gC rfl rfl (fun hC => ungdA (k := 16) rfl (binI rfl rfl rfl)) rfl ?_
 refine gC rfl rfl (fun hC => ungdA (k := 15) rfl (pickOrA rfl rfl rfl)) rfl ?_
 refine gC rfl rfl (fun hC => ungdA (k := 18) rfl moveA) rfl ?_
 refine gC rfl rfl (fun hC => moveA) rfl ?_
 refine gC rfl rfl (fun hC => ungdA (k := 20) rfl (binI rfl rfl rfl)) rfl ?_
 refine gC rfl rfl (fun hC => ungdA (k := 19) rfl (pickOrA rfl rfl rfl)) rfl ?_
 refine s0 (pickAndA rfl rfl rfl) rfl ?_
 refine s0 assignA rfl ?_
 refine nil ?_
 refine hK4 _ ?_
 clear hK4 K4
 refine AWp.ret ?_
 repeat (first | refine xBlock_ret ?_ | refine xThen_ret ?_)
 obtain rfl := Option.some.inj hE
 refine retQ.retF H rfl ⟨rfl, rfl⟩ ?_
 exact (fun _ _ h => h)
def Z83_j2  (y3_l0 : TField) : Option (TField × Bool) := some ((TField.mk ([] : Bs) (Sl.nil : Sl TInput) TRef.zero (Sl.nil : Sl TDir)), false)
def Z83_l7 (a0 : TDef) (a1 : Bs)  : Nat → Nat → TField → Option (TField × Bool)
 | 0, _, _ => none
 | n7 + 1, s11_8, y9_l0 => bif (decide (((s11_8 : Nat) : Int) < ((a0.FFields.l.length : Nat) : Int))) then ((a0.FFields.l[s11_8]?).bind fun x15 => bif ((x15.FName == a1)) then (some (x15, true)) else ((Z83_l7 a0 a1 n7) (s11_8 + 1) y9_l0)) else (Z83_j2   y9_l0)
def Z83 (a0 : TDef) (a1 : Bs) : Option (TField × Bool) := Z83_l7 a0 a1 (a0.FFields.l.length + 1) 0 TField.zero
theorem Z83_walk {a0 : TDef} {a1 : Bs}   {r : (TField × Bool)} (hE : Z83 a0 a1 = some r) (H : Heap)  : ACalls Tryz.prog 53 [.agg (TDef.c a0), .d (.str a1)] H fun v h' => v = .tup [.agg (TField.c r.1), .d (.bool r.2)] ∧ h' = H := by
 unfold Z83 at hE
 refine ACalls.of_wp (fn := Tryz.f53) (c := _) Tryz.tab_ok (fun _ _ => Tryz.call53 _ _) Tryz.func53 rfl (n := 22) rfl (rs := [.cell 4 103, .tmp 5]) rfl rfl ?_
 refine seqK fun K1 hK1 => ?_
 refine region ?_
 refine s0 (boxV rfl) rfl ?_
 refine sL (allocLA (TK rfl) rfl) rfl ?_
 refine s0 assignA rfl ?_
 refine nil ?_
 refine hK1 _ ?_
 clear hK1 K1
 refine seqJ (KeepsT.A (k := 4) KeepsT.nil) (fun (z : TField) => []) (fun z => [TField.c z]) (fun z => H) (fun z => Z83_j2 z = some r) ?_ ?_
 ·intro K2 hK2
  refine seqK fun K5 hK5 => ?_
  refine region ?_
  refine s0 (fieldVA (TK rfl) rfl rfl (TK rfl) rfl rfl) rfl ?_
  refine s0 (loadV (TK rfl) rfl rfl rfl) rfl ?_
  refine sLen (f := TField.c) (s := a0.FFields) (TK rfl) rfl rfl rfl rfl fun hL6 => ?_
  refine s0 moveA rfl ?_
  refine nil ?_
  refine hK5 _ ?_
  clear hK5 K5
  refine block ?_
  refine loopO (KeepsT.A (k := 1) (KeepsT.A (k := 4) (KeepsT.A (k := 9) (KeepsT.A (k := 10) KeepsT.nil)))) (fun (z : Nat × Nat × TField) => [(11, .a (.d (.int .i64 ((z.2.1 : Nat) : Int))))]) (fun z => [TField.c z.2.2]) (fun z => H) (fun z => z.1) (fun z => Z83_l7 a0 a1 z.1 z.2.1 z.2.2 = some r) ((a0.FFields.l.length + 1), 0, TField.zero) hE Weak.toA ?_
  rintro ⟨n7, s11_8, y9_l0⟩ hE K7 hK7
  try dsimp only at hE
  cases n7 with
  | zero => cases hE
  | succ n7 =>
    rw [Z83_l7] at hE
    refine seqK fun K10 hK10 => ?_
    refine region ?_
    refine s0 (binI rfl rfl rfl) rfl ?_
    refine nil ?_
    refine hK10 _ ?_
    clear hK10 K10
    refine seqK fun K11 hK11 => ?_
    refine condE hE rfl (fun hc12 hE => ?_) (fun hc12 hE => ?_)
    ·try dsimp only at hc12
     have hf12 := of_decide_eq_true hc12
     refine AWp.skip ?_
     refine hK11 _ ?_
     clear hK11 K11
     refine seqK fun K13 hK13 => ?_
     refine block ?_
     refine seqK fun K14 hK14 => ?_
     refine region ?_
     obtain ⟨x15, gx15, hE⟩ := bindO_some hE
     refine s0 (idxMn (f := TField.c) (n := s11_8) (TK rfl) rfl (TK rfl) rfl rfl rfl gx15) rfl ?_
     refine s0 (loadV (TK rfl) rfl rfl rfl) rfl ?_
     refine sL (allocLA (TK rfl) rfl) rfl ?_
     refine sLn (storeLFA (TK rfl) rfl rfl rfl rfl rfl) ?_
     refine nil ?_
     refine hK14 _ ?_
     clear hK14 K14
     refine freezeA 7 _ rfl (Keeps.c (k := 1) (by conv => lhs; whnf) (by rfl) (Keeps.c (k := 4) (by conv => lhs; whnf) (by rfl) (Keeps.c (k := 9) (by conv => lhs; whnf) (by rfl) (Keeps.c (k := 10) (by conv => lhs; whnf) (by rfl) (Keeps.c (k := 11) (by conv => lhs; whnf) (by rfl) Keeps.nil))))) ?_
     refine seqK fun K16 hK16 => ?_
     refine region ?_
     refine s0 (fieldVA (TK rfl) rfl rfl (TK rfl) rfl rfl) rfl ?_
     refine s0 (loadV (TK rfl) rfl rfl rfl) rfl ?_
     refine s0 moveA rfl ?_
     refine s0 (binS rfl rfl rfl) rfl ?_
     refine nil ?_
     refine hK16 _ ?_
     clear hK16 K16
     refine condE hE rfl (fun hc17 hE => ?_) (fun hc17 hE => ?_)
     ·refine seqK fun K18 hK18 => ?_
      refine region ?_
      refine s0 (loadV (TK rfl) rfl rfl rfl) rfl ?_
      refine sLn (storeLFA (TK rfl) rfl rfl rfl rfl rfl) ?_
      refine s0 assignA rfl ?_
      refine nil ?_
      refine hK18 _ ?_
      clear hK18 K18
      refine AWp.ret ?_
      repeat (first | refine xBlock_ret ?_ | refine xThen_ret ?_)
      obtain rfl := Option.some.inj hE
      refine retQ.retF H rfl ⟨rfl, rfl⟩ ?_
      exact (fun _ _ h => h)
     refine AWp.skip ?_
     refine hK13 _ ?_
     clear hK13 K13
     refine region ?_
     refine s0 (addIA rfl rfl) rfl ?_
     refine s0 moveA rfl ?_
     refine nil ?_
     exact hK7 _ (n7, (s11_8 + 1), y9_l0) Weak.toA hE (Nat.lt_succ_self _)
    refine AWp.exit ?_
    exact hK2 _ y9_l0 Weak.toA hE
 rintro y3_l0 hE
 try dsimp only at hE
 unfold Z83_j2 at hE
 refine seqK fun K4 hK4 => ?_
 refine region ?_
 refine s0 (build Tryz.tab_ok rfl rfl rfl rfl rfl rfl) rfl ?_
 refine sLn (storeLFA (TK rfl) rfl rfl rfl rfl rfl) ?_
 refine s0 assignA rfl ?_
 refine nil ?_
 refine hK4 _ ?_
 clear hK4 K4
 refine AWp.ret ?_
 repeat (first | refine xBlock_ret ?_ | refine xThen_ret ?_)
 obtain rfl := Option.some.inj hE
 refine retQ.retF H rfl ⟨rfl, rfl⟩ ?_
 exact (fun _ _ h => h)
def Z1 (a0 : TDoc) (a1 : Bs) (a2 : Bs) : Option (TRef × Bool) := (Z82 a0 a1).bind fun x4 => bif (!x4) then (some ((TRef.mk ([] : Bs) (Sl.nil : Sl Int)), false)) else (bif ((a2 == ([95, 95, 116, 121, 112, 101, 110, 97, 109, 101] : Bs))) then ((Z107 ([83, 116, 114, 105, 110, 103] : Bs)).bind fun x11 => (Z108 x11).bind fun x12 => some (x12, true)) else ((Z84 a0 a1).bind fun x14 => (Z83 x14.1 a2).bind fun x16 => bif (!x16.2) then (some ((TRef.mk ([] : Bs) (Sl.nil : Sl Int)), false)) else ((Z91 x16.1.FType.FWraps).bind fun x22 => some ((TRef.mk x16.1.FType.FName x22), true))))
theorem Z1_walk {a0 : TDoc} {a1 : Bs} {a2 : Bs}   {r : (TRef × Bool)} (hE : Z1 a0 a1 a2 = some r) (H : Heap)  : ACalls Tryz.prog 19 [.agg (TDoc.c a0), .d (.str a1), .d (.str a2)] H fun v h' => v = .tup [.agg (TRef.c r.1), .d (.bool r.2)] ∧ h' = H := by
 unfold Z1 at hE
 refine ACalls.of_wp (fn := Tryz.f19) (c := _) Tryz.tab_ok (fun _ _ => Tryz.call19 _ _) Tryz.func19 rfl (n := 44) rfl (rs := [.cell 6 55, .tmp 7]) rfl rfl ?_
 refine seqK fun K1 hK1 => ?_
 refine region ?_
 refine s0 (boxV rfl) rfl ?_
 refine sL (allocLA (TK rfl) rfl) rfl ?_
 refine s0 assignA rfl ?_
 refine nil ?_
 refine hK1 _ ?_
 clear hK1 K1
 refine seqK fun K2 hK2 => ?_
 refine seqK fun K3 hK3 => ?_
 refine region ?_
 refine s0 (loadV (TK rfl) rfl rfl rfl) rfl ?_
 refine s0 moveA rfl ?_
 obtain ⟨x4, gx4, hE⟩ := bindO_some hE
 refine s0 (callP rfl rfl (fun H => Z82_walk gx4 H)) rfl ?_
 refine s0 (notB rfl) rfl ?_
 refine nil ?_
 refine hK3 _ ?_
 clear hK3 K3
 refine condE hE rfl (fun hc5 hE => ?_) (fun hc5 hE => ?_)
 ·refine seqK fun K6 hK6 => ?_
  refine region ?_
  refine s0 (build Tryz.tab_ok rfl rfl rfl rfl rfl rfl) rfl ?_
  refine sLn (storeLFA (TK rfl) rfl rfl rfl rfl rfl) ?_
  refine s0 assignA rfl ?_
  refine nil ?_
  refine hK6 _ ?_
  clear hK6 K6
  refine AWp.ret ?_
  repeat (first | refine xBlock_ret ?_ | refine xThen_ret ?_)
  obtain rfl := Option.some.inj hE
  refine retQ.retF H rfl ⟨rfl, rfl⟩ ?_
  exact (fun _ _ h => h)
 refine AWp.skip ?_
 refine hK2 _ ?_
 clear hK2 K2
 refine seqK fun K7 hK7 => ?_
 refine seqK fun K8 hK8 => ?_
 refine region ?_
 refine s0 moveA rfl ?_
 refine s0 (binS rfl rfl rfl) rfl ?_
 refine nil ?_
 refine hK8 _ ?_
 clear hK8 K8
 refine condE hE rfl (fun hc9 hE => ?_) (fun hc9 hE => ?_)
 ·refine seqK fun K10 hK10 => ?_
  refine region ?_
  obtain ⟨x11, gx11, hE⟩ := bindO_some hE
  refine s0 (callP rfl rfl (fun H => Z107_walk gx11 H)) rfl ?_
  obtain ⟨x12, gx12, hE⟩ := bindO_some hE
  refine s0 (callP rfl rfl (fun H => Z108_walk gx12 H)) rfl ?_
  refine sLn (storeLFA (TK rfl) rfl rfl rfl rfl rfl) ?_
  refine s0 assignA rfl ?_
  refine nil ?_
  refine hK10 _ ?_
  clear hK10 K10
  refine AWp.ret ?_
  repeat (first | refine xBlock_ret ?_ | refine xThen_ret ?_)
  obtain rfl := Option.some.inj hE
  refine retQ.retF H rfl ⟨rfl, rfl⟩ ?_
  exact (fun _ _ h => h)
 refine AWp.skip ?_
 refine hK7 _ ?_
 clear hK7 K7
 refine seqK fun K13 hK13 => ?_
 refine region ?_
 refine s0 (loadV (TK rfl) rfl rfl rfl) rfl ?_
 refine s0 moveA rfl ?_
 obtain ⟨x14, gx14, hE⟩ := bindO_some hE
 refine s0 (callP rfl rfl (fun H => Z84_walk gx14 H)) rfl ?_
 refine s0 moveA rfl ?_
 refine s0 (extract rfl rfl) rfl ?_
 refine s0 (extract rfl rfl) rfl ?_
 refine sL (allocLA (TK rfl) rfl) rfl ?_
 refine sLn (storeLFA (TK rfl) rfl rfl rfl rfl rfl) ?_
 refine s0 assignA rfl ?_
 refine nil ?_
 refine hK13 _ ?_
 clear hK13 K13
 refine freezeA 8 _ rfl (Keeps.c (k := 2) (by conv => lhs; whnf) (by rfl) (Keeps.c (k := 6) (by conv => lhs; whnf) (by rfl) Keeps.nil)) ?_
 refine seqK fun K15 hK15 => ?_
 refine region ?_
 refine s0 (loadV (TK rfl) rfl rfl rfl) rfl ?_
 refine s0 moveA rfl ?_
 obtain ⟨x16, gx16, hE⟩ := bindO_some hE
 refine s0 (callP rfl rfl (fun H => Z83_walk gx16 H)) rfl ?_
 refine s0 moveA rfl ?_
 refine s0 (extract rfl rfl) rfl ?_
 refine s0 (extract rfl rfl) rfl ?_
 refine sL (allocLA (TK rfl) rfl) rfl ?_
 refine sLn (storeLFA (TK rfl) rfl rfl rfl rfl rfl) ?_
 refine s0 assignA rfl ?_
 refine nil ?_
 refine hK15 _ ?_
 clear hK15 K15
 refine freezeA 10 _ rfl (Keeps.c (k := 6) (by conv => lhs; whnf) (by rfl) (Keeps.c (k := 11) (by conv => lhs; whnf) (by rfl) Keeps.nil)) ?_
 refine seqK fun K17 hK17 => ?_
 refine seqK fun K18 hK18 => ?_
 refine region ?_
 refine s0 moveA rfl ?_
 refine s0 (notB rfl) rfl ?_
 refine nil ?_
 refine hK18 _ ?_
 clear hK18 K18
 refine condE hE rfl (fun hc19 hE => ?_) (fun hc19 hE => ?_)
 ·refine seqK fun K20 hK20 => ?_
  refine region ?_
  refine s0 (build Tryz.tab_ok rfl rfl rfl rfl rfl rfl) rfl ?_
  refine sLn (storeLFA (TK rfl) rfl rfl rfl rfl rfl) ?_
  refine s0 assignA rfl ?_
  refine nil ?_
  refine hK20 _ ?_
  clear hK20 K20
  refine AWp.ret ?_
  repeat (first | refine xBlock_ret ?_ | refine xThen_ret ?_)
  obtain rfl := Option.some.inj hE
  refine retQ.retF H rfl ⟨rfl, rfl⟩ ?_
  exact (fun _ _ h => h)
 refine AWp.skip ?_
 refine hK17 _ ?_
 clear hK17 K17
 refine seqK fun K21 hK21 => ?_
 refine AWp.draw rfl ?_
 refine DOps.s0 (fieldVA (TK rfl) rfl rfl (TK rfl) rfl rfl) rfl ?_
 refine DOps.s0 (fieldVA (TK rfl) rfl rfl (TK rfl) rfl rfl) rfl ?_
 refine DOps.s0 (loadV (TK rfl) rfl rfl rfl) rfl ?_
 refine DOps.s0 (fieldVA (TK rfl) rfl rfl (TK rfl) rfl rfl) rfl ?_
 refine DOps.s0 (fieldVA (TK rfl) rfl rfl (TK rfl) rfl rfl) rfl ?_
 refine DOps.s0 (loadV (TK rfl) rfl rfl rfl) rfl ?_
 obtain ⟨x22, gx22, hE⟩ := bindO_some hE
 refine DOps.s0 (callP rfl rfl (fun H => Z91_walk gx22 H)) rfl ?_
 refine DOps.s0 (build Tryz.tab_ok rfl rfl rfl rfl rfl rfl) rfl ?_
 refine DOps.sLn (storeLFA (TK rfl) rfl rfl rfl rfl rfl) ?_
 refine DOps.s0 assignA rfl ?_
 refine DOps.nil (by decide +kernel) ?_
 refine hK21 _ ?_
 clear hK21 K21
 refine AWp.ret ?_
 repeat (first | refine xBlock_ret ?_ | refine xThen_ret ?_)
 obtain rfl := Option.some.inj hE
 refine retQ.retF H rfl ⟨rfl, rfl⟩ ?_
 exact (fun _ _ h => h)
def Z14 (a0 : Bs) (a1 : Bs) : Option Bool := guardO ((decide (((a1.length : Nat) : Int) ≤ ((a0.length : Nat) : Int)))) (cutC a0 none (some ((a1.length : Nat) : Int))) ([] : Bs) fun x5 => some ((decide (((a1.length : Nat) : Int) ≤ ((a0.length : Nat) : Int))) && ((x5 == a1)))
theorem Z14_walk {a0 : Bs} {a1 : Bs}   {r : Bool} (hE : Z14 a0 a1 = some r) (H : Heap)  : ACalls Tryz.prog 130 [.d (.str a0), .d (.str a1)] H fun v h' => v = .a (.d (.bool r)) ∧ h' = H := by
 unfold Z14 at hE
 refine ACalls.of_wp (fn := Tryz.f130) (c := _) Tryz.tab_ok (fun _ _ => Tryz.call130 _ _) Tryz.func130 rfl (n := 18) rfl (rs := [.tmp 4]) rfl rfl ?_
 refine seqK fun K1 hK1 => ?_
 refine region ?_
 refine s0 assignA rfl ?_
 refine nil ?_
 refine hK1 _ ?_
 clear hK1 K1
 refine seqK fun K2 hK2 => ?_
 refine region ?_
 refine s0 moveA rfl ?_
 refine sLenS (TK rfl) rfl rfl rfl rfl fun hL3 => ?_
 refine s0 moveA rfl ?_
 refine sLenS (TK rfl) rfl rfl rfl rfl fun hL4 => ?_
 refine s0 (binI rfl rfl rfl) rfl ?_
 refine s0 moveA rfl ?_
 refine gC rfl rfl (fun hC => moveA) rfl ?_
 refine gC rfl rfl (fun hC => moveA) rfl ?_
 refine gC rfl rfl (fun hC => ungdA (k := 12) rfl (lenS (TK rfl) rfl rfl rfl)) rfl ?_
 obtain ⟨x5, gx5, hE⟩ := guardO_some hE
 refine gC rfl rfl (fun hC => ungdA (k := 11) rfl (ungdA (k := 13) rfl (cutM (l := none) (r := (some ((a1.length : Nat) : Int))) (TK rfl) rfl rfl trivial rfl (by simp) (gx5 hC)))) rfl ?_
 refine gC rfl rfl (fun hC => moveA) rfl ?_
 refine gC rfl rfl (fun hC => ungdA (k := 14) rfl (ungdA (k := 15) rfl (binS rfl rfl rfl))) rfl ?_
 refine s0 (pickAndA rfl rfl rfl) rfl ?_
 refine s0 assignA rfl ?_
 refine nil ?_
 refine hK2 _ ?_
 clear hK2 K2
 refine AWp.ret ?_
 repeat (first | refine xBlock_ret ?_ | refine xThen_ret ?_)
 obtain rfl := Option.some.inj hE
 refine retQ.retF H rfl ⟨rfl, rfl⟩ ?_
 exact (fun _ _ h => h)
def Z102 (a0 : Bs) (a1 : Bs) : Option Bool := (Z14 a0 a1).bind fun x3 => some x3
theorem Z102_walk {a0 : Bs} {a1 : Bs}   {r : Bool} (hE : Z102 a0 a1 = some r) (H : Heap)  : ACalls Tryz.prog 105 [.d (.str a0), .d (.str a1)] H fun v h' => v = .a (.d (.bool r)) ∧ h' = H := by
 unfold Z102 at hE
 refine ACalls.of_wp (fn := Tryz.f105) (c := _) Tryz.tab_ok (fun _ _ => Tryz.call105 _ _) Tryz.func105 rfl (n := 8) rfl (rs := [.tmp 4]) rfl rfl ?_
 refine seqK fun K1 hK1 => ?_
 refine region ?_
 refine s0 assignA rfl ?_
 refine nil ?_
 refine hK1 _ ?_
 clear hK1 K1
 refine seqK fun K2 hK2 => ?_
 refine region ?_
 refine s0 moveA rfl ?_
 refine s0 moveA rfl ?_
 obtain ⟨x3, gx3, hE⟩ := bindO_some hE
 refine s0 (callP rfl rfl (fun H => Z14_walk gx3 H)) rfl ?_
 refine s0 assignA rfl ?_
 refine nil ?_
 refine hK2 _ ?_
 clear hK2 K2
 refine AWp.ret ?_
 repeat (first | refine xBlock_ret ?_ | refine xThen_ret ?_)
 obtain rfl := Option.some.inj hE
 refine retQ.retF H rfl ⟨rfl, rfl⟩ ?_
 exact (fun _ _ h => h)
def Z103 (a0 : Bs) : Option Bool := (Z102 a0 ([95, 95] : Bs)).bind fun x3 => some x3
theorem Z103_walk {a0 : Bs}   {r : Bool} (hE : Z103 a0 = some r) (H : Heap)  : ACalls Tryz.prog 66 [.d (.str a0)] H fun v h' => v = .a (.d (.bool r)) ∧ h' = H := by
 unfold Z103 at hE
 refine ACalls.of_wp (fn := Tryz.f66) (c := _) Tryz.tab_ok (fun _ _ => Tryz.call66 _ _) Tryz.func66 rfl (n := 5) rfl (rs := [.tmp 2]) rfl rfl ?_
 refine seqK fun K1 hK1 => ?_
 refine region ?_
 refine s0 assignA rfl ?_
 refine nil ?_
 refine hK1 _ ?_
 clear hK1 K1
 refine seqK fun K2 hK2 => ?_
 refine region ?_
 refine s0 moveA rfl ?_
 obtain ⟨x3, gx3, hE⟩ := bindO_some hE
 refine s0 (callP rfl rfl (fun H => Z102_walk gx3 H)) rfl ?_
 refine s0 assignA rfl ?_
 refine nil ?_
 refine hK2 _ ?_
 clear hK2 K2
 refine AWp.ret ?_
 repeat (first | refine xBlock_ret ?_ | refine xThen_ret ?_)
 obtain rfl := Option.some.inj hE
 refine retQ.retF H rfl ⟨rfl, rfl⟩ ?_
 exact (fun _ _ h => h)
end Go.Proofs
