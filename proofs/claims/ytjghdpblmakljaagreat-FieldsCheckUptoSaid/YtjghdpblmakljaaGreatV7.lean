import Derived.Test.YtjghdpblmakljaaGreatV6
set_option maxRecDepth 100000
set_option maxHeartbeats 2000000
set_option linter.unusedVariables false
set_option linter.unusedSimpArgs false
namespace Go.Proofs
open Go Go.Ab
open AOps Cert AWp
def fields_checker_sels_j9 (s13_4 : Nat) (k_next_3 : Nat → Fields_checker → Option Fields_checker) (y10_c0 : Fields_checker) : Option Fields_checker := k_next_3 (s13_4 + 1) y10_c0
def fields_checker_sels_j22 (a3 : Bs) (s13_4 : Nat) (x12 : TSel) (x20 : Fields_checker) (k_next_3 : Nat → Fields_checker → Option Fields_checker) (k_rec_27 : Fields_checker → (Sl TSel) → Bs → Bs → Option Fields_checker) (s10_23 : Bs) : Option Fields_checker := (k_rec_27 x20 x12.FSels s10_23 a3).bind fun x24 => fields_checker_sels_j9 s13_4 k_next_3 x24
def fields_checker_sels_l3 (a1 : (Sl TSel)) (a2 : Bs) (a3 : Bs) (k_rec_27 : Fields_checker → (Sl TSel) → Bs → Bs → Option Fields_checker) (k_rec_59 : Fields_checker → TSel → Bs → Bs → Option Fields_checker) : Nat → Nat → Fields_checker → Option Fields_checker
 | 0, _, _ => none
 | n3 + 1, s13_4, y5_c0 => bif (decide (((s13_4 : Nat) : Int) < ((a1.l.length : Nat) : Int))) then ((a1.l[s13_4]?).bind fun x12 => bif (decide (x12.FKind = (2 : Int))) then ((Z4 y5_c0 x12 (TRef.mk ([] : Bs) (Sl.nil : Sl Int)) false a3).bind fun x16 => fields_checker_sels_j9 s13_4 ((fields_checker_sels_l3 a1 a2 a3 k_rec_27 k_rec_59 n3)) x16) else (bif (decide (x12.FKind = (3 : Int))) then ((Z4 y5_c0 x12 (TRef.mk ([] : Bs) (Sl.nil : Sl Int)) false a3).bind fun x20 => bif (!(x12.FOn == ([] : Bs))) then (fields_checker_sels_j22 a3 s13_4 x12 x20 ((fields_checker_sels_l3 a1 a2 a3 k_rec_27 k_rec_59 n3)) k_rec_27 x12.FOn) else (fields_checker_sels_j22 a3 s13_4 x12 x20 ((fields_checker_sels_l3 a1 a2 a3 k_rec_27 k_rec_59 n3)) k_rec_27 a2)) else ((k_rec_59 y5_c0 x12 a2 a3).bind fun x27 => fields_checker_sels_j9 s13_4 ((fields_checker_sels_l3 a1 a2 a3 k_rec_27 k_rec_59 n3)) x27))) else (some y5_c0)
def Z6_j16 (a1 : TSel) (x7 : Bs) (x12 : (TRef × Bool)) (k_rec_27 : Fields_checker → (Sl TSel) → Bs → Bs → Option Fields_checker) (y17_c0 : Fields_checker) : Option Fields_checker := (Z4 y17_c0 a1 x12.1 x12.2 x7).bind fun x19 => (k_rec_27 x19 a1.FSels x12.1.FName x7).bind fun x20 => some x20
def Z6_l37 (a1 : TSel) (x7 : Bs) (x12 : (TRef × Bool)) (y32_l0 : TField) (k_rec_27 : Fields_checker → (Sl TSel) → Bs → Bs → Option Fields_checker) : Nat → Nat → Fields_checker → Option Fields_checker
 | 0, _, _ => none
 | n37 + 1, s122_38, y39_c0 => bif (decide (((s122_38 : Nat) : Int) < ((y32_l0.FArgs.l.length : Nat) : Int))) then ((y32_l0.FArgs.l[s122_38]?).bind fun x45 => (Z10 a1.FArgs x45.FName).bind fun x47 => (Z106 x45.FType).bind fun x48 => (Z3 y39_c0 ((x48 && (!x45.FHas)) && (!x47.2)) (22 : Int) x7).bind fun x49 => (Z6_l37 a1 x7 x12 y32_l0 k_rec_27 n37) (s122_38 + 1) x49) else (Z6_j16 a1 x7 x12 k_rec_27 y39_c0)
def Z6_j31 (a1 : TSel) (x7 : Bs) (x12 : (TRef × Bool)) (x27 : Fields_checker) (k_rec_27 : Fields_checker → (Sl TSel) → Bs → Bs → Option Fields_checker) (y32_l0 : TField) : Option Fields_checker := (Z7 x27 y32_l0.FArgs a1.FArgs false x7).bind fun x34 => Z6_l37 a1 x7 x12 y32_l0 k_rec_27 (y32_l0.FArgs.l.length + 1) 0 x34
def Z6_j3 (a0 : Fields_checker) (a1 : TSel) (a2 : Bs) (a3 : Bs) (k_rec_27 : Fields_checker → (Sl TSel) → Bs → Bs → Option Fields_checker) (s8_4 : Bs) : Option Fields_checker := (catC ([47] : Bs) s8_4).bind fun x6 => (catC a3 x6).bind fun x7 => (Z103 a1.FAlias).bind fun x9 => (Z3 a0 x9 (6 : Int) x7).bind fun x10 => (Z1 x10.Fd a2 a1.FName).bind fun x12 => guardO ((!x12.2)) (Z82 x10.Fd a2) false fun x14 => (Z3 x10 ((!x12.2) && x14) (20 : Int) x7).bind fun x15 => bif x12.2 then ((Z87 x15.Fd x12.1.FName).bind fun x24 => guardO (!(x24 && (decide ((0 : Int) < ((a1.FSels.l.length : Nat) : Int))))) (Z82 x15.Fd x12.1.FName) false fun x26 => (Z3 x15 ((x24 && (decide ((0 : Int) < ((a1.FSels.l.length : Nat) : Int)))) || (x26 && (decide (((a1.FSels.l.length : Nat) : Int) = (0 : Int))))) (21 : Int) x7).bind fun x27 => (Z84 x27.Fd a2).bind fun x29 => bif (!(a1.FName == ([95, 95, 116, 121, 112, 101, 110, 97, 109, 101] : Bs))) then ((Z83 x29.1 a1.FName).bind fun x52 => Z6_j31 a1 x7 x12 x27 k_rec_27 x52.1) else (Z6_j31 a1 x7 x12 x27 k_rec_27 (TField.mk ([] : Bs) (Sl.nil : Sl TInput) TRef.zero (Sl.nil : Sl TDir)))) else (Z6_j16 a1 x7 x12 k_rec_27 x15)
mutual
def fields_checker_sels_n : Nat → Fields_checker → (Sl TSel) → Bs → Bs → Option Fields_checker
 | 0, _, _, _, _ => none
 | n + 1, a0, a1, a2, a3 => fields_checker_sels_l3 a1 a2 a3 (fields_checker_sels_n n) (Z6_n n) (a1.l.length + 1) 0 a0
def Z6_n : Nat → Fields_checker → TSel → Bs → Bs → Option Fields_checker
 | 0, _, _, _, _ => none
 | n + 1, a0, a1, a2, a3 => bif ((a1.FAlias == ([] : Bs))) then (Z6_j3 a0 a1 a2 a3 (fields_checker_sels_n n) a1.FName) else (Z6_j3 a0 a1 a2 a3 (fields_checker_sels_n n) a1.FAlias)
end
theorem fields_checker_sels_step (n : Nat) (ih_27 : ∀ {a0 : Fields_checker} {a1 : (Sl TSel)} {a2 : Bs} {a3 : Bs} {w1 : Option Nat} {c0 : Nat} {c0_2 : Nat} {r : Fields_checker}, fields_checker_sels_n n a0 a1 a2 a3 = some r → ∀ (H : Heap) (hc0 : H c0 = some (.cells (Fields_checker.cg (some c0_2) a0))) (ht0_2 : H c0_2 = some (.tok 2 a0.Fout.l.length)), ACalls Tryz.prog 27 [.d (.ptr c0 0), .d (Sl.d 7 TSel.c w1 a1), .d (.str a2), .d (.str a3)] H fun v h' => v = .tup [] ∧ h' = ((H.set c0_2 (some (.tok 2 r.Fout.l.length))).set c0 (some (.cells (Fields_checker.cg (some c0_2) r))))) (ih_59 : ∀ {a0 : Fields_checker} {a1 : TSel} {a2 : Bs} {a3 : Bs}  {c0 : Nat} {c0_2 : Nat} {r : Fields_checker}, Z6_n n a0 a1 a2 a3 = some r → ∀ (H : Heap) (hc0 : H c0 = some (.cells (Fields_checker.cg (some c0_2) a0))) (ht0_2 : H c0_2 = some (.tok 2 a0.Fout.l.length)), ACalls Tryz.prog 59 [.d (.ptr c0 0), .agg (TSel.c a1), .d (.str a2), .d (.str a3)] H fun v h' => v = .tup [] ∧ h' = ((H.set c0_2 (some (.tok 2 r.Fout.l.length))).set c0 (some (.cells (Fields_checker.cg (some c0_2) r))))) : ∀ {a0 : Fields_checker} {a1 : (Sl TSel)} {a2 : Bs} {a3 : Bs} {w1 : Option Nat} {c0 : Nat} {c0_2 : Nat} {r : Fields_checker}, fields_checker_sels_n (n + 1) a0 a1 a2 a3 = some r → ∀ (H : Heap) (hc0 : H c0 = some (.cells (Fields_checker.cg (some c0_2) a0))) (ht0_2 : H c0_2 = some (.tok 2 a0.Fout.l.length)), ACalls Tryz.prog 27 [.d (.ptr c0 0), .d (Sl.d 7 TSel.c w1 a1), .d (.str a2), .d (.str a3)] H fun v h' => v = .tup [] ∧ h' = ((H.set c0_2 (some (.tok 2 r.Fout.l.length))).set c0 (some (.cells (Fields_checker.cg (some c0_2) r)))) := by
 intro a0 a1 a2 a3 w1 c0 c0_2 r hE H hc0 ht0_2
 rw [fields_checker_sels_n] at hE
 refine ACalls.of_wp (fn := Tryz.f27) (c := _) Tryz.tab_ok (fun _ _ => Tryz.call27 _ _) Tryz.func27 rfl (n := 51) rfl (rs := []) rfl rfl ?_
 have ne_c0_c0_2 : c0 ≠ c0_2 := fun e_ => by subst e_; simp_all
 refine AWp.heqA (h' := ((H.set c0_2 (some (.tok 2 a0.Fout.l.length))).set c0 (some (.cells (Fields_checker.cg (some c0_2) a0))))) (by funext n_; simp only [Heap.set]; (repeat' split) <;> simp_all) ?_
 refine seqK fun K1 hK1 => ?_
 refine region ?_
 refine s0 moveA rfl ?_
 refine sLen (f := TSel.c) (s := a1) (TK rfl) rfl rfl rfl rfl fun hL2 => ?_
 refine s0 moveA rfl ?_
 refine nil ?_
 refine hK1 _ ?_
 clear hK1 K1
 refine block ?_
 refine loopH (KeepsT.A (k := 0) (KeepsT.A (k := 2) (KeepsT.A (k := 3) (KeepsT.A (k := 11) (KeepsT.A (k := 12) KeepsT.nil))))) (fun (z : Nat × Nat × Fields_checker) => [(13, .a (.d (.int .i64 ((z.2.1 : Nat) : Int))))]) (fun z => ((H.set c0_2 (some (.tok 2 z.2.2.Fout.l.length))).set c0 (some (.cells (Fields_checker.cg (some c0_2) z.2.2))))) (fun z => z.1) (fun z => fields_checker_sels_l3 a1 a2 a3 (fields_checker_sels_n n) (Z6_n n) z.1 z.2.1 z.2.2 = some r) ((a1.l.length + 1), 0, a0) hE Weak.toA ?_
 rintro ⟨n3, s13_4, y5_c0⟩ hE K3 hK3
 try dsimp only at hE
 cases n3 with
 | zero => cases hE
 | succ n3 =>
   rw [fields_checker_sels_l3] at hE
   refine seqK fun K6 hK6 => ?_
   refine region ?_
   refine s0 (binI rfl rfl rfl) rfl ?_
   refine nil ?_
   refine hK6 _ ?_
   clear hK6 K6
   refine seqK fun K7 hK7 => ?_
   refine condE hE rfl (fun hc8 hE => ?_) (fun hc8 hE => ?_)
   ·try dsimp only at hc8
    have hf8 := of_decide_eq_true hc8
    refine AWp.skip ?_
    refine hK7 _ ?_
    clear hK7 K7
    refine seqJH (KeepsT.A (k := 0) (KeepsT.A (k := 2) (KeepsT.A (k := 3) (KeepsT.A (k := 11) (KeepsT.A (k := 12) (KeepsT.A (k := 13) KeepsT.nil)))))) (fun (z : Fields_checker) => []) (fun z => ((H.set c0_2 (some (.tok 2 z.Fout.l.length))).set c0 (some (.cells (Fields_checker.cg (some c0_2) z))))) (fun z => fields_checker_sels_j9 s13_4 ((fields_checker_sels_l3 a1 a2 a3 (fields_checker_sels_n n) (Z6_n n) n3)) z = some r) ?_ ?_
    ·intro K9 hK9
     refine block ?_
     refine seqK fun K11 hK11 => ?_
     refine region ?_
     obtain ⟨x12, gx12, hE⟩ := bindO_some hE
     refine s0 (idxMn (f := TSel.c) (n := s13_4) (TK rfl) rfl (TK rfl) rfl rfl rfl gx12) rfl ?_
     refine s0 (loadV (TK rfl) rfl rfl rfl) rfl ?_
     refine sL (allocLA (TK rfl) rfl) rfl ?_
     refine sLn (storeLFA (TK rfl) rfl rfl rfl rfl rfl) ?_
     refine nil ?_
     refine hK11 _ ?_
     clear hK11 K11
     refine freezeA 9 _ rfl (Keeps.c (k := 0) (by conv => lhs; whnf) (by rfl) (Keeps.c (k := 2) (by conv => lhs; whnf) (by rfl) (Keeps.c (k := 3) (by conv => lhs; whnf) (by rfl) (Keeps.c (k := 11) (by conv => lhs; whnf) (by rfl) (Keeps.c (k := 12) (by conv => lhs; whnf) (by rfl) (Keeps.c (k := 13) (by conv => lhs; whnf) (by rfl) Keeps.nil)))))) ?_
     refine seqK fun K13 hK13 => ?_
     refine region ?_
     refine s0 (fieldVA (TK rfl) rfl rfl (TK rfl) rfl rfl) rfl ?_
     refine s0 (loadV (TK rfl) rfl rfl rfl) rfl ?_
     refine nil ?_
     refine hK13 _ ?_
     clear hK13 K13
     refine block ?_
     refine seqK fun K14 hK14 => ?_
     refine region ?_
     refine s0 (binI rfl rfl rfl) rfl ?_
     refine s0 assignA rfl ?_
     refine nil ?_
     refine hK14 _ ?_
     clear hK14 K14
     refine condE hE rfl (fun hc15 hE => ?_) (fun hc15 hE => ?_)
     ·refine region ?_
      refine s0 moveA rfl ?_
      refine s0 (loadV (TK rfl) rfl rfl rfl) rfl ?_
      refine s0 (build Tryz.tab_ok rfl rfl rfl rfl rfl rfl) rfl ?_
      refine s0 moveA rfl ?_
      obtain ⟨x16, gx16, hE⟩ := bindO_some hE
      refine sH (callH rfl rfl (Z4_walk gx16 _ hpG hpG)) rfl ?_
      refine AOps.heq (h' := ((H.set c0_2 (some (.tok 2 x16.Fout.l.length))).set c0 (some (.cells (Fields_checker.cg (some c0_2) x16))))) (by first | rfl | (rw [Heap.set_set]; rfl) | (funext n_; simp only [Heap.set]; (repeat' split) <;> first | rfl | (exfalso; simp_all; done) | (simp_all; done))) ?_
      refine nil ?_
      exact hK9 _ x16 Weak.toA hE
     refine seqK fun K17 hK17 => ?_
     refine region ?_
     refine s0 (binI rfl rfl rfl) rfl ?_
     refine s0 assignA rfl ?_
     refine nil ?_
     refine hK17 _ ?_
     clear hK17 K17
     refine condE hE rfl (fun hc18 hE => ?_) (fun hc18 hE => ?_)
     ·refine seqK fun K19 hK19 => ?_
      refine region ?_
      refine s0 moveA rfl ?_
      refine s0 (loadV (TK rfl) rfl rfl rfl) rfl ?_
      refine s0 (build Tryz.tab_ok rfl rfl rfl rfl rfl rfl) rfl ?_
      refine s0 moveA rfl ?_
      obtain ⟨x20, gx20, hE⟩ := bindO_some hE
      refine sH (callH rfl rfl (Z4_walk gx20 _ hpG hpG)) rfl ?_
      refine AOps.heq (h' := ((H.set c0_2 (some (.tok 2 x20.Fout.l.length))).set c0 (some (.cells (Fields_checker.cg (some c0_2) x20))))) (by first | rfl | (rw [Heap.set_set]; rfl) | (funext n_; simp only [Heap.set]; (repeat' split) <;> first | rfl | (exfalso; simp_all; done) | (simp_all; done))) ?_
      refine nil ?_
      refine hK19 _ ?_
      clear hK19 K19
      refine seqK fun K21 hK21 => ?_
      refine region ?_
      refine s0 moveA rfl ?_
      refine s0 assignA rfl ?_
      refine nil ?_
      refine hK21 _ ?_
      clear hK21 K21
      refine seqJH (KeepsT.A (k := 0) (KeepsT.A (k := 2) (KeepsT.A (k := 3) (KeepsT.A (k := 9) (KeepsT.A (k := 11) (KeepsT.A (k := 12) (KeepsT.A (k := 13) KeepsT.nil))))))) (fun (z : Bs) => [(10, .a (.d (.str z)))]) (fun z => ((H.set c0_2 (some (.tok 2 x20.Fout.l.length))).set c0 (some (.cells (Fields_checker.cg (some c0_2) x20))))) (fun z => fields_checker_sels_j22 a3 s13_4 x12 x20 ((fields_checker_sels_l3 a1 a2 a3 (fields_checker_sels_n n) (Z6_n n) n3)) (fields_checker_sels_n n) z = some r) ?_ ?_
      ·intro K22 hK22
       refine seqK fun K25 hK25 => ?_
       refine region ?_
       refine s0 (fieldVA (TK rfl) rfl rfl (TK rfl) rfl rfl) rfl ?_
       refine s0 (loadV (TK rfl) rfl rfl rfl) rfl ?_
       refine s0 (binS rfl rfl rfl) rfl ?_
       refine nil ?_
       refine hK25 _ ?_
       clear hK25 K25
       refine condE hE rfl (fun hc26 hE => ?_) (fun hc26 hE => ?_)
       ·refine region ?_
        refine s0 (fieldVA (TK rfl) rfl rfl (TK rfl) rfl rfl) rfl ?_
        refine s0 (loadV (TK rfl) rfl rfl rfl) rfl ?_
        refine s0 assignA rfl ?_
        refine nil ?_
        exact hK22 _ x12.FOn Weak.toA hE
       refine AWp.skip ?_
       exact hK22 _ a2 Weak.toA hE
      rintro s10_23 hE
      try dsimp only at hE
      unfold fields_checker_sels_j22 at hE
      refine region ?_
      refine s0 moveA rfl ?_
      refine s0 (fieldVA (TK rfl) rfl rfl (TK rfl) rfl rfl) rfl ?_
      refine s0 (loadV (TK rfl) rfl rfl (congrArg (fun x => some (A.d x)) (TSel.FSelsD_eq _))) rfl ?_
      refine s0 moveA rfl ?_
      refine s0 moveA rfl ?_
      obtain ⟨x24, gx24, hE⟩ := bindO_some hE
      refine sH (callH rfl rfl (ih_27 gx24 _ hpG hpG)) rfl ?_
      refine AOps.heq (h' := ((H.set c0_2 (some (.tok 2 x24.Fout.l.length))).set c0 (some (.cells (Fields_checker.cg (some c0_2) x24))))) (by first | rfl | (rw [Heap.set_set]; rfl) | (funext n_; simp only [Heap.set]; (repeat' split) <;> first | rfl | (exfalso; simp_all; done) | (simp_all; done))) ?_
      refine nil ?_
      exact hK9 _ x24 Weak.toA hE
     refine region ?_
     refine s0 moveA rfl ?_
     refine s0 (loadV (TK rfl) rfl rfl rfl) rfl ?_
     refine s0 moveA rfl ?_
     refine s0 moveA rfl ?_
     obtain ⟨x27, gx27, hE⟩ := bindO_some hE
     refine sH (callH rfl rfl (ih_59 gx27 _ hpG hpG)) rfl ?_
     refine AOps.heq (h' := ((H.set c0_2 (some (.tok 2 x27.Fout.l.length))).set c0 (some (.cells (Fields_checker.cg (some c0_2) x27))))) (by first | rfl | (rw [Heap.set_set]; rfl) | (funext n_; simp only [Heap.set]; (repeat' split) <;> first | rfl | (exfalso; simp_all; done) | (simp_all; done))) ?_
     refine nil ?_
     exact hK9 _ x27 Weak.toA hE
    rintro y10_c0 hE
    try dsimp only at hE
    unfold fields_checker_sels_j9 at hE
    refine region ?_
    refine s0 (addIA rfl rfl) rfl ?_
    refine s0 moveA rfl ?_
    refine nil ?_
    exact hK3 _ (n3, (s13_4 + 1), y10_c0) Weak.toA hE (Nat.lt_succ_self _)
   refine AWp.exit ?_
   repeat (first | refine xBlock_normal ?_ | refine xThen_exit ?_ | refine xBlock_exit ?_)
   obtain rfl := Option.some.inj hE
   refine retQ.normalF ((H.set c0_2 (some (.tok 2 y5_c0.Fout.l.length))).set c0 (some (.cells (Fields_checker.cg (some c0_2) y5_c0)))) (xs := []) rfl ⟨rfl, rfl⟩ ?_
   exact (fun _ _ h => h)
theorem Z6_step (n : Nat) (ih_27 : ∀ {a0 : Fields_checker} {a1 : (Sl TSel)} {a2 : Bs} {a3 : Bs} {w1 : Option Nat} {c0 : Nat} {c0_2 : Nat} {r : Fields_checker}, fields_checker_sels_n n a0 a1 a2 a3 = some r → ∀ (H : Heap) (hc0 : H c0 = some (.cells (Fields_checker.cg (some c0_2) a0))) (ht0_2 : H c0_2 = some (.tok 2 a0.Fout.l.length)), ACalls Tryz.prog 27 [.d (.ptr c0 0), .d (Sl.d 7 TSel.c w1 a1), .d (.str a2), .d (.str a3)] H fun v h' => v = .tup [] ∧ h' = ((H.set c0_2 (some (.tok 2 r.Fout.l.length))).set c0 (some (.cells (Fields_checker.cg (some c0_2) r))))) (ih_59 : ∀ {a0 : Fields_checker} {a1 : TSel} {a2 : Bs} {a3 : Bs}  {c0 : Nat} {c0_2 : Nat} {r : Fields_checker}, Z6_n n a0 a1 a2 a3 = some r → ∀ (H : Heap) (hc0 : H c0 = some (.cells (Fields_checker.cg (some c0_2) a0))) (ht0_2 : H c0_2 = some (.tok 2 a0.Fout.l.length)), ACalls Tryz.prog 59 [.d (.ptr c0 0), .agg (TSel.c a1), .d (.str a2), .d (.str a3)] H fun v h' => v = .tup [] ∧ h' = ((H.set c0_2 (some (.tok 2 r.Fout.l.length))).set c0 (some (.cells (Fields_checker.cg (some c0_2) r))))) : ∀ {a0 : Fields_checker} {a1 : TSel} {a2 : Bs} {a3 : Bs}  {c0 : Nat} {c0_2 : Nat} {r : Fields_checker}, Z6_n (n + 1) a0 a1 a2 a3 = some r → ∀ (H : Heap) (hc0 : H c0 = some (.cells (Fields_checker.cg (some c0_2) a0))) (ht0_2 : H c0_2 = some (.tok 2 a0.Fout.l.length)), ACalls Tryz.prog 59 [.d (.ptr c0 0), .agg (TSel.c a1), .d (.str a2), .d (.str a3)] H fun v h' => v = .tup [] ∧ h' = ((H.set c0_2 (some (.tok 2 r.Fout.l.length))).set c0 (some (.cells (Fields_checker.cg (some c0_2) r)))) := by
 intro a0 a1 a2 a3  c0 c0_2 r hE H hc0 ht0_2
 rw [Z6_n] at hE
 refine ACalls.of_wp (fn := Tryz.f59) (c := _) Tryz.tab_ok (fun _ _ => Tryz.call59 _ _) Tryz.func59 rfl (n := 163) rfl (rs := []) rfl rfl ?_
 have ne_c0_c0_2 : c0 ≠ c0_2 := fun e_ => by subst e_; simp_all
 refine AWp.heqA (h' := ((H.set c0_2 (some (.tok 2 a0.Fout.l.length))).set c0 (some (.cells (Fields_checker.cg (some c0_2) a0))))) (by funext n_; simp only [Heap.set]; (repeat' split) <;> simp_all) ?_
 refine seqK fun K1 hK1 => ?_
 refine region ?_
 refine s0 (boxV rfl) rfl ?_
 refine nil ?_
 refine hK1 _ ?_
 clear hK1 K1
 refine seqK fun K2 hK2 => ?_
 refine region ?_
 refine s0 (fieldVA (TK rfl) rfl rfl (TK rfl) rfl rfl) rfl ?_
 refine s0 (loadV (TK rfl) rfl rfl rfl) rfl ?_
 refine s0 assignA rfl ?_
 refine nil ?_
 refine hK2 _ ?_
 clear hK2 K2
 refine seqJH (KeepsT.A (k := 0) (KeepsT.A (k := 2) (KeepsT.A (k := 3) (KeepsT.A (k := 5) KeepsT.nil)))) (fun (z : Bs) => [(8, .a (.d (.str z)))]) (fun z => ((H.set c0_2 (some (.tok 2 a0.Fout.l.length))).set c0 (some (.cells (Fields_checker.cg (some c0_2) a0))))) (fun z => Z6_j3 a0 a1 a2 a3 (fields_checker_sels_n n) z = some r) ?_ ?_
 ·intro K3 hK3
  refine seqK fun K53 hK53 => ?_
  refine region ?_
  refine s0 moveA rfl ?_
  refine s0 (binS rfl rfl rfl) rfl ?_
  refine nil ?_
  refine hK53 _ ?_
  clear hK53 K53
  refine condE hE rfl (fun hc54 hE => ?_) (fun hc54 hE => ?_)
  ·refine region ?_
   refine s0 (fieldVA (TK rfl) rfl rfl (TK rfl) rfl rfl) rfl ?_
   refine s0 (loadV (TK rfl) rfl rfl rfl) rfl ?_
   refine s0 assignA rfl ?_
   refine nil ?_
   exact hK3 _ a1.FName Weak.toA hE
  refine AWp.skip ?_
  exact hK3 _ a1.FAlias Weak.toA hE
 rintro s8_4 hE
 try dsimp only at hE
 unfold Z6_j3 at hE
 refine seqK fun K5 hK5 => ?_
 refine region ?_
 refine s0 moveA rfl ?_
 refine s0 moveA rfl ?_
 obtain ⟨x6, gx6, hE⟩ := bindO_some hE
 refine s0 (catM rfl rfl gx6) rfl ?_
 obtain ⟨x7, gx7, hE⟩ := bindO_some hE
 refine s0 (catM rfl rfl gx7) rfl ?_
 refine s0 assignA rfl ?_
 refine nil ?_
 refine hK5 _ ?_
 clear hK5 K5
 refine seqK fun K8 hK8 => ?_
 refine region ?_
 refine s0 moveA rfl ?_
 refine s0 (fieldVA (TK rfl) rfl rfl (TK rfl) rfl rfl) rfl ?_
 refine s0 (loadV (TK rfl) rfl rfl rfl) rfl ?_
 obtain ⟨x9, gx9, hE⟩ := bindO_some hE
 refine s0 (callP rfl rfl (fun H => Z103_walk gx9 H)) rfl ?_
 refine s0 moveA rfl ?_
 obtain ⟨x10, gx10, hE⟩ := bindO_some hE
 refine sH (callH rfl rfl (Z3_walk gx10 _ hpG hpG)) rfl ?_
 refine AOps.heq (h' := ((H.set c0_2 (some (.tok 2 x10.Fout.l.length))).set c0 (some (.cells (Fields_checker.cg (some c0_2) x10))))) (by first | rfl | (rw [Heap.set_set]; rfl) | (funext n_; simp only [Heap.set]; (repeat' split) <;> first | rfl | (exfalso; simp_all; done) | (simp_all; done))) ?_
 refine nil ?_
 refine hK8 _ ?_
 clear hK8 K8
 refine seqK fun K11 hK11 => ?_
 refine AWp.draw rfl ?_
 refine DOps.s0 moveA rfl ?_
 refine DOps.s0 (nilP rfl) rfl ?_
 refine DOps.s0 (fieldP (TK rfl) rfl rfl (TK rfl) rfl rfl) rfl ?_
 refine DOps.s0 (loadP (TK rfl) rfl rfl hpG rfl) rfl ?_
 refine DOps.s0 moveA rfl ?_
 refine DOps.s0 (fieldVA (TK rfl) rfl rfl (TK rfl) rfl rfl) rfl ?_
 refine DOps.s0 (loadV (TK rfl) rfl rfl rfl) rfl ?_
 obtain ⟨x12, gx12, hE⟩ := bindO_some hE
 refine DOps.s0 (callP rfl rfl (fun H => Z1_walk gx12 H)) rfl ?_
 refine DOps.s0 moveA rfl ?_
 refine DOps.s0 (extract rfl rfl) rfl ?_
 refine DOps.s0 (extract rfl rfl) rfl ?_
 refine DOps.sL (allocLA (TK rfl) rfl) rfl ?_
 refine DOps.sLn (storeLFA (TK rfl) rfl rfl rfl rfl rfl) ?_
 refine DOps.s0 assignA rfl ?_
 refine DOps.nil (by decide +kernel) ?_
 refine hK11 _ ?_
 clear hK11 K11
 refine freezeA 9 _ rfl (Keeps.c (k := 0) (by conv => lhs; whnf) (by rfl) (Keeps.c (k := 2) (by conv => lhs; whnf) (by rfl) (Keeps.c (k := 3) (by conv => lhs; whnf) (by rfl) (Keeps.c (k := 5) (by conv => lhs; whnf) (by rfl) (Keeps.c (k := 10) (by conv => lhs; whnf) (by rfl) Keeps.nil))))) ?_
 refine seqK fun K13 hK13 => ?_
 refine region ?_
 refine s0 moveA rfl ?_
 refine s0 moveA rfl ?_
 refine s0 (notB rfl) rfl ?_
 refine s0 moveA rfl ?_
 refine gC rfl rfl (fun hC => moveA) rfl ?_
 refine gC rfl rfl (fun hC => ungdA (k := 50) rfl (nilP rfl)) rfl ?_
 refine gC rfl rfl (fun hC => ungdA (k := 51) rfl (fieldP (TK rfl) rfl rfl (TK rfl) rfl rfl)) rfl ?_
 refine gC rfl rfl (fun hC => ungdA (k := 52) rfl (loadP (TK rfl) rfl rfl hpG rfl)) rfl ?_
 refine gC rfl rfl (fun hC => moveA) rfl ?_
 obtain ⟨x14, gx14, hE⟩ := guardO_some hE
 refine gC rfl rfl (fun hC => ungdA (k := 53) rfl (ungdA (k := 54) rfl (callP rfl rfl (fun H => Z82_walk (gx14 hC) H)))) rfl ?_
 refine s0 (pickAndA rfl rfl rfl) rfl ?_
 refine s0 moveA rfl ?_
 obtain ⟨x15, gx15, hE⟩ := bindO_some hE
 refine sH (callH rfl rfl (Z3_walk gx15 _ hpG hpG)) rfl ?_
 refine AOps.heq (h' := ((H.set c0_2 (some (.tok 2 x15.Fout.l.length))).set c0 (some (.cells (Fields_checker.cg (some c0_2) x15))))) (by first | rfl | (rw [Heap.set_set]; rfl) | (funext n_; simp only [Heap.set]; (repeat' split) <;> first | rfl | (exfalso; simp_all; done) | (simp_all; done))) ?_
 refine nil ?_
 refine hK13 _ ?_
 clear hK13 K13
 refine seqJH (KeepsT.A (k := 0) (KeepsT.A (k := 3) (KeepsT.A (k := 5) (KeepsT.A (k := 9) (KeepsT.A (k := 10) KeepsT.nil))))) (fun (z : Fields_checker) => []) (fun z => ((H.set c0_2 (some (.tok 2 z.Fout.l.length))).set c0 (some (.cells (Fields_checker.cg (some c0_2) z))))) (fun z => Z6_j16 a1 x7 x12 (fields_checker_sels_n n) z = some r) ?_ ?_
 ·intro K16 hK16
  refine seqK fun K21 hK21 => ?_
  refine region ?_
  refine s0 moveA rfl ?_
  refine nil ?_
  refine hK21 _ ?_
  clear hK21 K21
  refine condE hE rfl (fun hc22 hE => ?_) (fun hc22 hE => ?_)
  ·refine seqK fun K23 hK23 => ?_
   refine AWp.draw rfl ?_
   refine DOps.s0 moveA rfl ?_
   refine DOps.s0 (nilP rfl) rfl ?_
   refine DOps.s0 (fieldP (TK rfl) rfl rfl (TK rfl) rfl rfl) rfl ?_
   refine DOps.s0 (loadP (TK rfl) rfl rfl hpG rfl) rfl ?_
   refine DOps.s0 (fieldVA (TK rfl) rfl rfl (TK rfl) rfl rfl) rfl ?_
   refine DOps.s0 (loadV (TK rfl) rfl rfl rfl) rfl ?_
   obtain ⟨x24, gx24, hE⟩ := bindO_some hE
   refine DOps.s0 (callP rfl rfl (fun H => Z87_walk gx24 H)) rfl ?_
   refine DOps.s0 assignA rfl ?_
   refine DOps.nil (by decide +kernel) ?_
   refine hK23 _ ?_
   clear hK23 K23
   refine seqK fun K25 hK25 => ?_
   refine AWp.draw rfl ?_
   refine DOps.s0 moveA rfl ?_
   refine DOps.s0 moveA rfl ?_
   refine DOps.s0 moveA rfl ?_
   refine DOps.gC rfl rfl (fun hC => fieldVA (TK rfl) rfl rfl (TK rfl) rfl rfl) rfl ?_
   refine DOps.gC rfl rfl (fun hC => ungdA (k := 70) rfl (loadV (TK rfl) rfl rfl (congrArg (fun x => some (A.d x)) (TSel.FSelsD_eq _)))) rfl ?_
   refine DOps.gC rfl rfl (fun hC => ungdA (k := 71) rfl (lenM' (f := TSel.c) (s := a1.FSels) (TK rfl) rfl rfl rfl)) rfl ?_
   refine DOps.gC rfl rfl (fun hC => ungdA (k := 72) rfl (binI rfl rfl rfl)) rfl ?_
   refine DOps.s0 (pickAndA rfl rfl rfl) rfl ?_
   refine DOps.s0 moveA rfl ?_
   refine DOps.gC rfl rfl (fun hC => moveA) rfl ?_
   refine DOps.gC rfl rfl (fun hC => ungdA (k := 76) rfl (nilP rfl)) rfl ?_
   refine DOps.gC rfl rfl (fun hC => ungdA (k := 77) rfl (fieldP (TK rfl) rfl rfl (TK rfl) rfl rfl)) rfl ?_
   refine DOps.gC rfl rfl (fun hC => ungdA (k := 78) rfl (loadP (TK rfl) rfl rfl hpG rfl)) rfl ?_
   refine DOps.gC rfl rfl (fun hC => fieldVA (TK rfl) rfl rfl (TK rfl) rfl rfl) rfl ?_
   refine DOps.gC rfl rfl (fun hC => ungdA (k := 80) rfl (loadV (TK rfl) rfl rfl rfl)) rfl ?_
   obtain ⟨x26, gx26, hE⟩ := guardO_some hE
   refine DOps.gC rfl rfl (fun hC => ungdA (k := 79) rfl (ungdA (k := 81) rfl (callP rfl rfl (fun H => Z82_walk (gx26 hC) H)))) rfl ?_
   refine DOps.gC rfl rfl (fun hC => ungdA (k := 82) rfl moveA) rfl ?_
   refine DOps.gC rfl rfl (fun hC => fieldVA (TK rfl) rfl rfl (TK rfl) rfl rfl) rfl ?_
   refine DOps.gC rfl rfl (fun hC => ungdA (k := 84) rfl (loadV (TK rfl) rfl rfl (congrArg (fun x => some (A.d x)) (TSel.FSelsD_eq _)))) rfl ?_
   refine DOps.gC rfl rfl (fun hC => ungdA (k := 85) rfl (lenM' (f := TSel.c) (s := a1.FSels) (TK rfl) rfl rfl rfl)) rfl ?_
   refine DOps.gC rfl rfl (fun hC => ungdA (k := 86) rfl (binI rfl rfl rfl)) rfl ?_
   refine DOps.gC rfl rfl (fun hC => ungdA (k := 83) rfl (pickAndA rfl rfl rfl)) rfl ?_
   refine DOps.s0 (pickOrA rfl rfl rfl) rfl ?_
   refine DOps.s0 moveA rfl ?_
   obtain ⟨x27, gx27, hE⟩ := bindO_some hE
   refine DOps.sH (callH rfl rfl (Z3_walk gx27 _ hpG hpG)) rfl ?_
   refine DOps.heq (h' := ((H.set c0_2 (some (.tok 2 x27.Fout.l.length))).set c0 (some (.cells (Fields_checker.cg (some c0_2) x27))))) (by first | rfl | (rw [Heap.set_set]; rfl) | (funext n_; simp only [Heap.set]; (repeat' split) <;> first | rfl | (exfalso; simp_all; done) | (simp_all; done))) ?_
   refine DOps.nil (by decide +kernel) ?_
   refine hK25 _ ?_
   clear hK25 K25
   refine seqK fun K28 hK28 => ?_
   refine region ?_
   refine s0 moveA rfl ?_
   refine s0 (nilP rfl) rfl ?_
   refine s0 (fieldP (TK rfl) rfl rfl (TK rfl) rfl rfl) rfl ?_
   refine s0 (loadP (TK rfl) rfl rfl hpG rfl) rfl ?_
   refine s0 moveA rfl ?_
   obtain ⟨x29, gx29, hE⟩ := bindO_some hE
   refine s0 (callP rfl rfl (fun H => Z84_walk gx29 H)) rfl ?_
   refine s0 moveA rfl ?_
   refine s0 (extract rfl rfl) rfl ?_
   refine s0 (extract rfl rfl) rfl ?_
   refine sL (allocLA (TK rfl) rfl) rfl ?_
   refine sLn (storeLFA (TK rfl) rfl rfl rfl rfl rfl) ?_
   refine s0 assignA rfl ?_
   refine nil ?_
   refine hK28 _ ?_
   clear hK28 K28
   refine freezeA 12 _ rfl (Keeps.c (k := 0) (by conv => lhs; whnf) (by rfl) (Keeps.c (k := 3) (by conv => lhs; whnf) (by rfl) (Keeps.c (k := 5) (by conv => lhs; whnf) (by rfl) (Keeps.c (k := 9) (by conv => lhs; whnf) (by rfl) (Keeps.c (k := 10) (by conv => lhs; whnf) (by rfl) Keeps.nil))))) ?_
   refine seqK fun K30 hK30 => ?_
   refine region ?_
   refine s0 (build Tryz.tab_ok rfl rfl rfl rfl rfl rfl) rfl ?_
   refine sL (allocLA (TK rfl) rfl) rfl ?_
   refine sLn (storeLFA (TK rfl) rfl rfl rfl rfl rfl) ?_
   refine nil ?_
   refine hK30 _ ?_
   clear hK30 K30
   refine seqJ (KeepsT.A (k := 0) (KeepsT.A (k := 3) (KeepsT.A (k := 5) (KeepsT.A (k := 9) (KeepsT.A (k := 10) (KeepsT.A (k := 14) KeepsT.nil)))))) (fun (z : TField) => []) (fun z => [TField.c z]) (fun z => ((H.set c0_2 (some (.tok 2 x27.Fout.l.length))).set c0 (some (.cells (Fields_checker.cg (some c0_2) x27))))) (fun z => Z6_j31 a1 x7 x12 x27 (fields_checker_sels_n n) z = some r) ?_ ?_
   ·intro K31 hK31
    refine seqK fun K50 hK50 => ?_
    refine region ?_
    refine s0 (fieldVA (TK rfl) rfl rfl (TK rfl) rfl rfl) rfl ?_
    refine s0 (loadV (TK rfl) rfl rfl rfl) rfl ?_
    refine s0 (binS rfl rfl rfl) rfl ?_
    refine nil ?_
    refine hK50 _ ?_
    clear hK50 K50
    refine condE hE rfl (fun hc51 hE => ?_) (fun hc51 hE => ?_)
    ·refine region ?_
     refine s0 (loadV (TK rfl) rfl rfl rfl) rfl ?_
     refine s0 (fieldVA (TK rfl) rfl rfl (TK rfl) rfl rfl) rfl ?_
     refine s0 (loadV (TK rfl) rfl rfl rfl) rfl ?_
     obtain ⟨x52, gx52, hE⟩ := bindO_some hE
     refine s0 (callP rfl rfl (fun H => Z83_walk gx52 H)) rfl ?_
     refine s0 moveA rfl ?_
     refine s0 (extract rfl rfl) rfl ?_
     refine s0 (extract rfl rfl) rfl ?_
     refine sLn (storeLFA (TK rfl) rfl rfl rfl rfl rfl) ?_
     refine nil ?_
     exact hK31 _ x52.1 Weak.toA hE
    refine AWp.skip ?_
    exact hK31 _ (TField.mk ([] : Bs) (Sl.nil : Sl TInput) TRef.zero (Sl.nil : Sl TDir)) Weak.toA hE
   rintro y32_l0 hE
   try dsimp only at hE
   unfold Z6_j31 at hE
   refine seqK fun K33 hK33 => ?_
   refine region ?_
   refine s0 moveA rfl ?_
   refine s0 (fieldL (TK rfl) rfl rfl (TK rfl) rfl rfl) rfl ?_
   refine s0 (loadL (TK rfl) rfl rfl rfl rfl) rfl ?_
   refine s0 (fieldVA (TK rfl) rfl rfl (TK rfl) rfl rfl) rfl ?_
   refine s0 (loadV (TK rfl) rfl rfl rfl) rfl ?_
   refine s0 moveA rfl ?_
   obtain ⟨x34, gx34, hE⟩ := bindO_some hE
   refine sH (callH rfl rfl (Z7_walk gx34 _ hpG hpG)) rfl ?_
   refine AOps.heq (h' := ((H.set c0_2 (some (.tok 2 x34.Fout.l.length))).set c0 (some (.cells (Fields_checker.cg (some c0_2) x34))))) (by first | rfl | (rw [Heap.set_set]; rfl) | (funext n_; simp only [Heap.set]; (repeat' split) <;> first | rfl | (exfalso; simp_all; done) | (simp_all; done))) ?_
   refine nil ?_
   refine hK33 _ ?_
   clear hK33 K33
   refine seqK fun K35 hK35 => ?_
   refine region ?_
   refine s0 (fieldL (TK rfl) rfl rfl (TK rfl) rfl rfl) rfl ?_
   refine s0 (loadL (TK rfl) rfl rfl rfl rfl) rfl ?_
   refine sLen (f := TInput.c) (s := y32_l0.FArgs) (TK rfl) rfl rfl rfl rfl fun hL36 => ?_
   refine s0 moveA rfl ?_
   refine nil ?_
   refine hK35 _ ?_
   clear hK35 K35
   refine block ?_
   refine loopH (KeepsT.A (k := 0) (KeepsT.A (k := 3) (KeepsT.A (k := 5) (KeepsT.A (k := 9) (KeepsT.A (k := 10) (KeepsT.A (k := 120) (KeepsT.A (k := 121) KeepsT.nil))))))) (fun (z : Nat × Nat × Fields_checker) => [(122, .a (.d (.int .i64 ((z.2.1 : Nat) : Int))))]) (fun z => ((H.set c0_2 (some (.tok 2 z.2.2.Fout.l.length))).set c0 (some (.cells (Fields_checker.cg (some c0_2) z.2.2))))) (fun z => z.1) (fun z => Z6_l37 a1 x7 x12 y32_l0 (fields_checker_sels_n n) z.1 z.2.1 z.2.2 = some r) ((y32_l0.FArgs.l.length + 1), 0, x34) hE Weak.toA ?_
   rintro ⟨n37, s122_38, y39_c0⟩ hE K37 hK37
   try dsimp only at hE
   cases n37 with
   | zero => cases hE
   | succ n37 =>
     rw [Z6_l37] at hE
     refine seqK fun K40 hK40 => ?_
     refine region ?_
     refine s0 (binI rfl rfl rfl) rfl ?_
     refine nil ?_
     refine hK40 _ ?_
     clear hK40 K40
     refine seqK fun K41 hK41 => ?_
     refine condE hE rfl (fun hc42 hE => ?_) (fun hc42 hE => ?_)
     ·try dsimp only at hc42
      have hf42 := of_decide_eq_true hc42
      refine AWp.skip ?_
      refine hK41 _ ?_
      clear hK41 K41
      refine seqK fun K43 hK43 => ?_
      refine block ?_
      refine seqK fun K44 hK44 => ?_
      refine region ?_
      obtain ⟨x45, gx45, hE⟩ := bindO_some hE
      refine s0 (idxMn (f := TInput.c) (n := s122_38) (TK rfl) rfl (TK rfl) rfl rfl rfl gx45) rfl ?_
      refine s0 (loadV (TK rfl) rfl rfl rfl) rfl ?_
      refine sL (allocLA (TK rfl) rfl) rfl ?_
      refine sLn (storeLFA (TK rfl) rfl rfl rfl rfl rfl) ?_
      refine nil ?_
      refine hK44 _ ?_
      clear hK44 K44
      refine freezeA 16 _ rfl (Keeps.c (k := 0) (by conv => lhs; whnf) (by rfl) (Keeps.c (k := 3) (by conv => lhs; whnf) (by rfl) (Keeps.c (k := 5) (by conv => lhs; whnf) (by rfl) (Keeps.c (k := 9) (by conv => lhs; whnf) (by rfl) (Keeps.c (k := 10) (by conv => lhs; whnf) (by rfl) (Keeps.c (k := 120) (by conv => lhs; whnf) (by rfl) (Keeps.c (k := 121) (by conv => lhs; whnf) (by rfl) (Keeps.c (k := 122) (by conv => lhs; whnf) (by rfl) Keeps.nil)))))))) ?_
      refine seqK fun K46 hK46 => ?_
      refine region ?_
      refine s0 (fieldVA (TK rfl) rfl rfl (TK rfl) rfl rfl) rfl ?_
      refine s0 (loadV (TK rfl) rfl rfl rfl) rfl ?_
      refine s0 (fieldVA (TK rfl) rfl rfl (TK rfl) rfl rfl) rfl ?_
      refine s0 (loadV (TK rfl) rfl rfl rfl) rfl ?_
      obtain ⟨x47, gx47, hE⟩ := bindO_some hE
      refine s0 (callP rfl rfl (fun H => Z10_walk gx47 H)) rfl ?_
      refine s0 moveA rfl ?_
      refine s0 (extract rfl rfl) rfl ?_
      refine s0 (extract rfl rfl) rfl ?_
      refine sL (allocLA (TK rfl) rfl) rfl ?_
      refine sLn (storeLFA (TK rfl) rfl rfl rfl rfl rfl) ?_
      refine s0 assignA rfl ?_
      refine nil ?_
      refine hK46 _ ?_
      clear hK46 K46
      refine freezeA 17 _ rfl (Keeps.c (k := 0) (by conv => lhs; whnf) (by rfl) (Keeps.c (k := 3) (by conv => lhs; whnf) (by rfl) (Keeps.c (k := 5) (by conv => lhs; whnf) (by rfl) (Keeps.c (k := 9) (by conv => lhs; whnf) (by rfl) (Keeps.c (k := 10) (by conv => lhs; whnf) (by rfl) (Keeps.c (k := 16) (by conv => lhs; whnf) (by rfl) (Keeps.c (k := 18) (by conv => lhs; whnf) (by rfl) (Keeps.c (k := 120) (by conv => lhs; whnf) (by rfl) (Keeps.c (k := 121) (by conv => lhs; whnf) (by rfl) (Keeps.c (k := 122) (by conv => lhs; whnf) (by rfl) Keeps.nil)))))))))) ?_
      refine region ?_
      refine s0 moveA rfl ?_
      refine s0 (fieldVA (TK rfl) rfl rfl (TK rfl) rfl rfl) rfl ?_
      refine s0 (loadV (TK rfl) rfl rfl rfl) rfl ?_
      obtain ⟨x48, gx48, hE⟩ := bindO_some hE
      refine s0 (callP rfl rfl (fun H => Z106_walk gx48 H)) rfl ?_
      refine s0 moveA rfl ?_
      refine gC rfl rfl (fun hC => fieldVA (TK rfl) rfl rfl (TK rfl) rfl rfl) rfl ?_
      refine gC rfl rfl (fun hC => ungdA (k := 139) rfl (loadV (TK rfl) rfl rfl rfl)) rfl ?_
      refine gC rfl rfl (fun hC => ungdA (k := 140) rfl (notB rfl)) rfl ?_
      refine s0 (pickAndA rfl rfl rfl) rfl ?_
      refine s0 moveA rfl ?_
      refine gC rfl rfl (fun hC => moveA) rfl ?_
      refine gC rfl rfl (fun hC => ungdA (k := 144) rfl (notB rfl)) rfl ?_
      refine s0 (pickAndA rfl rfl rfl) rfl ?_
      refine s0 moveA rfl ?_
      obtain ⟨x49, gx49, hE⟩ := bindO_some hE
      refine sH (callH rfl rfl (Z3_walk gx49 _ hpG hpG)) rfl ?_
      refine AOps.heq (h' := ((H.set c0_2 (some (.tok 2 x49.Fout.l.length))).set c0 (some (.cells (Fields_checker.cg (some c0_2) x49))))) (by first | rfl | (rw [Heap.set_set]; rfl) | (funext n_; simp only [Heap.set]; (repeat' split) <;> first | rfl | (exfalso; simp_all; done) | (simp_all; done))) ?_
      refine nil ?_
      refine hK43 _ ?_
      clear hK43 K43
      refine region ?_
      refine s0 (addIA rfl rfl) rfl ?_
      refine s0 moveA rfl ?_
      refine nil ?_
      exact hK37 _ (n37, (s122_38 + 1), x49) Weak.toA hE (Nat.lt_succ_self _)
     refine AWp.exit ?_
     exact hK16 _ y39_c0 Weak.toA hE
  refine AWp.skip ?_
  exact hK16 _ x15 Weak.toA hE
 rintro y17_c0 hE
 try dsimp only at hE
 unfold Z6_j16 at hE
 refine seqK fun K18 hK18 => ?_
 refine region ?_
 refine s0 moveA rfl ?_
 refine s0 (loadV (TK rfl) rfl rfl rfl) rfl ?_
 refine s0 (loadV (TK rfl) rfl rfl rfl) rfl ?_
 refine s0 moveA rfl ?_
 refine s0 moveA rfl ?_
 obtain ⟨x19, gx19, hE⟩ := bindO_some hE
 refine sH (callH rfl rfl (Z4_walk gx19 _ hpG hpG)) rfl ?_
 refine AOps.heq (h' := ((H.set c0_2 (some (.tok 2 x19.Fout.l.length))).set c0 (some (.cells (Fields_checker.cg (some c0_2) x19))))) (by first | rfl | (rw [Heap.set_set]; rfl) | (funext n_; simp only [Heap.set]; (repeat' split) <;> first | rfl | (exfalso; simp_all; done) | (simp_all; done))) ?_
 refine nil ?_
 refine hK18 _ ?_
 clear hK18 K18
 refine region ?_
 refine s0 moveA rfl ?_
 refine s0 (fieldVA (TK rfl) rfl rfl (TK rfl) rfl rfl) rfl ?_
 refine s0 (loadV (TK rfl) rfl rfl (congrArg (fun x => some (A.d x)) (TSel.FSelsD_eq _))) rfl ?_
 refine s0 (fieldVA (TK rfl) rfl rfl (TK rfl) rfl rfl) rfl ?_
 refine s0 (loadV (TK rfl) rfl rfl rfl) rfl ?_
 refine s0 moveA rfl ?_
 obtain ⟨x20, gx20, hE⟩ := bindO_some hE
 refine sH (callH rfl rfl (ih_27 gx20 _ hpG hpG)) rfl ?_
 refine AOps.heq (h' := ((H.set c0_2 (some (.tok 2 x20.Fout.l.length))).set c0 (some (.cells (Fields_checker.cg (some c0_2) x20))))) (by first | rfl | (rw [Heap.set_set]; rfl) | (funext n_; simp only [Heap.set]; (repeat' split) <;> first | rfl | (exfalso; simp_all; done) | (simp_all; done))) ?_
 refine nil ?_
 repeat (first | refine xBlock_normal ?_ | refine xThen_exit ?_ | refine xBlock_exit ?_)
 obtain rfl := Option.some.inj hE
 refine retQ.normalF ((H.set c0_2 (some (.tok 2 x20.Fout.l.length))).set c0 (some (.cells (Fields_checker.cg (some c0_2) x20)))) (xs := []) rfl ⟨rfl, rfl⟩ ?_
 exact (fun _ _ h => h)
theorem fields_checker_sels_all : ∀ (n : Nat), (∀ {a0 : Fields_checker} {a1 : (Sl TSel)} {a2 : Bs} {a3 : Bs} {w1 : Option Nat} {c0 : Nat} {c0_2 : Nat} {r : Fields_checker}, fields_checker_sels_n n a0 a1 a2 a3 = some r → ∀ (H : Heap) (hc0 : H c0 = some (.cells (Fields_checker.cg (some c0_2) a0))) (ht0_2 : H c0_2 = some (.tok 2 a0.Fout.l.length)), ACalls Tryz.prog 27 [.d (.ptr c0 0), .d (Sl.d 7 TSel.c w1 a1), .d (.str a2), .d (.str a3)] H fun v h' => v = .tup [] ∧ h' = ((H.set c0_2 (some (.tok 2 r.Fout.l.length))).set c0 (some (.cells (Fields_checker.cg (some c0_2) r))))) ∧ (∀ {a0 : Fields_checker} {a1 : TSel} {a2 : Bs} {a3 : Bs}  {c0 : Nat} {c0_2 : Nat} {r : Fields_checker}, Z6_n n a0 a1 a2 a3 = some r → ∀ (H : Heap) (hc0 : H c0 = some (.cells (Fields_checker.cg (some c0_2) a0))) (ht0_2 : H c0_2 = some (.tok 2 a0.Fout.l.length)), ACalls Tryz.prog 59 [.d (.ptr c0 0), .agg (TSel.c a1), .d (.str a2), .d (.str a3)] H fun v h' => v = .tup [] ∧ h' = ((H.set c0_2 (some (.tok 2 r.Fout.l.length))).set c0 (some (.cells (Fields_checker.cg (some c0_2) r)))))
 | 0 => ⟨fun hE => by first | cases hE | (rw [fields_checker_sels_n] at hE; cases hE), fun hE => by first | cases hE | (rw [Z6_n] at hE; cases hE)⟩
 | n + 1 => ⟨fields_checker_sels_step n (fields_checker_sels_all n).1 (fields_checker_sels_all n).2, Z6_step n (fields_checker_sels_all n).1 (fields_checker_sels_all n).2⟩
def fields_checker_sels (a0 : Fields_checker) (a1 : (Sl TSel)) (a2 : Bs) (a3 : Bs) : Option Fields_checker := fields_checker_sels_n F0 a0 a1 a2 a3
theorem fields_checker_sels_walk {a0 : Fields_checker} {a1 : (Sl TSel)} {a2 : Bs} {a3 : Bs} {w1 : Option Nat} {c0 : Nat} {c0_2 : Nat} {r : Fields_checker} (hE : fields_checker_sels a0 a1 a2 a3 = some r) (H : Heap) (hc0 : H c0 = some (.cells (Fields_checker.cg (some c0_2) a0))) (ht0_2 : H c0_2 = some (.tok 2 a0.Fout.l.length)) : ACalls Tryz.prog 27 [.d (.ptr c0 0), .d (Sl.d 7 TSel.c w1 a1), .d (.str a2), .d (.str a3)] H fun v h' => v = .tup [] ∧ h' = ((H.set c0_2 (some (.tok 2 r.Fout.l.length))).set c0 (some (.cells (Fields_checker.cg (some c0_2) r)))) := (fields_checker_sels_all F0).1 hE H hc0 ht0_2
def Z0_j7  (y8_id18_3 : Fields_checker) : Option (Sl TFault) := some y8_id18_3.Fout
def Z0_l12 (a1 : TQuery)  : Nat → Nat → Fields_checker → Option (Sl TFault)
 | 0, _, _ => none
 | n12 + 1, s75_13, y14_id18_3 => bif (decide (((s75_13 : Nat) : Int) < ((a1.FFrags.l.length : Nat) : Int))) then ((a1.FFrags.l[s75_13]?).bind fun x20 => (fields_checker_sels y14_id18_3 x20.FSels x20.FOn x20.FName).bind fun x21 => (Z0_l12 a1 n12) (s75_13 + 1) x21) else (Z0_j7   y14_id18_3)
def Z0_j5 (a1 : TQuery)  (y6_id18_3 : Fields_checker) : Option (Sl TFault) := Z0_l12 a1 (a1.FFrags.l.length + 1) 0 y6_id18_3
def Z0_l24 (a0 : TDoc) (a1 : TQuery)  : Nat → Nat → Fields_checker → Option (Sl TFault)
 | 0, _, _ => none
 | n24 + 1, s22_25, y26_id18_3 => bif (decide (((s22_25 : Nat) : Int) < ((a1.FOps.l.length : Nat) : Int))) then ((a1.FOps.l[s22_25]?).bind fun x32 => (Z88 x32.FKind).bind fun x34 => (Z84 a0 x34).bind fun x36 => (Z8 y26_id18_3 x32.FSels ([] : List Bs) ([] : List Bs)).bind fun x41 => (Z3 y26_id18_3 (((!x36.2) || (!decide (x36.1.FKind = (1 : Int)))) || ((decide (x32.FKind = (3 : Int))) && (!decide ((((seenM x41.1).length : Nat) : Int) = (1 : Int))))) (30 : Int) x32.FName).bind fun x44 => (fields_checker_sels x44 x32.FSels x34 x32.FName).bind fun x45 => (Z0_l24 a0 a1 n24) (s22_25 + 1) x45) else (Z0_j5 a1  y26_id18_3)
def Z0 (a0 : TDoc) (a1 : TQuery) : Option (Sl TFault) := Z0_l24 a0 a1 (a1.FOps.l.length + 1) 0 (Fields_checker.mk a0 a1 (Sl.nil : Sl TFault))
theorem Z0_walk {a0 : TDoc} {a1 : TQuery}   {r : (Sl TFault)} (hE : Z0 a0 a1 = some r) (H : Heap)  : ACalls Tryz.prog 8 [.agg (TDoc.c a0), .agg (TQuery.c a1)] H fun v h' => v = .a (.d (Sl.d 2 TFault.c none r)) ∧ h' = H := by
 unfold Z0 at hE
 refine ACalls.of_wp (fn := Tryz.f8) (c := _) Tryz.tab_ok (fun _ _ => Tryz.call8 _ _) Tryz.func8 rfl (n := 92) rfl (rs := [.tmp 4]) rfl rfl ?_
 refine seqK fun K1 hK1 => ?_
 refine region ?_
 refine s0 (boxV rfl) rfl ?_
 refine s0 (boxV rfl) rfl ?_
 refine s0 (assignNil (k' := 2) rfl) rfl ?_
 refine nil ?_
 refine hK1 _ ?_
 clear hK1 K1
 refine seqK fun K2 hK2 => ?_
 refine region ?_
 refine s0 (loadV (TK rfl) rfl rfl rfl) rfl ?_
 refine s0 (loadV (TK rfl) rfl rfl rfl) rfl ?_
 refine s0 (build Tryz.tab_ok rfl rfl rfl rfl rfl rfl) rfl ?_
 refine AOps.tok 2 fun tk18_4 htk18_4 => ?_
 refine sE (StepE.boxO rfl) rfl (fun _ _ _ ⟨id18_3, hid18_3, e1, e2, e3⟩ => ?_); subst e1 e2 e3
 obtain ⟨ne_id18_3_tk18_4, hid18_3⟩ := Heap.set_fresh hid18_3
 refine AOps.recell id18_3 _ hpG (fun j w cs hh hx => tok_cell 3 2 2 hh (t := tk18_4) hpG hx rfl) ?_
 refine AOps.heq (h' := ((H.set tk18_4 (some (.tok 2 0))).set id18_3 (some (.cells (Fields_checker.cg (some tk18_4) (Fields_checker.mk a0 a1 (Sl.nil : Sl TFault))))))) (by first | rfl | (rw [Heap.set_set]; rfl) | (funext n_; simp only [Heap.set]; (repeat' split) <;> first | rfl | (exfalso; simp_all; done) | (simp_all; done))) ?_
 refine s0 assignA rfl ?_
 refine nil ?_
 refine hK2 _ ?_
 clear hK2 K2
 refine seqJH (KeepsT.A (k := 3) (KeepsT.A (k := 5) KeepsT.nil)) (fun (z : Fields_checker) => []) (fun z => ((H.set tk18_4 (some (.tok 2 z.Fout.l.length))).set id18_3 (some (.cells (Fields_checker.cg (some tk18_4) z))))) (fun z => Z0_j5 a1 z = some r) ?_ ?_
 ·intro K5 hK5
  refine seqK fun K22 hK22 => ?_
  refine region ?_
  refine s0 (fieldVA (TK rfl) rfl rfl (TK rfl) rfl rfl) rfl ?_
  refine s0 (loadV (TK rfl) rfl rfl rfl) rfl ?_
  refine sLen (f := TOp.c) (s := a1.FOps) (TK rfl) rfl rfl rfl rfl fun hL23 => ?_
  refine s0 moveA rfl ?_
  refine nil ?_
  refine hK22 _ ?_
  clear hK22 K22
  refine block ?_
  refine loopH (KeepsT.A (k := 2) (KeepsT.A (k := 3) (KeepsT.A (k := 5) (KeepsT.A (k := 20) (KeepsT.A (k := 21) KeepsT.nil))))) (fun (z : Nat × Nat × Fields_checker) => [(22, .a (.d (.int .i64 ((z.2.1 : Nat) : Int))))]) (fun z => ((H.set tk18_4 (some (.tok 2 z.2.2.Fout.l.length))).set id18_3 (some (.cells (Fields_checker.cg (some tk18_4) z.2.2))))) (fun z => z.1) (fun z => Z0_l24 a0 a1 z.1 z.2.1 z.2.2 = some r) ((a1.FOps.l.length + 1), 0, (Fields_checker.mk a0 a1 (Sl.nil : Sl TFault))) hE Weak.toA ?_
  rintro ⟨n24, s22_25, y26_id18_3⟩ hE K24 hK24
  try dsimp only at hE
  cases n24 with
  | zero => cases hE
  | succ n24 =>
    rw [Z0_l24] at hE
    refine seqK fun K27 hK27 => ?_
    refine region ?_
    refine s0 (binI rfl rfl rfl) rfl ?_
    refine nil ?_
    refine hK27 _ ?_
    clear hK27 K27
    refine seqK fun K28 hK28 => ?_
    refine condE hE rfl (fun hc29 hE => ?_) (fun hc29 hE => ?_)
    ·try dsimp only at hc29
     have hf29 := of_decide_eq_true hc29
     refine AWp.skip ?_
     refine hK28 _ ?_
     clear hK28 K28
     refine seqK fun K30 hK30 => ?_
     refine block ?_
     refine seqK fun K31 hK31 => ?_
     refine region ?_
     obtain ⟨x32, gx32, hE⟩ := bindO_some hE
     refine s0 (idxMn (f := TOp.c) (n := s22_25) (TK rfl) rfl (TK rfl) rfl rfl rfl gx32) rfl ?_
     refine s0 (loadV (TK rfl) rfl rfl rfl) rfl ?_
     refine sL (allocLA (TK rfl) rfl) rfl ?_
     refine sLn (storeLFA (TK rfl) rfl rfl rfl rfl rfl) ?_
     refine nil ?_
     refine hK31 _ ?_
     clear hK31 K31
     refine freezeA 7 _ rfl (Keeps.c (k := 2) (by conv => lhs; whnf) (by rfl) (Keeps.c (k := 3) (by conv => lhs; whnf) (by rfl) (Keeps.c (k := 5) (by conv => lhs; whnf) (by rfl) (Keeps.c (k := 20) (by conv => lhs; whnf) (by rfl) (Keeps.c (k := 21) (by conv => lhs; whnf) (by rfl) (Keeps.c (k := 22) (by conv => lhs; whnf) (by rfl) Keeps.nil)))))) ?_
     refine seqK fun K33 hK33 => ?_
     refine region ?_
     refine s0 (fieldVA (TK rfl) rfl rfl (TK rfl) rfl rfl) rfl ?_
     refine s0 (loadV (TK rfl) rfl rfl rfl) rfl ?_
     obtain ⟨x34, gx34, hE⟩ := bindO_some hE
     refine s0 (callP rfl rfl (fun H => Z88_walk gx34 H)) rfl ?_
     refine s0 assignA rfl ?_
     refine nil ?_
     refine hK33 _ ?_
     clear hK33 K33
     refine seqK fun K35 hK35 => ?_
     refine region ?_
     refine s0 (loadV (TK rfl) rfl rfl rfl) rfl ?_
     refine s0 moveA rfl ?_
     obtain ⟨x36, gx36, hE⟩ := bindO_some hE
     refine s0 (callP rfl rfl (fun H => Z84_walk gx36 H)) rfl ?_
     refine s0 moveA rfl ?_
     refine s0 (extract rfl rfl) rfl ?_
     refine s0 (extract rfl rfl) rfl ?_
     refine sL (allocLA (TK rfl) rfl) rfl ?_
     refine sLn (storeLFA (TK rfl) rfl rfl rfl rfl rfl) ?_
     refine s0 assignA rfl ?_
     refine nil ?_
     refine hK35 _ ?_
     clear hK35 K35
     refine freezeA 9 _ rfl (Keeps.c (k := 2) (by conv => lhs; whnf) (by rfl) (Keeps.c (k := 3) (by conv => lhs; whnf) (by rfl) (Keeps.c (k := 5) (by conv => lhs; whnf) (by rfl) (Keeps.c (k := 7) (by conv => lhs; whnf) (by rfl) (Keeps.c (k := 8) (by conv => lhs; whnf) (by rfl) (Keeps.c (k := 10) (by conv => lhs; whnf) (by rfl) (Keeps.c (k := 20) (by conv => lhs; whnf) (by rfl) (Keeps.c (k := 21) (by conv => lhs; whnf) (by rfl) (Keeps.c (k := 22) (by conv => lhs; whnf) (by rfl) Keeps.nil))))))))) ?_
     refine seqK fun K37 hK37 => ?_
     refine region ?_
     refine sE StepE.makeMap rfl (fun _ _ _ ⟨id35_38, hid35_38, e1, e2, e3⟩ => ?_); subst e1 e2 e3
     obtain ⟨ne_id35_38_id18_3, hid35_38⟩ := Heap.set_fresh hid35_38
     obtain ⟨ne_id35_38_tk18_4, hid35_38⟩ := Heap.set_fresh hid35_38
     refine AOps.heq (h' := (((H.set tk18_4 (some (.tok 2 y26_id18_3.Fout.l.length))).set id18_3 (some (.cells (Fields_checker.cg (some tk18_4) y26_id18_3)))).set id35_38 (some (.map (seenM ([] : List Bs)))))) (by first | rfl | (rw [Heap.set_set]; rfl) | (funext n_; simp only [Heap.set]; (repeat' split) <;> first | rfl | (exfalso; simp_all; done) | (simp_all; done))) ?_
     refine s0 assignA rfl ?_
     refine nil ?_
     refine hK37 _ ?_
     clear hK37 K37
     refine seqK fun K39 hK39 => ?_
     refine region ?_
     refine s0 moveA rfl ?_
     refine s0 (fieldVA (TK rfl) rfl rfl (TK rfl) rfl rfl) rfl ?_
     refine s0 (loadV (TK rfl) rfl rfl rfl) rfl ?_
     refine s0 moveA rfl ?_
     refine sE StepE.makeMap rfl (fun _ _ _ ⟨id40_40, hid40_40, e1, e2, e3⟩ => ?_); subst e1 e2 e3
     obtain ⟨ne_id40_40_id35_38, hid40_40⟩ := Heap.set_fresh hid40_40
     obtain ⟨ne_id40_40_id18_3, hid40_40⟩ := Heap.set_fresh hid40_40
     obtain ⟨ne_id40_40_tk18_4, hid40_40⟩ := Heap.set_fresh hid40_40
     refine AOps.heq (h' := ((((H.set tk18_4 (some (.tok 2 y26_id18_3.Fout.l.length))).set id18_3 (some (.cells (Fields_checker.cg (some tk18_4) y26_id18_3)))).set id35_38 (some (.map (seenM ([] : List Bs))))).set id40_40 (some (.map (seenM ([] : List Bs)))))) (by first | rfl | (rw [Heap.set_set]; rfl) | (funext n_; simp only [Heap.set]; (repeat' split) <;> first | rfl | (exfalso; simp_all; done) | (simp_all; done))) ?_
     obtain ⟨x41, gx41, hE⟩ := bindO_some hE
     refine sH (callH rfl rfl (Z8_walk gx41 _ hpG hpG hpG (by assumption))) rfl ?_
     refine AOps.heq (h' := ((((H.set tk18_4 (some (.tok 2 y26_id18_3.Fout.l.length))).set id18_3 (some (.cells (Fields_checker.cg (some tk18_4) y26_id18_3)))).set id35_38 (some (.map (seenM x41.1)))).set id40_40 (some (.map (seenM x41.2))))) (by first | rfl | (rw [Heap.set_set]; rfl) | (funext n_; simp only [Heap.set]; (repeat' split) <;> first | rfl | (exfalso; simp_all; done) | (simp_all; done))) ?_
     refine nil ?_
     refine hK39 _ ?_
     clear hK39 K39
     refine seqK fun K42 hK42 => ?_
     refine region ?_
     refine s0 moveA rfl ?_
     refine s0 (notB rfl) rfl ?_
     refine s0 moveA rfl ?_
     refine gC rfl rfl (fun hC => fieldVA (TK rfl) rfl rfl (TK rfl) rfl rfl) rfl ?_
     refine gC rfl rfl (fun hC => ungdA (k := 45) rfl (loadV (TK rfl) rfl rfl rfl)) rfl ?_
     refine gC rfl rfl (fun hC => ungdA (k := 46) rfl (binI rfl rfl rfl)) rfl ?_
     refine s0 (pickOrA rfl rfl rfl) rfl ?_
     refine s0 assignA rfl ?_
     refine nil ?_
     refine hK42 _ ?_
     clear hK42 K42
     refine seqK fun K43 hK43 => ?_
     refine region ?_
     refine s0 moveA rfl ?_
     refine s0 moveA rfl ?_
     refine s0 moveA rfl ?_
     refine gC rfl rfl (fun hC => fieldVA (TK rfl) rfl rfl (TK rfl) rfl rfl) rfl ?_
     refine gC rfl rfl (fun hC => ungdA (k := 52) rfl (loadV (TK rfl) rfl rfl rfl)) rfl ?_
     refine gC rfl rfl (fun hC => ungdA (k := 53) rfl (binI rfl rfl rfl)) rfl ?_
     refine gC rfl rfl (fun hC => ungdA (k := 54) rfl moveA) rfl ?_
     refine gC rfl rfl (fun hC => moveA) rfl ?_
     refine gC rfl rfl (fun hC => ungdA (k := 56) rfl (lenM (TK rfl) rfl rfl rfl hpG)) rfl ?_
     refine gC rfl rfl (fun hC => ungdA (k := 57) rfl (binI rfl rfl rfl)) rfl ?_
     refine gC rfl rfl (fun hC => ungdA (k := 55) rfl (pickAndA rfl rfl rfl)) rfl ?_
     refine s0 (pickOrA rfl rfl rfl) rfl ?_
     refine s0 (fieldVA (TK rfl) rfl rfl (TK rfl) rfl rfl) rfl ?_
     refine s0 (loadV (TK rfl) rfl rfl rfl) rfl ?_
     obtain ⟨x44, gx44, hE⟩ := bindO_some hE
     refine sH (callH rfl rfl (Z3_walk gx44 _ hpG hpG)) rfl ?_
     refine AOps.heq (h' := ((((H.set tk18_4 (some (.tok 2 x44.Fout.l.length))).set id18_3 (some (.cells (Fields_checker.cg (some tk18_4) x44)))).set id35_38 (some (.map (seenM x41.1)))).set id40_40 (some (.map (seenM x41.2))))) (by first | rfl | (rw [Heap.set_set]; rfl) | (funext n_; simp only [Heap.set]; (repeat' split) <;> first | rfl | (exfalso; simp_all; done) | (simp_all; done))) ?_
     refine nil ?_
     refine hK43 _ ?_
     clear hK43 K43
     refine region ?_
     refine s0 moveA rfl ?_
     refine s0 (fieldVA (TK rfl) rfl rfl (TK rfl) rfl rfl) rfl ?_
     refine s0 (loadV (TK rfl) rfl rfl rfl) rfl ?_
     refine s0 moveA rfl ?_
     refine s0 (fieldVA (TK rfl) rfl rfl (TK rfl) rfl rfl) rfl ?_
     refine s0 (loadV (TK rfl) rfl rfl rfl) rfl ?_
     obtain ⟨x45, gx45, hE⟩ := bindO_some hE
     refine sH (callH rfl rfl (fields_checker_sels_walk gx45 _ hpG hpG)) rfl ?_
     refine AOps.heq (h' := ((((H.set tk18_4 (some (.tok 2 x45.Fout.l.length))).set id18_3 (some (.cells (Fields_checker.cg (some tk18_4) x45)))).set id35_38 (some (.map (seenM x41.1)))).set id40_40 (some (.map (seenM x41.2))))) (by first | rfl | (rw [Heap.set_set]; rfl) | (funext n_; simp only [Heap.set]; (repeat' split) <;> first | rfl | (exfalso; simp_all; done) | (simp_all; done))) ?_
     refine nil ?_
     refine hK30 _ ?_
     clear hK30 K30
     refine region ?_
     refine s0 (addIA rfl rfl) rfl ?_
     refine s0 moveA rfl ?_
     refine nil ?_
     exact hK24 _ (n24, (s22_25 + 1), x45) (Weak.toFA (by (intro id_ o_ he_); (have e_id35_38 : id_ ≠ id35_38 := fun e_ => by rw [e_] at he_; simp [Heap.set, hid35_38, ne_id35_38_tk18_4, ne_id35_38_id18_3] at he_); (have e_id40_40 : id_ ≠ id40_40 := fun e_ => by rw [e_] at he_; simp [Heap.set, hid40_40, ne_id40_40_tk18_4, ne_id40_40_id18_3] at he_); (rw [← he_]); (simp only [Heap.set, if_neg e_id35_38, if_neg e_id40_40]); (first | done | rfl))) hE (Nat.lt_succ_self _)
    refine AWp.exit ?_
    exact hK5 _ y26_id18_3 Weak.toA hE
 rintro y6_id18_3 hE
 try dsimp only at hE
 unfold Z0_j5 at hE
 refine seqJH (KeepsT.A (k := 5) KeepsT.nil) (fun (z : Fields_checker) => []) (fun z => ((H.set tk18_4 (some (.tok 2 z.Fout.l.length))).set id18_3 (some (.cells (Fields_checker.cg (some tk18_4) z))))) (fun z => Z0_j7 z = some r) ?_ ?_
 ·intro K7 hK7
  refine seqK fun K10 hK10 => ?_
  refine region ?_
  refine s0 (fieldVA (TK rfl) rfl rfl (TK rfl) rfl rfl) rfl ?_
  refine s0 (loadV (TK rfl) rfl rfl rfl) rfl ?_
  refine sLen (f := TFrag.c) (s := a1.FFrags) (TK rfl) rfl rfl rfl rfl fun hL11 => ?_
  refine s0 moveA rfl ?_
  refine nil ?_
  refine hK10 _ ?_
  clear hK10 K10
  refine block ?_
  refine loopH (KeepsT.A (k := 5) (KeepsT.A (k := 73) (KeepsT.A (k := 74) KeepsT.nil))) (fun (z : Nat × Nat × Fields_checker) => [(75, .a (.d (.int .i64 ((z.2.1 : Nat) : Int))))]) (fun z => ((H.set tk18_4 (some (.tok 2 z.2.2.Fout.l.length))).set id18_3 (some (.cells (Fields_checker.cg (some tk18_4) z.2.2))))) (fun z => z.1) (fun z => Z0_l12 a1 z.1 z.2.1 z.2.2 = some r) ((a1.FFrags.l.length + 1), 0, y6_id18_3) hE Weak.toA ?_
  rintro ⟨n12, s75_13, y14_id18_3⟩ hE K12 hK12
  try dsimp only at hE
  cases n12 with
  | zero => cases hE
  | succ n12 =>
    rw [Z0_l12] at hE
    refine seqK fun K15 hK15 => ?_
    refine region ?_
    refine s0 (binI rfl rfl rfl) rfl ?_
    refine nil ?_
    refine hK15 _ ?_
    clear hK15 K15
    refine seqK fun K16 hK16 => ?_
    refine condE hE rfl (fun hc17 hE => ?_) (fun hc17 hE => ?_)
    ·try dsimp only at hc17
     have hf17 := of_decide_eq_true hc17
     refine AWp.skip ?_
     refine hK16 _ ?_
     clear hK16 K16
     refine seqK fun K18 hK18 => ?_
     refine block ?_
     refine seqK fun K19 hK19 => ?_
     refine region ?_
     obtain ⟨x20, gx20, hE⟩ := bindO_some hE
     refine s0 (idxMn (f := TFrag.c) (n := s75_13) (TK rfl) rfl (TK rfl) rfl rfl rfl gx20) rfl ?_
     refine s0 (loadV (TK rfl) rfl rfl rfl) rfl ?_
     refine sL (allocLA (TK rfl) rfl) rfl ?_
     refine sLn (storeLFA (TK rfl) rfl rfl rfl rfl rfl) ?_
     refine nil ?_
     refine hK19 _ ?_
     clear hK19 K19
     refine freezeA 14 _ rfl (Keeps.c (k := 5) (by conv => lhs; whnf) (by rfl) (Keeps.c (k := 73) (by conv => lhs; whnf) (by rfl) (Keeps.c (k := 74) (by conv => lhs; whnf) (by rfl) (Keeps.c (k := 75) (by conv => lhs; whnf) (by rfl) Keeps.nil)))) ?_
     refine region ?_
     refine s0 moveA rfl ?_
     refine s0 (fieldVA (TK rfl) rfl rfl (TK rfl) rfl rfl) rfl ?_
     refine s0 (loadV (TK rfl) rfl rfl rfl) rfl ?_
     refine s0 (fieldVA (TK rfl) rfl rfl (TK rfl) rfl rfl) rfl ?_
     refine s0 (loadV (TK rfl) rfl rfl rfl) rfl ?_
     refine s0 (fieldVA (TK rfl) rfl rfl (TK rfl) rfl rfl) rfl ?_
     refine s0 (loadV (TK rfl) rfl rfl rfl) rfl ?_
     obtain ⟨x21, gx21, hE⟩ := bindO_some hE
     refine sH (callH rfl rfl (fields_checker_sels_walk gx21 _ hpG hpG)) rfl ?_
     refine AOps.heq (h' := ((H.set tk18_4 (some (.tok 2 x21.Fout.l.length))).set id18_3 (some (.cells (Fields_checker.cg (some tk18_4) x21))))) (by first | rfl | (rw [Heap.set_set]; rfl) | (funext n_; simp only [Heap.set]; (repeat' split) <;> first | rfl | (exfalso; simp_all; done) | (simp_all; done))) ?_
     refine nil ?_
     refine hK18 _ ?_
     clear hK18 K18
     refine region ?_
     refine s0 (addIA rfl rfl) rfl ?_
     refine s0 moveA rfl ?_
     refine nil ?_
     exact hK12 _ (n12, (s75_13 + 1), x21) Weak.toA hE (Nat.lt_succ_self _)
    refine AWp.exit ?_
    exact hK7 _ y14_id18_3 Weak.toA hE
 rintro y8_id18_3 hE
 try dsimp only at hE
 unfold Z0_j7 at hE
 refine seqK fun K9 hK9 => ?_
 refine region ?_
 refine s0 moveA rfl ?_
 refine s0 (nilP rfl) rfl ?_
 refine s0 (fieldP (TK rfl) rfl rfl (TK rfl) rfl rfl) rfl ?_
 refine s0 (loadP (TK rfl) rfl rfl hpG rfl) rfl ?_
 refine s0 assignA rfl ?_
 refine nil ?_
 refine hK9 _ ?_
 clear hK9 K9
 refine AWp.dropTok 4 rfl ?_
 refine AWp.ret ?_
 repeat (first | refine xBlock_ret ?_ | refine xThen_ret ?_)
 obtain rfl := Option.some.inj hE
 refine retQ.retF H rfl ⟨rfl, rfl⟩ ?_
 intro id_ o_ he_
 have e_tk18_4 : id_ ≠ tk18_4 := fun e_ => by subst e_; simp_all [Heap.set]
 have e_id18_3 : id_ ≠ id18_3 := fun e_ => by subst e_; simp_all [Heap.set]
 rw [← he_]
 simp only [Heap.set] at he_ ⊢
 (repeat' split) <;> simp_all
def Z31 (a0 : TRef) : Option Bool := guardO ((decide ((0 : Int) < ((a0.FWraps.l.length : Nat) : Int)))) (a0.FWraps.l[0]?) (0 : Int) fun x4 => some ((decide ((0 : Int) < ((a0.FWraps.l.length : Nat) : Int))) && (decide (x4 = (1 : Int))))
theorem Z31_walk {a0 : TRef}   {r : Bool} (hE : Z31 a0 = some r) (H : Heap)  : ACalls Tryz.prog 56 [.agg (TRef.c a0)] H fun v h' => v = .a (.d (.bool r)) ∧ h' = H := by
 unfold Z31 at hE
 refine ACalls.of_wp (fn := Tryz.f56) (c := _) Tryz.tab_ok (fun _ _ => Tryz.call56 _ _) Tryz.func56 rfl (n := 14) rfl (rs := [.tmp 2]) rfl rfl ?_
 refine seqK fun K1 hK1 => ?_
 refine region ?_
 refine s0 (boxV rfl) rfl ?_
 refine s0 assignA rfl ?_
 refine nil ?_
 refine hK1 _ ?_
 clear hK1 K1
 refine seqK fun K2 hK2 => ?_
 refine region ?_
 refine s0 (fieldVA (TK rfl) rfl rfl (TK rfl) rfl rfl) rfl ?_
 refine s0 (loadV (TK rfl) rfl rfl rfl) rfl ?_
 refine sLen (f := (intE .i64)) (s := a0.FWraps) (TK rfl) rfl rfl rfl rfl fun hL3 => ?_
 refine s0 (binI rfl rfl rfl) rfl ?_
 refine s0 moveA rfl ?_
 refine gC rfl rfl (fun hC => fieldVA (TK rfl) rfl rfl (TK rfl) rfl rfl) rfl ?_
 refine gC rfl rfl (fun hC => ungdA (k := 8) rfl (loadV (TK rfl) rfl rfl rfl)) rfl ?_
 obtain ⟨x4, gx4, hE⟩ := guardO_some hE
 refine gC rfl rfl (fun hC => ungdA (k := 9) rfl (idxMn (f := (intE .i64)) (n := 0) (TK rfl) rfl (TK rfl) rfl rfl rfl (gx4 hC))) rfl ?_
 refine gC rfl rfl (fun hC => ungdA (k := 10) rfl (loadV (TK rfl) rfl rfl rfl)) rfl ?_
 refine gC rfl rfl (fun hC => ungdA (k := 11) rfl (binI rfl rfl rfl)) rfl ?_
 refine s0 (pickAndA rfl rfl rfl) rfl ?_
 refine s0 assignA rfl ?_
 refine nil ?_
 refine hK2 _ ?_
 clear hK2 K2
 refine AWp.ret ?_
 repeat (first | refine xBlock_ret ?_ | refine xThen_ret ?_)
 obtain rfl := Option.some.inj hE
 refine retQ.retF H rfl ⟨rfl, rfl⟩ ?_
 exact (fun _ _ h => h)
def Z39 (a0 : Int) (a1 : TRef) : Option TRef := (appC 8 (⟨false, [a0]⟩ : Sl Int) a1.FWraps).bind fun x3 => some (TRef.mk a1.FName x3)
theorem Z39_walk {a0 : Int} {a1 : TRef}   {r : TRef} (hE : Z39 a0 a1 = some r) (H : Heap)  : ACalls Tryz.prog 57 [.d (.int .i64 a0), .agg (TRef.c a1)] H fun v h' => v = .a (.agg (TRef.c r)) ∧ h' = H := by
 unfold Z39 at hE
 refine ACalls.of_wp (fn := Tryz.f57) (c := _) Tryz.tab_ok (fun _ _ => Tryz.call57 _ _) Tryz.func57 rfl (n := 13) rfl (rs := [.cell 4 55]) rfl rfl ?_
 refine seqK fun K1 hK1 => ?_
 refine region ?_
 refine s0 (boxV rfl) rfl ?_
 refine sL (allocLA (TK rfl) rfl) rfl ?_
 refine nil ?_
 refine hK1 _ ?_
 clear hK1 K1
 refine seqK fun K2 hK2 => ?_
 refine AWp.draw rfl ?_
 refine DOps.s0 (fieldVA (TK rfl) rfl rfl (TK rfl) rfl rfl) rfl ?_
 refine DOps.s0 (loadV (TK rfl) rfl rfl rfl) rfl ?_
 refine DOps.s0 moveA rfl ?_
 refine DOps.s0 (buildSliceF (TK rfl) rfl (TK rfl) rfl rfl rfl rfl rfl rfl) rfl ?_
 refine DOps.s0 (fieldVA (TK rfl) rfl rfl (TK rfl) rfl rfl) rfl ?_
 refine DOps.s0 (loadV (TK rfl) rfl rfl rfl) rfl ?_
 obtain ⟨x3, gx3, hE⟩ := bindO_some hE
 refine DOps.s0 (appFM (f := (intE .i64)) (TK rfl) rfl (TK rfl) (TK rfl) ⟨_, rfl⟩ rfl rfl (by decide) rfl rfl rfl (by intro q h; cases h <;> decide) rfl rfl gx3) rfl ?_
 refine DOps.s0 (build Tryz.tab_ok rfl rfl rfl rfl rfl rfl) rfl ?_
 refine DOps.sLn (storeLFA (TK rfl) rfl rfl rfl rfl rfl) ?_
 refine DOps.nil (by decide +kernel) ?_
 refine hK2 _ ?_
 clear hK2 K2
 refine AWp.ret ?_
 repeat (first | refine xBlock_ret ?_ | refine xThen_ret ?_)
 obtain rfl := Option.some.inj hE
 refine retQ.retF H rfl ⟨rfl, rfl⟩ ?_
 exact (fun _ _ h => h)
end Go.Proofs

namespace Go.Proofs
open Go Go.Ab
open AOps Cert AWp
def Z33 (a0 : TRef) : Option TRef := (Z31 a0).bind fun x4 => bif x4 then ((appC 8 (⟨false, []⟩ : Sl Int) a0.FWraps).bind fun x7 => some (TRef.mk a0.FName x7)) else ((Z39 (1 : Int) a0).bind fun x9 => some x9)
theorem Z33_walk {a0 : TRef}   {r : TRef} (hE : Z33 a0 = some r) (H : Heap)  : ACalls Tryz.prog 22 [.agg (TRef.c a0)] H fun v h' => v = .a (.agg (TRef.c r)) ∧ h' = H := by
 unfold Z33 at hE
 refine ACalls.of_wp (fn := Tryz.f22) (c := _) Tryz.tab_ok (fun _ _ => Tryz.call22 _ _) Tryz.func22 rfl (n := 14) rfl (rs := [.cell 2 55]) rfl rfl ?_
 refine seqK fun K1 hK1 => ?_
 refine region ?_
 refine s0 (boxV rfl) rfl ?_
 refine sL (allocLA (TK rfl) rfl) rfl ?_
 refine nil ?_
 refine hK1 _ ?_
 clear hK1 K1
 refine seqK fun K2 hK2 => ?_
 refine seqK fun K3 hK3 => ?_
 refine region ?_
 refine s0 (loadV (TK rfl) rfl rfl rfl) rfl ?_
 obtain ⟨x4, gx4, hE⟩ := bindO_some hE
 refine s0 (callP rfl rfl (fun H => Z31_walk gx4 H)) rfl ?_
 refine nil ?_
 refine hK3 _ ?_
 clear hK3 K3
 refine condE hE rfl (fun hc5 hE => ?_) (fun hc5 hE => ?_)
 ·refine seqK fun K6 hK6 => ?_
  refine AWp.draw rfl ?_
  refine DOps.s0 (fieldVA (TK rfl) rfl rfl (TK rfl) rfl rfl) rfl ?_
  refine DOps.s0 (loadV (TK rfl) rfl rfl rfl) rfl ?_
  refine DOps.s0 (buildSliceF (TK rfl) rfl (TK rfl) rfl rfl rfl rfl rfl rfl) rfl ?_
  refine DOps.s0 (fieldVA (TK rfl) rfl rfl (TK rfl) rfl rfl) rfl ?_
  refine DOps.s0 (loadV (TK rfl) rfl rfl rfl) rfl ?_
  obtain ⟨x7, gx7, hE⟩ := bindO_some hE
  refine DOps.s0 (appFM (f := (intE .i64)) (TK rfl) rfl (TK rfl) (TK rfl) ⟨_, rfl⟩ rfl rfl (by decide) rfl rfl rfl (by intro q h; cases h <;> decide) rfl rfl gx7) rfl ?_
  refine DOps.s0 (build Tryz.tab_ok rfl rfl rfl rfl rfl rfl) rfl ?_
  refine DOps.sLn (storeLFA (TK rfl) rfl rfl rfl rfl rfl) ?_
  refine DOps.nil (by decide +kernel) ?_
  refine hK6 _ ?_
  clear hK6 K6
  refine AWp.ret ?_
  repeat (first | refine xBlock_ret ?_ | refine xThen_ret ?_)
  obtain rfl := Option.some.inj hE
  refine retQ.retF H rfl ⟨rfl, rfl⟩ ?_
  exact (fun _ _ h => h)
 refine AWp.skip ?_
 refine hK2 _ ?_
 clear hK2 K2
 refine seqK fun K8 hK8 => ?_
 refine region ?_
 refine s0 (loadV (TK rfl) rfl rfl rfl) rfl ?_
 obtain ⟨x9, gx9, hE⟩ := bindO_some hE
 refine s0 (callP rfl rfl (fun H => Z39_walk gx9 H)) rfl ?_
 refine sLn (storeLFA (TK rfl) rfl rfl rfl rfl rfl) ?_
 refine nil ?_
 refine hK8 _ ?_
 clear hK8 K8
 refine AWp.ret ?_
 repeat (first | refine xBlock_ret ?_ | refine xThen_ret ?_)
 obtain rfl := Option.some.inj hE
 refine retQ.retF H rfl ⟨rfl, rfl⟩ ?_
 exact (fun _ _ h => h)
def Z32 (a0 : Bs) : Option TRef := some (TRef.mk a0 (Sl.nil : Sl Int))
theorem Z32_walk {a0 : Bs}   {r : TRef} (hE : Z32 a0 = some r) (H : Heap)  : ACalls Tryz.prog 23 [.d (.str a0)] H fun v h' => v = .a (.agg (TRef.c r)) ∧ h' = H := by
 unfold Z32 at hE
 refine ACalls.of_wp (fn := Tryz.f23) (c := _) Tryz.tab_ok (fun _ _ => Tryz.call23 _ _) Tryz.func23 rfl (n := 5) rfl (rs := [.cell 2 55]) rfl rfl ?_
 refine seqK fun K1 hK1 => ?_
 refine region ?_
 refine sL (allocLA (TK rfl) rfl) rfl ?_
 refine nil ?_
 refine hK1 _ ?_
 clear hK1 K1
 refine seqK fun K2 hK2 => ?_
 refine region ?_
 refine s0 moveA rfl ?_
 refine s0 (build Tryz.tab_ok rfl rfl rfl rfl rfl rfl) rfl ?_
 refine sLn (storeLFA (TK rfl) rfl rfl rfl rfl rfl) ?_
 refine nil ?_
 refine hK2 _ ?_
 clear hK2 K2
 refine AWp.ret ?_
 repeat (first | refine xBlock_ret ?_ | refine xThen_ret ?_)
 obtain rfl := Option.some.inj hE
 refine retQ.retF H rfl ⟨rfl, rfl⟩ ?_
 exact (fun _ _ h => h)
def Z18  : Option TDoc := (Z32 ([73, 110, 116] : Bs)).bind fun x3 => (Z33 x3).bind fun x4 => (Z32 ([73, 110, 116] : Bs)).bind fun x6 => some (TDoc.mk (⟨false, [(TDef.mk (1 : Int) ([81, 117, 101, 114, 121] : Bs) (Sl.nil : Sl Bs) (Sl.nil : Sl TDir) (⟨false, [(TField.mk ([97] : Bs) (⟨false, [(TInput.mk ([110] : Bs) x4 false TValue.zero (Sl.nil : Sl TDir))]⟩ : Sl TInput) x6 (Sl.nil : Sl TDir))]⟩ : Sl TField) (Sl.nil : Sl TMember) (Sl.nil : Sl TInput)), (TDef.mk (3 : Int) ([85] : Bs) (Sl.nil : Sl Bs) (Sl.nil : Sl TDir) (Sl.nil : Sl TField) (⟨false, [(TMember.mk ([81, 117, 101, 114, 121] : Bs) (Sl.nil : Sl TDir))]⟩ : Sl TMember) (Sl.nil : Sl TInput))]⟩ : Sl TDef))
theorem Z18_walk    {r : TDoc} (hE : Z18  = some r) (H : Heap)  : ACalls Tryz.prog 20 [] H fun v h' => v = .a (.agg (TDoc.c r)) ∧ h' = H := by
 unfold Z18 at hE
 refine ACalls.of_wp (fn := Tryz.f20) (c := _) Tryz.tab_ok (fun _ _ => Tryz.call20 _ _) Tryz.func20 rfl (n := 16) rfl (rs := [.cell 0 24]) rfl rfl ?_
 refine seqK fun K1 hK1 => ?_
 refine region ?_
 refine sL (allocLA (TK rfl) rfl) rfl ?_
 refine nil ?_
 refine hK1 _ ?_
 clear hK1 K1
 refine seqK fun K2 hK2 => ?_
 refine region ?_
 obtain ⟨x3, gx3, hE⟩ := bindO_some hE
 refine s0 (callP rfl rfl (fun H => Z32_walk gx3 H)) rfl ?_
 obtain ⟨x4, gx4, hE⟩ := bindO_some hE
 refine s0 (callP rfl rfl (fun H => Z33_walk gx4 H)) rfl ?_
 refine s0 (build Tryz.tab_ok rfl rfl rfl rfl rfl rfl) rfl ?_
 refine sL (allocLA (TK rfl) rfl) rfl ?_
 refine sLn (storeLFA (TK rfl) rfl rfl rfl rfl rfl) ?_
 refine nil ?_
 refine hK2 _ ?_
 clear hK2 K2
 refine freezeA 1 _ rfl (Keeps.c (k := 0) (by conv => lhs; whnf) (by rfl) Keeps.nil) ?_
 refine seqK fun K5 hK5 => ?_
 refine AWp.draw rfl ?_
 obtain ⟨x6, gx6, hE⟩ := bindO_some hE
 refine DOps.s0 (callP rfl rfl (fun H => Z32_walk gx6 H)) rfl ?_
 refine DOps.s0 (loadV (TK rfl) rfl rfl rfl) rfl ?_
 refine DOps.s0 (buildSlice (TK rfl) rfl (TK rfl) rfl rfl rfl rfl rfl rfl) rfl ?_
 refine DOps.s0 (build Tryz.tab_ok rfl rfl rfl rfl rfl rfl) rfl ?_
 refine DOps.s0 (buildSlice (TK rfl) rfl (TK rfl) rfl rfl rfl rfl rfl rfl) rfl ?_
 refine DOps.s0 (build Tryz.tab_ok rfl rfl rfl rfl rfl rfl) rfl ?_
 refine DOps.s0 (build Tryz.tab_ok rfl rfl rfl rfl rfl rfl) rfl ?_
 refine DOps.s0 (buildSlice (TK rfl) rfl (TK rfl) rfl rfl rfl rfl rfl rfl) rfl ?_
 refine DOps.s0 (build Tryz.tab_ok rfl rfl rfl rfl rfl rfl) rfl ?_
 refine DOps.s0 (buildSlice (TK rfl) rfl (TK rfl) rfl rfl rfl rfl rfl rfl) rfl ?_
 refine DOps.s0 (build Tryz.tab_ok rfl rfl rfl rfl rfl rfl) rfl ?_
 refine DOps.sLn (storeLFA (TK rfl) rfl rfl rfl rfl rfl) ?_
 refine DOps.nil (by decide +kernel) ?_
 refine hK5 _ ?_
 clear hK5 K5
 refine AWp.ret ?_
 repeat (first | refine xBlock_ret ?_ | refine xThen_ret ?_)
 obtain rfl := Option.some.inj hE
 refine retQ.retF H rfl ⟨rfl, rfl⟩ ?_
 exact (fun _ _ h => h)
def Z38_j8   : Option Bool := some true
def Z38_l11 (a0 : (Sl Int)) (a1 : (Sl Int))  : Nat → Nat → Option Bool
 | 0, _ => none
 | n11 + 1, s5_12 => bif (decide (((s5_12 : Nat) : Int) < ((a0.l.length : Nat) : Int))) then ((a0.l[s5_12]?).bind fun x19 => (a1.l[s5_12]?).bind fun x20 => bif (!decide (x19 = x20)) then (some false) else ((Z38_l11 a0 a1 n11) (s5_12 + 1))) else (Z38_j8   )
def Z38 (a0 : (Sl Int)) (a1 : (Sl Int)) : Option Bool := bif (!decide (((a0.l.length : Nat) : Int) = ((a1.l.length : Nat) : Int))) then (some false) else (Z38_l11 a0 a1 (a0.l.length + 1) 0)
theorem Z38_walk {a0 : (Sl Int)} {a1 : (Sl Int)} {w0 : Option Nat} {w1 : Option Nat}  {r : Bool} (hE : Z38 a0 a1 = some r) (H : Heap)  : ACalls Tryz.prog 55 [.d (Sl.d 1 (intE .i64) w0 a0), .d (Sl.d 1 (intE .i64) w1 a1)] H fun v h' => v = .a (.d (.bool r)) ∧ h' = H := by
 unfold Z38 at hE
 refine ACalls.of_wp (fn := Tryz.f55) (c := _) Tryz.tab_ok (fun _ _ => Tryz.call55 _ _) Tryz.func55 rfl (n := 26) rfl (rs := [.tmp 4]) rfl rfl ?_
 refine seqK fun K1 hK1 => ?_
 refine region ?_
 refine s0 assignA rfl ?_
 refine nil ?_
 refine hK1 _ ?_
 clear hK1 K1
 refine seqK fun K2 hK2 => ?_
 refine seqK fun K3 hK3 => ?_
 refine region ?_
 refine s0 moveA rfl ?_
 refine sLen (f := (intE .i64)) (s := a0) (TK rfl) rfl rfl rfl rfl fun hL4 => ?_
 refine s0 moveA rfl ?_
 refine sLen (f := (intE .i64)) (s := a1) (TK rfl) rfl rfl rfl rfl fun hL5 => ?_
 refine s0 (binI rfl rfl rfl) rfl ?_
 refine nil ?_
 refine hK3 _ ?_
 clear hK3 K3
 refine condE hE rfl (fun hc6 hE => ?_) (fun hc6 hE => ?_)
 ·refine seqK fun K7 hK7 => ?_
  refine region ?_
  refine s0 assignA rfl ?_
  refine nil ?_
  refine hK7 _ ?_
  clear hK7 K7
  refine AWp.ret ?_
  repeat (first | refine xBlock_ret ?_ | refine xThen_ret ?_)
  obtain rfl := Option.some.inj hE
  refine retQ.retF H rfl ⟨rfl, rfl⟩ ?_
  exact (fun _ _ h => h)
 refine AWp.skip ?_
 refine hK2 _ ?_
 clear hK2 K2
 refine seqJH KeepsT.nil (fun (z : Unit) => []) (fun z => H) (fun z => Z38_j8  = some r) ?_ ?_
 ·intro K8 hK8
  refine seqK fun K10 hK10 => ?_
  refine region ?_
  refine s0 assignA rfl ?_
  refine nil ?_
  refine hK10 _ ?_
  clear hK10 K10
  refine block ?_
  refine loopH (KeepsT.A (k := 0) (KeepsT.A (k := 1) KeepsT.nil)) (fun (z : Nat × Nat) => [(5, .a (.d (.int .i64 ((z.2 : Nat) : Int))))]) (fun z => H) (fun z => z.1) (fun z => Z38_l11 a0 a1 z.1 z.2 = some r) ((a0.l.length + 1), 0) hE Weak.toA ?_
  rintro ⟨n11, s5_12⟩ hE K11 hK11
  try dsimp only at hE
  cases n11 with
  | zero => cases hE
  | succ n11 =>
    rw [Z38_l11] at hE
    refine seqK fun K13 hK13 => ?_
    refine seqK fun K14 hK14 => ?_
    refine region ?_
    refine s0 moveA rfl ?_
    refine s0 moveA rfl ?_
    refine sLen (f := (intE .i64)) (s := a0) (TK rfl) rfl rfl rfl rfl fun hL15 => ?_
    refine s0 (binI rfl rfl rfl) rfl ?_
    refine nil ?_
    refine hK14 _ ?_
    clear hK14 K14
    refine condE hE rfl (fun hc16 hE => ?_) (fun hc16 hE => ?_)
    ·try dsimp only at hc16
     have hf16 := of_decide_eq_true hc16
     refine AWp.skip ?_
     refine hK13 _ ?_
     clear hK13 K13
     refine seqK fun K17 hK17 => ?_
     refine block ?_
     refine seqK fun K18 hK18 => ?_
     refine AWp.draw rfl ?_
     refine DOps.s0 moveA rfl ?_
     refine DOps.s0 moveA rfl ?_
     obtain ⟨x19, gx19, hE⟩ := bindO_some hE
     refine DOps.s0 (idxMn (f := (intE .i64)) (n := s5_12) (TK rfl) rfl (TK rfl) rfl rfl rfl gx19) rfl ?_
     refine DOps.s0 (loadV (TK rfl) rfl rfl rfl) rfl ?_
     refine DOps.s0 moveA rfl ?_
     refine DOps.s0 moveA rfl ?_
     obtain ⟨x20, gx20, hE⟩ := bindO_some hE
     refine DOps.s0 (idxMn (f := (intE .i64)) (n := s5_12) (TK rfl) rfl (TK rfl) rfl rfl rfl gx20) rfl ?_
     refine DOps.s0 (loadV (TK rfl) rfl rfl rfl) rfl ?_
     refine DOps.s0 (binI rfl rfl rfl) rfl ?_
     refine DOps.nil (by decide +kernel) ?_
     refine hK18 _ ?_
     clear hK18 K18
     refine condE hE rfl (fun hc21 hE => ?_) (fun hc21 hE => ?_)
     ·refine seqK fun K22 hK22 => ?_
      refine region ?_
      refine s0 assignA rfl ?_
      refine nil ?_
      refine hK22 _ ?_
      clear hK22 K22
      refine AWp.ret ?_
      repeat (first | refine xBlock_ret ?_ | refine xThen_ret ?_)
      obtain rfl := Option.some.inj hE
      refine retQ.retF H rfl ⟨rfl, rfl⟩ ?_
      exact (fun _ _ h => h)
     refine AWp.skip ?_
     refine hK17 _ ?_
     clear hK17 K17
     refine region ?_
     refine s0 moveA rfl ?_
     refine s0 (addIA rfl rfl) rfl ?_
     refine s0 assignA rfl ?_
     refine nil ?_
     exact hK11 _ (n11, (s5_12 + 1)) Weak.toA hE (Nat.lt_succ_self _)
    refine AWp.exit ?_
    exact hK8 _ () Weak.toA hE
 rintro _ hE
 try dsimp only at hE
 unfold Z38_j8 at hE
 refine seqK fun K9 hK9 => ?_
 refine region ?_
 refine s0 assignA rfl ?_
 refine nil ?_
 refine hK9 _ ?_
 clear hK9 K9
 refine AWp.ret ?_
 repeat (first | refine xBlock_ret ?_ | refine xThen_ret ?_)
 obtain rfl := Option.some.inj hE
 refine retQ.retF H rfl ⟨rfl, rfl⟩ ?_
 exact (fun _ _ h => h)
def Z36 (a0 : TRef) (a1 : TRef) : Option Bool := guardO (((a0.FName == a1.FName))) (Z38 a0.FWraps a1.FWraps) false fun x3 => some (((a0.FName == a1.FName)) && x3)
theorem Z36_walk {a0 : TRef} {a1 : TRef}   {r : Bool} (hE : Z36 a0 a1 = some r) (H : Heap)  : ACalls Tryz.prog 21 [.agg (TRef.c a0), .agg (TRef.c a1)] H fun v h' => v = .a (.d (.bool r)) ∧ h' = H := by
 unfold Z36 at hE
 refine ACalls.of_wp (fn := Tryz.f21) (c := _) Tryz.tab_ok (fun _ _ => Tryz.call21 _ _) Tryz.func21 rfl (n := 17) rfl (rs := [.tmp 4]) rfl rfl ?_
 refine seqK fun K1 hK1 => ?_
 refine region ?_
 refine s0 (boxV rfl) rfl ?_
 refine s0 (boxV rfl) rfl ?_
 refine s0 assignA rfl ?_
 refine nil ?_
 refine hK1 _ ?_
 clear hK1 K1
 refine seqK fun K2 hK2 => ?_
 refine region ?_
 refine s0 (fieldVA (TK rfl) rfl rfl (TK rfl) rfl rfl) rfl ?_
 refine s0 (loadV (TK rfl) rfl rfl rfl) rfl ?_
 refine s0 (fieldVA (TK rfl) rfl rfl (TK rfl) rfl rfl) rfl ?_
 refine s0 (loadV (TK rfl) rfl rfl rfl) rfl ?_
 refine s0 (binS rfl rfl rfl) rfl ?_
 refine s0 moveA rfl ?_
 refine gC rfl rfl (fun hC => fieldVA (TK rfl) rfl rfl (TK rfl) rfl rfl) rfl ?_
 refine gC rfl rfl (fun hC => ungdA (k := 11) rfl (loadV (TK rfl) rfl rfl rfl)) rfl ?_
 refine gC rfl rfl (fun hC => fieldVA (TK rfl) rfl rfl (TK rfl) rfl rfl) rfl ?_
 refine gC rfl rfl (fun hC => ungdA (k := 13) rfl (loadV (TK rfl) rfl rfl rfl)) rfl ?_
 obtain ⟨x3, gx3, hE⟩ := guardO_some hE
 refine gC rfl rfl (fun hC => ungdA (k := 12) rfl (ungdA (k := 14) rfl (callP rfl rfl (fun H => Z38_walk (gx3 hC) H)))) rfl ?_
 refine s0 (pickAndA rfl rfl rfl) rfl ?_
 refine s0 assignA rfl ?_
 refine nil ?_
 refine hK2 _ ?_
 clear hK2 K2
 refine AWp.ret ?_
 repeat (first | refine xBlock_ret ?_ | refine xThen_ret ?_)
 obtain rfl := Option.some.inj hE
 refine retQ.retF H rfl ⟨rfl, rfl⟩ ?_
 exact (fun _ _ h => h)
def Z16  : Option Bool := (Z18 ).bind fun x5 => (Z1 x5 ([85] : Bs) ([95, 95, 116, 121, 112, 101, 110, 97, 109, 101] : Bs)).bind fun x6 => (Z18 ).bind fun x8 => (Z1 x8 ([85] : Bs) ([97] : Bs)).bind fun x9 => (Z18 ).bind fun x11 => (Z0 x11 (TQuery.mk (⟨false, [(TOp.mk (1 : Int) ([] : Bs) (Sl.nil : Sl TVar) (⟨false, [(TSel.mk (1 : Int) ([] : Bs) ([98] : Bs) ([] : Bs) (Sl.nil : Sl TArg) (Sl.nil : Sl TDir) true ([])), (TSel.mk (1 : Int) ([] : Bs) ([97] : Bs) ([] : Bs) (Sl.nil : Sl TArg) (Sl.nil : Sl TDir) ((⟨false, [(TSel.mk (1 : Int) ([] : Bs) ([99] : Bs) ([] : Bs) (Sl.nil : Sl TArg) (Sl.nil : Sl TDir) true ([]))]⟩ : Sl TSel).nl) ((⟨false, [(TSel.mk (1 : Int) ([] : Bs) ([99] : Bs) ([] : Bs) (Sl.nil : Sl TArg) (Sl.nil : Sl TDir) true ([]))]⟩ : Sl TSel).l))]⟩ : Sl TSel))]⟩ : Sl TOp) (Sl.nil : Sl TFrag))).bind fun x12 => (Z58 x12 (⟨false, [(TFault.mk (20 : Int) ([47, 98] : Bs)), (TFault.mk (21 : Int) ([47, 97] : Bs)), (TFault.mk (22 : Int) ([47, 97] : Bs))]⟩ : Sl TFault)).bind fun x13 => guardO ((x13 && x6.2)) (Z32 ([83, 116, 114, 105, 110, 103] : Bs)) TRef.zero fun x14 => guardO ((x13 && x6.2)) (Z33 x14) TRef.zero fun x15 => guardO ((x13 && x6.2)) (Z36 x6.1 x15) false fun x16 => some (((x13 && x6.2) && x16) && (!x9.2))
theorem Z16_walk    {r : Bool} (hE : Z16  = some r) (H : Heap)  : ACalls Tryz.prog 6 [] H fun v h' => v = .a (.d (.bool r)) ∧ h' = H := by
 unfold Z16 at hE
 refine ACalls.of_wp (fn := Tryz.f6) (c := _) Tryz.tab_ok (fun _ _ => Tryz.call6 _ _) Tryz.func6 rfl (n := 47) rfl (rs := [.tmp 0]) rfl rfl ?_
 refine seqK fun K1 hK1 => ?_
 refine region ?_
 refine s0 assignA rfl ?_
 refine nil ?_
 refine hK1 _ ?_
 clear hK1 K1
 refine seqK fun K2 hK2 => ?_
 refine region ?_
 refine s0 (build Tryz.tab_ok rfl rfl rfl rfl rfl rfl) rfl ?_
 refine s0 (build Tryz.tab_ok rfl rfl rfl rfl rfl rfl) rfl ?_
 refine s0 (buildSlice (TK rfl) rfl (TK rfl) rfl rfl rfl rfl rfl rfl) rfl ?_
 refine s0 (build Tryz.tab_ok rfl rfl rfl rfl rfl rfl) rfl ?_
 refine s0 (buildSlice (TK rfl) rfl (TK rfl) rfl rfl rfl rfl rfl rfl) rfl ?_
 refine s0 (build Tryz.tab_ok rfl rfl rfl rfl rfl rfl) rfl ?_
 refine s0 (buildSlice (TK rfl) rfl (TK rfl) rfl rfl rfl rfl rfl rfl) rfl ?_
 refine s0 (build Tryz.tab_ok rfl rfl rfl rfl rfl rfl) rfl ?_
 refine sL (allocLA (TK rfl) rfl) rfl ?_
 refine sLn (storeLFA (TK rfl) rfl rfl rfl rfl rfl) ?_
 refine nil ?_
 refine hK2 _ ?_
 clear hK2 K2
 refine freezeA 1 _ rfl Keeps.nil ?_
 refine seqK fun K3 hK3 => ?_
 refine region ?_
 refine s0 (build Tryz.tab_ok rfl rfl rfl rfl rfl rfl) rfl ?_
 refine s0 (build Tryz.tab_ok rfl rfl rfl rfl rfl rfl) rfl ?_
 refine s0 (build Tryz.tab_ok rfl rfl rfl rfl rfl rfl) rfl ?_
 refine s0 (buildSlice (TK rfl) rfl (TK rfl) rfl rfl rfl rfl rfl rfl) rfl ?_
 refine s0 assignA rfl ?_
 refine nil ?_
 refine hK3 _ ?_
 clear hK3 K3
 refine seqK fun K4 hK4 => ?_
 refine region ?_
 obtain ⟨x5, gx5, hE⟩ := bindO_some hE
 refine s0 (callP rfl rfl (fun H => Z18_walk gx5 H)) rfl ?_
 obtain ⟨x6, gx6, hE⟩ := bindO_some hE
 refine s0 (callP rfl rfl (fun H => Z1_walk gx6 H)) rfl ?_
 refine s0 moveA rfl ?_
 refine s0 (extract rfl rfl) rfl ?_
 refine s0 (extract rfl rfl) rfl ?_
 refine sL (allocLA (TK rfl) rfl) rfl ?_
 refine sLn (storeLFA (TK rfl) rfl rfl rfl rfl rfl) ?_
 refine s0 assignA rfl ?_
 refine nil ?_
 refine hK4 _ ?_
 clear hK4 K4
 refine freezeA 3 _ rfl (Keeps.c (k := 1) (by conv => lhs; whnf) (by rfl) (Keeps.c (k := 2) (by conv => lhs; whnf) (by rfl) (Keeps.c (k := 4) (by conv => lhs; whnf) (by rfl) Keeps.nil))) ?_
 refine seqK fun K7 hK7 => ?_
 refine region ?_
 obtain ⟨x8, gx8, hE⟩ := bindO_some hE
 refine s0 (callP rfl rfl (fun H => Z18_walk gx8 H)) rfl ?_
 obtain ⟨x9, gx9, hE⟩ := bindO_some hE
 refine s0 (callP rfl rfl (fun H => Z1_walk gx9 H)) rfl ?_
 refine s0 moveA rfl ?_
 refine s0 (extract rfl rfl) rfl ?_
 refine s0 (extract rfl rfl) rfl ?_
 refine sL (allocLA (TK rfl) rfl) rfl ?_
 refine sLn (storeLFA (TK rfl) rfl rfl rfl rfl rfl) ?_
 refine s0 assignA rfl ?_
 refine nil ?_
 refine hK7 _ ?_
 clear hK7 K7
 refine freezeA 5 _ rfl (Keeps.c (k := 1) (by conv => lhs; whnf) (by rfl) (Keeps.c (k := 2) (by conv => lhs; whnf) (by rfl) (Keeps.c (k := 3) (by conv => lhs; whnf) (by rfl) (Keeps.c (k := 4) (by conv => lhs; whnf) (by rfl) (Keeps.c (k := 6) (by conv => lhs; whnf) (by rfl) Keeps.nil))))) ?_
 refine seqK fun K10 hK10 => ?_
 refine AWp.draw rfl ?_
 obtain ⟨x11, gx11, hE⟩ := bindO_some hE
 refine DOps.s0 (callP rfl rfl (fun H => Z18_walk gx11 H)) rfl ?_
 refine DOps.s0 (loadV (TK rfl) rfl rfl rfl) rfl ?_
 obtain ⟨x12, gx12, hE⟩ := bindO_some hE
 refine DOps.s0 (callP rfl rfl (fun H => Z0_walk gx12 H)) rfl ?_
 refine DOps.s0 moveA rfl ?_
 obtain ⟨x13, gx13, hE⟩ := bindO_some hE
 refine DOps.s0 (callP rfl rfl (fun H => Z58_walk gx13 H)) rfl ?_
 refine DOps.s0 moveA rfl ?_
 refine DOps.gC rfl rfl (fun hC => moveA) rfl ?_
 refine DOps.s0 (pickAndA rfl rfl rfl) rfl ?_
 refine DOps.s0 moveA rfl ?_
 refine DOps.gC rfl rfl (fun hC => loadV (TK rfl) rfl rfl rfl) rfl ?_
 obtain ⟨x14, gx14, hE⟩ := guardO_some hE
 refine DOps.gC rfl rfl (fun hC => callP rfl rfl (fun H => Z32_walk (gx14 hC) H)) rfl ?_
 obtain ⟨x15, gx15, hE⟩ := guardO_some hE
 refine DOps.gC rfl rfl (fun hC => ungdA (k := 39) rfl (callP rfl rfl (fun H => Z33_walk (gx15 hC) H))) rfl ?_
 obtain ⟨x16, gx16, hE⟩ := guardO_some hE
 refine DOps.gC rfl rfl (fun hC => ungdA (k := 38) rfl (ungdA (k := 40) rfl (callP rfl rfl (fun H => Z36_walk (gx16 hC) H)))) rfl ?_
 refine DOps.s0 (pickAndA rfl rfl rfl) rfl ?_
 refine DOps.s0 moveA rfl ?_
 refine DOps.gC rfl rfl (fun hC => moveA) rfl ?_
 refine DOps.gC rfl rfl (fun hC => ungdA (k := 44) rfl (notB rfl)) rfl ?_
 refine DOps.s0 (pickAndA rfl rfl rfl) rfl ?_
 refine DOps.s0 assignA rfl ?_
 refine DOps.nil (by decide +kernel) ?_
 refine hK10 _ ?_
 clear hK10 K10
 refine AWp.ret ?_
 repeat (first | refine xBlock_ret ?_ | refine xThen_ret ?_)
 obtain rfl := Option.some.inj hE
 refine retQ.retF H rfl ⟨rfl, rfl⟩ ?_
 exact (fun _ _ h => h)
def Z65 (a0 : Int) : Option Bs := bif (decide (a0 = (1 : Int))) then (some ([81, 117, 101, 114, 121] : Bs)) else (bif (decide (a0 = (2 : Int))) then (some ([77, 117, 116, 97, 116, 105, 111, 110] : Bs)) else (bif (decide (a0 = (3 : Int))) then (some ([83, 117, 98, 115, 99, 114, 105, 112, 116, 105, 111, 110] : Bs)) else (some ([] : Bs))))
theorem Z65_walk {a0 : Int}   {r : Bs} (hE : Z65 a0 = some r) (H : Heap)  : ACalls Tryz.prog 28 [.d (.int .i64 a0)] H fun v h' => v = .a (.d (.str r)) ∧ h' = H := by
 unfold Z65 at hE
 refine ACalls.of_wp (fn := Tryz.f28) (c := _) Tryz.tab_ok (fun _ _ => Tryz.call28 _ _) Tryz.func28 rfl (n := 10) rfl (rs := [.tmp 2]) rfl rfl ?_
 refine seqK fun K1 hK1 => ?_
 refine region ?_
 refine s0 assignA rfl ?_
 refine nil ?_
 refine hK1 _ ?_
 clear hK1 K1
 refine seqK fun K2 hK2 => ?_
 refine seqK fun K3 hK3 => ?_
 refine region ?_
 refine s0 moveA rfl ?_
 refine nil ?_
 refine hK3 _ ?_
 clear hK3 K3
 refine block ?_
 refine seqK fun K4 hK4 => ?_
 refine region ?_
 refine s0 (binI rfl rfl rfl) rfl ?_
 refine s0 assignA rfl ?_
 refine nil ?_
 refine hK4 _ ?_
 clear hK4 K4
 refine condE hE rfl (fun hc5 hE => ?_) (fun hc5 hE => ?_)
 ·refine seqK fun K6 hK6 => ?_
  refine region ?_
  refine s0 assignA rfl ?_
  refine nil ?_
  refine hK6 _ ?_
  clear hK6 K6
  refine AWp.ret ?_
  repeat (first | refine xBlock_ret ?_ | refine xThen_ret ?_)
  obtain rfl := Option.some.inj hE
  refine retQ.retF H rfl ⟨rfl, rfl⟩ ?_
  exact (fun _ _ h => h)
 refine seqK fun K7 hK7 => ?_
 refine region ?_
 refine s0 (binI rfl rfl rfl) rfl ?_
 refine s0 assignA rfl ?_
 refine nil ?_
 refine hK7 _ ?_
 clear hK7 K7
 refine condE hE rfl (fun hc8 hE => ?_) (fun hc8 hE => ?_)
 ·refine seqK fun K9 hK9 => ?_
  refine region ?_
  refine s0 assignA rfl ?_
  refine nil ?_
  refine hK9 _ ?_
  clear hK9 K9
  refine AWp.ret ?_
  repeat (first | refine xBlock_ret ?_ | refine xThen_ret ?_)
  obtain rfl := Option.some.inj hE
  refine retQ.retF H rfl ⟨rfl, rfl⟩ ?_
  exact (fun _ _ h => h)
 refine seqK fun K10 hK10 => ?_
 refine region ?_
 refine s0 (binI rfl rfl rfl) rfl ?_
 refine s0 assignA rfl ?_
 refine nil ?_
 refine hK10 _ ?_
 clear hK10 K10
 refine condE hE rfl (fun hc11 hE => ?_) (fun hc11 hE => ?_)
 ·refine seqK fun K12 hK12 => ?_
  refine region ?_
  refine s0 assignA rfl ?_
  refine nil ?_
  refine hK12 _ ?_
  clear hK12 K12
  refine AWp.ret ?_
  repeat (first | refine xBlock_ret ?_ | refine xThen_ret ?_)
  obtain rfl := Option.some.inj hE
  refine retQ.retF H rfl ⟨rfl, rfl⟩ ?_
  exact (fun _ _ h => h)
 refine AWp.skip ?_
 refine hK2 _ ?_
 clear hK2 K2
 refine seqK fun K13 hK13 => ?_
 refine region ?_
 refine s0 assignA rfl ?_
 refine nil ?_
 refine hK13 _ ?_
 clear hK13 K13
 refine AWp.ret ?_
 repeat (first | refine xBlock_ret ?_ | refine xThen_ret ?_)
 obtain rfl := Option.some.inj hE
 refine retQ.retF H rfl ⟨rfl, rfl⟩ ?_
 exact (fun _ _ h => h)
def Z60_j2  (y3_l0 : TDef) : Option (TDef × Bool) := some ((TDef.mk (0 : Int) ([] : Bs) (Sl.nil : Sl Bs) (Sl.nil : Sl TDir) (Sl.nil : Sl TField) (Sl.nil : Sl TMember) (Sl.nil : Sl TInput)), false)
def Z60_l6 (a0 : TDoc) (a1 : Bs)  : Nat → Nat → TDef → Option (TDef × Bool)
 | 0, _, _ => none
 | n6 + 1, s6_7, y8_l0 => bif (decide (((s6_7 : Nat) : Int) < ((a0.FDefs.l.length : Nat) : Int))) then ((a0.FDefs.l[s6_7]?).bind fun x15 => bif ((x15.FName == a1)) then ((a0.FDefs.l[s6_7]?).bind fun x18 => some (x18, true)) else ((Z60_l6 a0 a1 n6) (s6_7 + 1) y8_l0)) else (Z60_j2   y8_l0)
def Z60 (a0 : TDoc) (a1 : Bs) : Option (TDef × Bool) := Z60_l6 a0 a1 (a0.FDefs.l.length + 1) 0 TDef.zero
theorem Z60_walk {a0 : TDoc} {a1 : Bs}   {r : (TDef × Bool)} (hE : Z60 a0 a1 = some r) (H : Heap)  : ACalls Tryz.prog 29 [.agg (TDoc.c a0), .d (.str a1)] H fun v h' => v = .tup [.agg (TDef.c r.1), .d (.bool r.2)] ∧ h' = H := by
 unfold Z60 at hE
 refine ACalls.of_wp (fn := Tryz.f29) (c := _) Tryz.tab_ok (fun _ _ => Tryz.call29 _ _) Tryz.func29 rfl (n := 28) rfl (rs := [.cell 4 70, .tmp 5]) rfl rfl ?_
 refine seqK fun K1 hK1 => ?_
 refine region ?_
 refine s0 (boxV rfl) rfl ?_
 refine sL (allocLA (TK rfl) rfl) rfl ?_
 refine s0 assignA rfl ?_
 refine nil ?_
 refine hK1 _ ?_
 clear hK1 K1
 refine seqJ (KeepsT.A (k := 4) KeepsT.nil) (fun (z : TDef) => []) (fun z => [TDef.c z]) (fun z => H) (fun z => Z60_j2 z = some r) ?_ ?_
 ·intro K2 hK2
  refine seqK fun K5 hK5 => ?_
  refine region ?_
  refine s0 assignA rfl ?_
  refine nil ?_
  refine hK5 _ ?_
  clear hK5 K5
  refine block ?_
  refine loopO (KeepsT.A (k := 1) (KeepsT.A (k := 2) (KeepsT.A (k := 4) KeepsT.nil))) (fun (z : Nat × Nat × TDef) => [(6, .a (.d (.int .i64 ((z.2.1 : Nat) : Int))))]) (fun z => [TDef.c z.2.2]) (fun z => H) (fun z => z.1) (fun z => Z60_l6 a0 a1 z.1 z.2.1 z.2.2 = some r) ((a0.FDefs.l.length + 1), 0, TDef.zero) hE Weak.toA ?_
  rintro ⟨n6, s6_7, y8_l0⟩ hE K6 hK6
  try dsimp only at hE
  cases n6 with
  | zero => cases hE
  | succ n6 =>
    rw [Z60_l6] at hE
    refine seqK fun K9 hK9 => ?_
    refine seqK fun K10 hK10 => ?_
    refine region ?_
    refine s0 moveA rfl ?_
    refine s0 (fieldVA (TK rfl) rfl rfl (TK rfl) rfl rfl) rfl ?_
    refine s0 (loadV (TK rfl) rfl rfl rfl) rfl ?_
    refine sLen (f := TDef.c) (s := a0.FDefs) (TK rfl) rfl rfl rfl rfl fun hL11 => ?_
    refine s0 (binI rfl rfl rfl) rfl ?_
    refine nil ?_
    refine hK10 _ ?_
    clear hK10 K10
    refine condE hE rfl (fun hc12 hE => ?_) (fun hc12 hE => ?_)
    ·try dsimp only at hc12
     have hf12 := of_decide_eq_true hc12
     refine AWp.skip ?_
     refine hK9 _ ?_
     clear hK9 K9
     refine seqK fun K13 hK13 => ?_
     refine block ?_
     refine seqK fun K14 hK14 => ?_
     refine region ?_
     refine s0 (fieldVA (TK rfl) rfl rfl (TK rfl) rfl rfl) rfl ?_
     refine s0 (loadV (TK rfl) rfl rfl rfl) rfl ?_
     refine s0 moveA rfl ?_
     obtain ⟨x15, gx15, hE⟩ := bindO_some hE
     refine s0 (idxMn (f := TDef.c) (n := s6_7) (TK rfl) rfl (TK rfl) rfl rfl rfl gx15) rfl ?_
     refine s0 (fieldVA (TK rfl) rfl rfl (TK rfl) rfl rfl) rfl ?_
     refine s0 (loadV (TK rfl) rfl rfl rfl) rfl ?_
     refine s0 moveA rfl ?_
     refine s0 (binS rfl rfl rfl) rfl ?_
     refine nil ?_
     refine hK14 _ ?_
     clear hK14 K14
     refine condE hE rfl (fun hc16 hE => ?_) (fun hc16 hE => ?_)
     ·refine seqK fun K17 hK17 => ?_
      refine region ?_
      refine s0 (fieldVA (TK rfl) rfl rfl (TK rfl) rfl rfl) rfl ?_
      refine s0 (loadV (TK rfl) rfl rfl rfl) rfl ?_
      refine s0 moveA rfl ?_
      obtain ⟨x18, gx18, hE⟩ := bindO_some hE
      refine s0 (idxMn (f := TDef.c) (n := s6_7) (TK rfl) rfl (TK rfl) rfl rfl rfl gx18) rfl ?_
      refine s0 (loadV (TK rfl) rfl rfl rfl) rfl ?_
      refine sLn (storeLFA (TK rfl) rfl rfl rfl rfl rfl) ?_
      refine s0 assignA rfl ?_
      refine nil ?_
      refine hK17 _ ?_
      clear hK17 K17
      refine AWp.ret ?_
      repeat (first | refine xBlock_ret ?_ | refine xThen_ret ?_)
      obtain rfl := Option.some.inj hE
      refine retQ.retF H rfl ⟨rfl, rfl⟩ ?_
      exact (fun _ _ h => h)
     refine AWp.skip ?_
     refine hK13 _ ?_
     clear hK13 K13
     refine region ?_
     refine s0 moveA rfl ?_
     refine s0 (addIA rfl rfl) rfl ?_
     refine s0 assignA rfl ?_
     refine nil ?_
     exact hK6 _ (n6, (s6_7 + 1), y8_l0) Weak.toA hE (Nat.lt_succ_self _)
    refine AWp.exit ?_
    exact hK2 _ y8_l0 Weak.toA hE
 rintro y3_l0 hE
 try dsimp only at hE
 unfold Z60_j2 at hE
 refine seqK fun K4 hK4 => ?_
 refine region ?_
 refine s0 (build Tryz.tab_ok rfl rfl rfl rfl rfl rfl) rfl ?_
 refine sLn (storeLFA (TK rfl) rfl rfl rfl rfl rfl) ?_
 refine s0 assignA rfl ?_
 refine nil ?_
 refine hK4 _ ?_
 clear hK4 K4
 refine AWp.ret ?_
 repeat (first | refine xBlock_ret ?_ | refine xThen_ret ?_)
 obtain rfl := Option.some.inj hE
 refine retQ.retF H rfl ⟨rfl, rfl⟩ ?_
 exact (fun _ _ h => h)
def Z75_j2   : Option Bool := some false
def Z75_l5 (a0 : (Sl Bs)) (a1 : Bs)  : Nat → Nat → Option Bool
 | 0, _ => none
 | n5 + 1, s5_6 => bif (decide (((s5_6 : Nat) : Int) < ((a0.l.length : Nat) : Int))) then ((a0.l[s5_6]?).bind fun x13 => bif ((x13 == a1)) then (some true) else ((Z75_l5 a0 a1 n5) (s5_6 + 1))) else (Z75_j2   )
def Z75 (a0 : (Sl Bs)) (a1 : Bs) : Option Bool := Z75_l5 a0 a1 (a0.l.length + 1) 0
theorem Z75_walk {a0 : (Sl Bs)} {a1 : Bs} {w0 : Option Nat}  {r : Bool} (hE : Z75 a0 a1 = some r) (H : Heap)  : ACalls Tryz.prog 60 [.d (Sl.d 1 strE w0 a0), .d (.str a1)] H fun v h' => v = .a (.d (.bool r)) ∧ h' = H := by
 unfold Z75 at hE
 refine ACalls.of_wp (fn := Tryz.f60) (c := _) Tryz.tab_ok (fun _ _ => Tryz.call60 _ _) Tryz.func60 rfl (n := 18) rfl (rs := [.tmp 4]) rfl rfl ?_
 refine seqK fun K1 hK1 => ?_
 refine region ?_
 refine s0 assignA rfl ?_
 refine nil ?_
 refine hK1 _ ?_
 clear hK1 K1
 refine seqJH KeepsT.nil (fun (z : Unit) => []) (fun z => H) (fun z => Z75_j2  = some r) ?_ ?_
 ·intro K2 hK2
  refine seqK fun K4 hK4 => ?_
  refine region ?_
  refine s0 assignA rfl ?_
  refine nil ?_
  refine hK4 _ ?_
  clear hK4 K4
  refine block ?_
  refine loopH (KeepsT.A (k := 0) (KeepsT.A (k := 1) KeepsT.nil)) (fun (z : Nat × Nat) => [(5, .a (.d (.int .i64 ((z.2 : Nat) : Int))))]) (fun z => H) (fun z => z.1) (fun z => Z75_l5 a0 a1 z.1 z.2 = some r) ((a0.l.length + 1), 0) hE Weak.toA ?_
  rintro ⟨n5, s5_6⟩ hE K5 hK5
  try dsimp only at hE
  cases n5 with
  | zero => cases hE
  | succ n5 =>
    rw [Z75_l5] at hE
    refine seqK fun K7 hK7 => ?_
    refine seqK fun K8 hK8 => ?_
    refine region ?_
    refine s0 moveA rfl ?_
    refine s0 moveA rfl ?_
    refine sLen (f := strE) (s := a0) (TK rfl) rfl rfl rfl rfl fun hL9 => ?_
    refine s0 (binI rfl rfl rfl) rfl ?_
    refine nil ?_
    refine hK8 _ ?_
    clear hK8 K8
    refine condE hE rfl (fun hc10 hE => ?_) (fun hc10 hE => ?_)
    ·try dsimp only at hc10
     have hf10 := of_decide_eq_true hc10
     refine AWp.skip ?_
     refine hK7 _ ?_
     clear hK7 K7
     refine seqK fun K11 hK11 => ?_
     refine block ?_
     refine seqK fun K12 hK12 => ?_
     refine region ?_
     refine s0 moveA rfl ?_
     refine s0 moveA rfl ?_
     obtain ⟨x13, gx13, hE⟩ := bindO_some hE
     refine s0 (idxMn (f := strE) (n := s5_6) (TK rfl) rfl (TK rfl) rfl rfl rfl gx13) rfl ?_
     refine s0 (loadV (TK rfl) rfl rfl rfl) rfl ?_
     refine s0 moveA rfl ?_
     refine s0 (binS rfl rfl rfl) rfl ?_
     refine nil ?_
     refine hK12 _ ?_
     clear hK12 K12
     refine condE hE rfl (fun hc14 hE => ?_) (fun hc14 hE => ?_)
     ·refine seqK fun K15 hK15 => ?_
      refine region ?_
      refine s0 assignA rfl ?_
      refine nil ?_
      refine hK15 _ ?_
      clear hK15 K15
      refine AWp.ret ?_
      repeat (first | refine xBlock_ret ?_ | refine xThen_ret ?_)
      obtain rfl := Option.some.inj hE
      refine retQ.retF H rfl ⟨rfl, rfl⟩ ?_
      exact (fun _ _ h => h)
     refine AWp.skip ?_
     refine hK11 _ ?_
     clear hK11 K11
     refine region ?_
     refine s0 moveA rfl ?_
     refine s0 (addIA rfl rfl) rfl ?_
     refine s0 assignA rfl ?_
     refine nil ?_
     exact hK5 _ (n5, (s5_6 + 1)) Weak.toA hE (Nat.lt_succ_self _)
    refine AWp.exit ?_
    exact hK2 _ () Weak.toA hE
 rintro _ hE
 try dsimp only at hE
 unfold Z75_j2 at hE
 refine seqK fun K3 hK3 => ?_
 refine region ?_
 refine s0 assignA rfl ?_
 refine nil ?_
 refine hK3 _ ?_
 clear hK3 K3
 refine AWp.ret ?_
 repeat (first | refine xBlock_ret ?_ | refine xThen_ret ?_)
 obtain rfl := Option.some.inj hE
 refine retQ.retF H rfl ⟨rfl, rfl⟩ ?_
 exact (fun _ _ h => h)
def Z68 (a0 : TSel) : Option Bs := bif (!(a0.FAlias == ([] : Bs))) then (some a0.FAlias) else (some a0.FName)
theorem Z68_walk {a0 : TSel}   {r : Bs} (hE : Z68 a0 = some r) (H : Heap)  : ACalls Tryz.prog 61 [.agg (TSel.c a0)] H fun v h' => v = .a (.d (.str r)) ∧ h' = H := by
 unfold Z68 at hE
 refine ACalls.of_wp (fn := Tryz.f61) (c := _) Tryz.tab_ok (fun _ _ => Tryz.call61 _ _) Tryz.func61 rfl (n := 10) rfl (rs := [.tmp 2]) rfl rfl ?_
 refine seqK fun K1 hK1 => ?_
 refine region ?_
 refine s0 (boxV rfl) rfl ?_
 refine s0 assignA rfl ?_
 refine nil ?_
 refine hK1 _ ?_
 clear hK1 K1
 refine seqK fun K2 hK2 => ?_
 refine seqK fun K3 hK3 => ?_
 refine region ?_
 refine s0 (fieldVA (TK rfl) rfl rfl (TK rfl) rfl rfl) rfl ?_
 refine s0 (loadV (TK rfl) rfl rfl rfl) rfl ?_
 refine s0 (binS rfl rfl rfl) rfl ?_
 refine nil ?_
 refine hK3 _ ?_
 clear hK3 K3
 refine condE hE rfl (fun hc4 hE => ?_) (fun hc4 hE => ?_)
 ·refine seqK fun K5 hK5 => ?_
  refine region ?_
  refine s0 (fieldVA (TK rfl) rfl rfl (TK rfl) rfl rfl) rfl ?_
  refine s0 (loadV (TK rfl) rfl rfl rfl) rfl ?_
  refine s0 assignA rfl ?_
  refine nil ?_
  refine hK5 _ ?_
  clear hK5 K5
  refine AWp.ret ?_
  repeat (first | refine xBlock_ret ?_ | refine xThen_ret ?_)
  obtain rfl := Option.some.inj hE
  refine retQ.retF H rfl ⟨rfl, rfl⟩ ?_
  exact (fun _ _ h => h)
 refine AWp.skip ?_
 refine hK2 _ ?_
 clear hK2 K2
 refine seqK fun K6 hK6 => ?_
 refine region ?_
 refine s0 (fieldVA (TK rfl) rfl rfl (TK rfl) rfl rfl) rfl ?_
 refine s0 (loadV (TK rfl) rfl rfl rfl) rfl ?_
 refine s0 assignA rfl ?_
 refine nil ?_
 refine hK6 _ ?_
 clear hK6 K6
 refine AWp.ret ?_
 repeat (first | refine xBlock_ret ?_ | refine xThen_ret ?_)
 obtain rfl := Option.some.inj hE
 refine retQ.retF H rfl ⟨rfl, rfl⟩ ?_
 exact (fun _ _ h => h)
end Go.Proofs
