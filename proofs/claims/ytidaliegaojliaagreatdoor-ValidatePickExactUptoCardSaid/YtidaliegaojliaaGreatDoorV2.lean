import Derived.Test.YtidaliegaojliaaGreatDoorV1
set_option maxRecDepth 100000
set_option maxHeartbeats 2000000
set_option linter.unusedVariables false
set_option linter.unusedSimpArgs false
namespace Go.Proofs
open Go Go.Ab
open AOps Cert AWp
def Z9 (a0 : Bs) (a1 : Bs) : Option Bool := guardO ((decide (((a1.length : Nat) : Int) ≤ ((a0.length : Nat) : Int)))) (cutC a0 none (some ((a1.length : Nat) : Int))) ([] : Bs) fun x5 => some ((decide (((a1.length : Nat) : Int) ≤ ((a0.length : Nat) : Int))) && ((x5 == a1)))
theorem Z9_walk {a0 : Bs} {a1 : Bs}   {r : Bool} (hE : Z9 a0 a1 = some r) (H : Heap)  : ACalls Tryz.prog 159 [.d (.str a0), .d (.str a1)] H fun v h' => v = .a (.d (.bool r)) ∧ h' = H := by
 unfold Z9 at hE
 refine ACalls.of_wp (fn := Tryz.f159) (c := _) Tryz.tab_ok (fun _ _ => Tryz.call159 _ _) Tryz.func159 rfl (n := 18) rfl (rs := [.tmp 4]) rfl rfl ?_
 refine seqK fun K1 hK1 => ?_
 refine region ?_
 refine s0 assignA rfl ?_
 refine nil ?_
 refine hK1 _ ?_
 clear hK1 K1
 refine seqK fun K2 hK2 => ?_
 refine region ?_
 refine s0 moveA rfl ?_
 refine sLenS (TK rfl) rfl rfl rfl rfl fun hL3 => ?_
 refine s0 moveA rfl ?_
 refine sLenS (TK rfl) rfl rfl rfl rfl fun hL4 => ?_
 refine s0 (binI rfl rfl rfl) rfl ?_
 refine s0 moveA rfl ?_
 refine gC rfl rfl (fun hC => moveA) rfl ?_
 refine gC rfl rfl (fun hC => moveA) rfl ?_
 refine gC rfl rfl (fun hC => ungdA (k := 12) rfl (lenS (TK rfl) rfl rfl rfl)) rfl ?_
 obtain ⟨x5, gx5, hE⟩ := guardO_some hE
 refine gC rfl rfl (fun hC => ungdA (k := 11) rfl (ungdA (k := 13) rfl (cutM (l := none) (r := (some ((a1.length : Nat) : Int))) (TK rfl) rfl rfl trivial rfl (by simp) (gx5 hC)))) rfl ?_
 refine gC rfl rfl (fun hC => moveA) rfl ?_
 refine gC rfl rfl (fun hC => ungdA (k := 14) rfl (ungdA (k := 15) rfl (binS rfl rfl rfl))) rfl ?_
 refine s0 (pickAndA rfl rfl rfl) rfl ?_
 refine s0 assignA rfl ?_
 refine nil ?_
 refine hK2 _ ?_
 clear hK2 K2
 refine AWp.ret ?_
 repeat (first | refine xBlock_ret ?_ | refine xThen_ret ?_)
 obtain rfl := Option.some.inj hE
 refine retQ.retF H rfl ⟨rfl, rfl⟩ ?_
 exact (fun _ _ h => h)
def Z33 (a0 : Bs) (a1 : Bs) : Option Bool := (Z9 a0 a1).bind fun x3 => some x3
theorem Z33_walk {a0 : Bs} {a1 : Bs}   {r : Bool} (hE : Z33 a0 a1 = some r) (H : Heap)  : ACalls Tryz.prog 135 [.d (.str a0), .d (.str a1)] H fun v h' => v = .a (.d (.bool r)) ∧ h' = H := by
 unfold Z33 at hE
 refine ACalls.of_wp (fn := Tryz.f135) (c := _) Tryz.tab_ok (fun _ _ => Tryz.call135 _ _) Tryz.func135 rfl (n := 8) rfl (rs := [.tmp 4]) rfl rfl ?_
 refine seqK fun K1 hK1 => ?_
 refine region ?_
 refine s0 assignA rfl ?_
 refine nil ?_
 refine hK1 _ ?_
 clear hK1 K1
 refine seqK fun K2 hK2 => ?_
 refine region ?_
 refine s0 moveA rfl ?_
 refine s0 moveA rfl ?_
 obtain ⟨x3, gx3, hE⟩ := bindO_some hE
 refine s0 (callP rfl rfl (fun H => Z9_walk gx3 H)) rfl ?_
 refine s0 assignA rfl ?_
 refine nil ?_
 refine hK2 _ ?_
 clear hK2 K2
 refine AWp.ret ?_
 repeat (first | refine xBlock_ret ?_ | refine xThen_ret ?_)
 obtain rfl := Option.some.inj hE
 refine retQ.retF H rfl ⟨rfl, rfl⟩ ?_
 exact (fun _ _ h => h)
def Z35 (a0 : Bs) : Option Bool := (Z33 a0 ([95, 95] : Bs)).bind fun x3 => some x3
theorem Z35_walk {a0 : Bs}   {r : Bool} (hE : Z35 a0 = some r) (H : Heap)  : ACalls Tryz.prog 100 [.d (.str a0)] H fun v h' => v = .a (.d (.bool r)) ∧ h' = H := by
 unfold Z35 at hE
 refine ACalls.of_wp (fn := Tryz.f100) (c := _) Tryz.tab_ok (fun _ _ => Tryz.call100 _ _) Tryz.func100 rfl (n := 5) rfl (rs := [.tmp 2]) rfl rfl ?_
 refine seqK fun K1 hK1 => ?_
 refine region ?_
 refine s0 assignA rfl ?_
 refine nil ?_
 refine hK1 _ ?_
 clear hK1 K1
 refine seqK fun K2 hK2 => ?_
 refine region ?_
 refine s0 moveA rfl ?_
 obtain ⟨x3, gx3, hE⟩ := bindO_some hE
 refine s0 (callP rfl rfl (fun H => Z33_walk gx3 H)) rfl ?_
 refine s0 assignA rfl ?_
 refine nil ?_
 refine hK2 _ ?_
 clear hK2 K2
 refine AWp.ret ?_
 repeat (first | refine xBlock_ret ?_ | refine xThen_ret ?_)
 obtain rfl := Option.some.inj hE
 refine retQ.retF H rfl ⟨rfl, rfl⟩ ?_
 exact (fun _ _ h => h)
def Z24 (a0 : Schema_checker) (a1 : TDef) : Option Bool := none
theorem Z24_walk {a0 : Schema_checker} {a1 : TDef} {q0_1 : Option Nat} {c0 : Nat} {r : Bool} (hE : Z24 a0 a1 = some r) (H : Heap) (hc0 : H c0 = some (.cells (Schema_checker.cg q0_1 a0))) : ACalls Tryz.prog 101 [.d (.ptr c0 0), .agg (TDef.c a1)] H fun v h' => v = .a (.d (.bool r)) ∧ h' = H := by cases hE
def Z26 (a0 : Schema_checker) (a1 : Bs) (a2 : Bs) (a3 : (List Bs)) : Option (Schema_checker × (List Bs)) := (Z34 a1).bind fun x2 => guardO (!(!x2)) (Z35 a1) false fun x3 => (Z20 a0 ((!x2) || x3) (6 : Int) a2).bind fun x4 => (Z20 x4 (a3.contains a1) (7 : Int) a2).bind fun x6 => some (x6, (insS a3 a1))
theorem Z26_walk {a0 : Schema_checker} {a1 : Bs} {a2 : Bs} {a3 : (List Bs)}  {c0 : Nat} {c0_1 : Nat} {c3 : Nat} {r : (Schema_checker × (List Bs))} (hE : Z26 a0 a1 a2 a3 = some r) (H : Heap) (hc0 : H c0 = some (.cells (Schema_checker.cg (some c0_1) a0))) (ht0_1 : H c0_1 = some (.tok 2 a0.Ffaults.l.length)) (hc3 : H c3 = some (.map (seenM a3))) : ACalls Tryz.prog 137 [.d (.ptr c0 0), .d (.str a1), .d (.str a2), .d (.map c3)] H fun v h' => v = .tup [] ∧ h' = (((H.set c0_1 (some (.tok 2 r.1.Ffaults.l.length))).set c0 (some (.cells (Schema_checker.cg (some c0_1) r.1)))).set c3 (some (.map (seenM r.2)))) := by
 unfold Z26 at hE
 refine ACalls.of_wp (fn := Tryz.f137) (c := _) Tryz.tab_ok (fun _ _ => Tryz.call137 _ _) Tryz.func137 rfl (n := 26) rfl (rs := []) rfl rfl ?_
 have ne_c0_c0_1 : c0 ≠ c0_1 := fun e_ => by subst e_; simp_all
 have ne_c3_c0_1 : c3 ≠ c0_1 := fun e_ => by subst e_; simp_all
 have ne_c3_c0 : c3 ≠ c0 := fun e_ => by subst e_; simp_all
 refine AWp.heqA (h' := (((H.set c0_1 (some (.tok 2 a0.Ffaults.l.length))).set c0 (some (.cells (Schema_checker.cg (some c0_1) a0)))).set c3 (some (.map (seenM a3))))) (by funext n_; simp only [Heap.set]; (repeat' split) <;> simp_all) ?_
 refine seqK fun K1 hK1 => ?_
 refine region ?_
 refine s0 moveA rfl ?_
 refine s0 moveA rfl ?_
 obtain ⟨x2, gx2, hE⟩ := bindO_some hE
 refine s0 (callP rfl rfl (fun H => Z34_walk gx2 H)) rfl ?_
 refine s0 (notB rfl) rfl ?_
 refine s0 moveA rfl ?_
 refine gC rfl rfl (fun hC => moveA) rfl ?_
 obtain ⟨x3, gx3, hE⟩ := guardO_some hE
 refine gC rfl rfl (fun hC => ungdA (k := 13) rfl (callP rfl rfl (fun H => Z35_walk (gx3 hC) H))) rfl ?_
 refine s0 (pickOrA rfl rfl rfl) rfl ?_
 refine s0 moveA rfl ?_
 obtain ⟨x4, gx4, hE⟩ := bindO_some hE
 refine sH (callH rfl rfl (Z20_walk gx4 _ hpG hpG)) rfl ?_
 refine AOps.heq (h' := (((H.set c0_1 (some (.tok 2 x4.Ffaults.l.length))).set c0 (some (.cells (Schema_checker.cg (some c0_1) x4)))).set c3 (some (.map (seenM a3))))) (by first | rfl | (rw [Heap.set_set]; rfl) | (funext n_; simp only [Heap.set]; (repeat' split) <;> first | rfl | (exfalso; simp_all; done) | (simp_all; done))) ?_
 refine nil ?_
 refine hK1 _ ?_
 clear hK1 K1
 refine seqK fun K5 hK5 => ?_
 refine region ?_
 refine s0 moveA rfl ?_
 refine s0 moveA rfl ?_
 refine s0 moveA rfl ?_
 refine s0 (lookupSeen (TK rfl) rfl (TK rfl) (TK rfl) rfl rfl rfl rfl hpG) rfl ?_
 refine s0 moveA rfl ?_
 obtain ⟨x6, gx6, hE⟩ := bindO_some hE
 refine sH (callH rfl rfl (Z20_walk gx6 _ hpG hpG)) rfl ?_
 refine AOps.heq (h' := (((H.set c0_1 (some (.tok 2 x6.Ffaults.l.length))).set c0 (some (.cells (Schema_checker.cg (some c0_1) x6)))).set c3 (some (.map (seenM a3))))) (by first | rfl | (rw [Heap.set_set]; rfl) | (funext n_; simp only [Heap.set]; (repeat' split) <;> first | rfl | (exfalso; simp_all; done) | (simp_all; done))) ?_
 refine nil ?_
 refine hK5 _ ?_
 clear hK5 K5
 refine region ?_
 refine s0 moveA rfl ?_
 refine s0 moveA rfl ?_
 refine sHn (mapUpdate (TK rfl) rfl (TK rfl) rfl rfl rfl rfl hpG (seen_upd _ _) rfl) rfl rfl ?_
 refine AOps.heq (h' := (((H.set c0_1 (some (.tok 2 x6.Ffaults.l.length))).set c0 (some (.cells (Schema_checker.cg (some c0_1) x6)))).set c3 (some (.map (seenM (insS a3 a1)))))) (by first | rfl | (rw [Heap.set_set]; rfl) | (funext n_; simp only [Heap.set]; (repeat' split) <;> first | rfl | (exfalso; simp_all; done) | (simp_all; done))) ?_
 refine nil ?_
 repeat (first | refine xBlock_normal ?_ | refine xThen_exit ?_ | refine xBlock_exit ?_)
 obtain rfl := Option.some.inj hE
 refine retQ.normalF (((H.set c0_1 (some (.tok 2 x6.Ffaults.l.length))).set c0 (some (.cells (Schema_checker.cg (some c0_1) x6)))).set c3 (some (.map (seenM (insS a3 a1))))) (xs := []) rfl ⟨rfl, rfl⟩ ?_
 exact (fun _ _ h => h)
def Z28 (a0 : TDoc) (a1 : Bs) : Option Int := (Z15 a0 a1).bind fun x3 => some x3.1.FKind
theorem Z28_walk {a0 : TDoc} {a1 : Bs}   {r : Int} (hE : Z28 a0 a1 = some r) (H : Heap)  : ACalls Tryz.prog 82 [.agg (TDoc.c a0), .d (.str a1)] H fun v h' => v = .a (.d (.int .i64 r)) ∧ h' = H := by
 unfold Z28 at hE
 refine ACalls.of_wp (fn := Tryz.f82) (c := _) Tryz.tab_ok (fun _ _ => Tryz.call82 _ _) Tryz.func82 rfl (n := 15) rfl (rs := [.tmp 4]) rfl rfl ?_
 refine seqK fun K1 hK1 => ?_
 refine region ?_
 refine s0 (boxV rfl) rfl ?_
 refine s0 assignA rfl ?_
 refine nil ?_
 refine hK1 _ ?_
 clear hK1 K1
 refine seqK fun K2 hK2 => ?_
 refine region ?_
 refine s0 (loadV (TK rfl) rfl rfl rfl) rfl ?_
 refine s0 moveA rfl ?_
 obtain ⟨x3, gx3, hE⟩ := bindO_some hE
 refine s0 (callP rfl rfl (fun H => Z15_walk gx3 H)) rfl ?_
 refine s0 moveA rfl ?_
 refine s0 (extract rfl rfl) rfl ?_
 refine s0 (extract rfl rfl) rfl ?_
 refine sL (allocLA (TK rfl) rfl) rfl ?_
 refine sLn (storeLFA (TK rfl) rfl rfl rfl rfl rfl) ?_
 refine s0 assignA rfl ?_
 refine nil ?_
 refine hK2 _ ?_
 clear hK2 K2
 refine freezeA 5 _ rfl Keeps.nil ?_
 refine seqK fun K4 hK4 => ?_
 refine region ?_
 refine s0 (fieldVA (TK rfl) rfl rfl (TK rfl) rfl rfl) rfl ?_
 refine s0 (loadV (TK rfl) rfl rfl rfl) rfl ?_
 refine s0 assignA rfl ?_
 refine nil ?_
 refine hK4 _ ?_
 clear hK4 K4
 refine AWp.ret ?_
 repeat (first | refine xBlock_ret ?_ | refine xThen_ret ?_)
 obtain rfl := Option.some.inj hE
 refine retQ.retF H rfl ⟨rfl, rfl⟩ ?_
 exact (fun _ _ h => h)
def Z17 (a0 : TDoc) (a1 : Bs) : Option Bool := (Z19 a1).bind fun x3 => guardO (!x3) (Z28 a0 a1) (0 : Int) fun x4 => some (x3 || (decide (x4 = (4 : Int))))
theorem Z17_walk {a0 : TDoc} {a1 : Bs}   {r : Bool} (hE : Z17 a0 a1 = some r) (H : Heap)  : ACalls Tryz.prog 124 [.agg (TDoc.c a0), .d (.str a1)] H fun v h' => v = .a (.d (.bool r)) ∧ h' = H := by
 unfold Z17 at hE
 refine ACalls.of_wp (fn := Tryz.f124) (c := _) Tryz.tab_ok (fun _ _ => Tryz.call124 _ _) Tryz.func124 rfl (n := 13) rfl (rs := [.tmp 4]) rfl rfl ?_
 refine seqK fun K1 hK1 => ?_
 refine region ?_
 refine s0 (boxV rfl) rfl ?_
 refine s0 assignA rfl ?_
 refine nil ?_
 refine hK1 _ ?_
 clear hK1 K1
 refine seqK fun K2 hK2 => ?_
 refine region ?_
 refine s0 moveA rfl ?_
 obtain ⟨x3, gx3, hE⟩ := bindO_some hE
 refine s0 (callP rfl rfl (fun H => Z19_walk gx3 H)) rfl ?_
 refine s0 moveA rfl ?_
 refine gC rfl rfl (fun hC => loadV (TK rfl) rfl rfl rfl) rfl ?_
 refine gC rfl rfl (fun hC => moveA) rfl ?_
 obtain ⟨x4, gx4, hE⟩ := guardO_some hE
 refine gC rfl rfl (fun hC => ungdA (k := 8) rfl (ungdA (k := 9) rfl (callP rfl rfl (fun H => Z28_walk (gx4 hC) H)))) rfl ?_
 refine gC rfl rfl (fun hC => ungdA (k := 10) rfl (binI rfl rfl rfl)) rfl ?_
 refine s0 (pickOrA rfl rfl rfl) rfl ?_
 refine s0 assignA rfl ?_
 refine nil ?_
 refine hK2 _ ?_
 clear hK2 K2
 refine AWp.ret ?_
 repeat (first | refine xBlock_ret ?_ | refine xThen_ret ?_)
 obtain rfl := Option.some.inj hE
 refine retQ.retF H rfl ⟨rfl, rfl⟩ ?_
 exact (fun _ _ h => h)
def Z16 (a0 : TDoc) (a1 : Bs) : Option Bool := (Z17 a0 a1).bind fun x3 => guardO (!x3) (Z28 a0 a1) (0 : Int) fun x4 => some (x3 || (decide (x4 = (5 : Int))))
theorem Z16_walk {a0 : TDoc} {a1 : Bs}   {r : Bool} (hE : Z16 a0 a1 = some r) (H : Heap)  : ACalls Tryz.prog 95 [.agg (TDoc.c a0), .d (.str a1)] H fun v h' => v = .a (.d (.bool r)) ∧ h' = H := by
 unfold Z16 at hE
 refine ACalls.of_wp (fn := Tryz.f95) (c := _) Tryz.tab_ok (fun _ _ => Tryz.call95 _ _) Tryz.func95 rfl (n := 14) rfl (rs := [.tmp 4]) rfl rfl ?_
 refine seqK fun K1 hK1 => ?_
 refine region ?_
 refine s0 (boxV rfl) rfl ?_
 refine s0 assignA rfl ?_
 refine nil ?_
 refine hK1 _ ?_
 clear hK1 K1
 refine seqK fun K2 hK2 => ?_
 refine region ?_
 refine s0 (loadV (TK rfl) rfl rfl rfl) rfl ?_
 refine s0 moveA rfl ?_
 obtain ⟨x3, gx3, hE⟩ := bindO_some hE
 refine s0 (callP rfl rfl (fun H => Z17_walk gx3 H)) rfl ?_
 refine s0 moveA rfl ?_
 refine gC rfl rfl (fun hC => loadV (TK rfl) rfl rfl rfl) rfl ?_
 refine gC rfl rfl (fun hC => moveA) rfl ?_
 obtain ⟨x4, gx4, hE⟩ := guardO_some hE
 refine gC rfl rfl (fun hC => ungdA (k := 9) rfl (ungdA (k := 10) rfl (callP rfl rfl (fun H => Z28_walk (gx4 hC) H)))) rfl ?_
 refine gC rfl rfl (fun hC => ungdA (k := 11) rfl (binI rfl rfl rfl)) rfl ?_
 refine s0 (pickOrA rfl rfl rfl) rfl ?_
 refine s0 assignA rfl ?_
 refine nil ?_
 refine hK2 _ ?_
 clear hK2 K2
 refine AWp.ret ?_
 repeat (first | refine xBlock_ret ?_ | refine xThen_ret ?_)
 obtain rfl := Option.some.inj hE
 refine retQ.retF H rfl ⟨rfl, rfl⟩ ?_
 exact (fun _ _ h => h)
def Z27 (a0 : Schema_checker) (a1 : Bs) (a2 : Bs) (a3 : Int) : Option Schema_checker := (Z15 a0.Fd a1).bind fun x2 => guardO ((!x2.2)) (Z19 a1) false fun x4 => bif ((!x2.2) && (!x4)) then ((Z20 a0 true (8 : Int) a2).bind fun x6 => some x6) else (bif (decide (a3 = (0 : Int))) then ((Z19 a1).bind fun x9 => guardO ((!x9)) (Z28 a0.Fd a1) (0 : Int) fun x10 => (Z20 a0 ((!x9) && (decide (x10 = (5 : Int)))) (10 : Int) a2).bind fun x11 => some x11) else ((Z16 a0.Fd a1).bind fun x12 => (Z20 a0 (!x12) (10 : Int) a2).bind fun x13 => some x13))
theorem Z27_walk {a0 : Schema_checker} {a1 : Bs} {a2 : Bs} {a3 : Int}  {c0 : Nat} {c0_1 : Nat} {r : Schema_checker} (hE : Z27 a0 a1 a2 a3 = some r) (H : Heap) (hc0 : H c0 = some (.cells (Schema_checker.cg (some c0_1) a0))) (ht0_1 : H c0_1 = some (.tok 2 a0.Ffaults.l.length)) : ACalls Tryz.prog 138 [.d (.ptr c0 0), .d (.str a1), .d (.str a2), .d (.int .i64 a3)] H fun v h' => v = .tup [] ∧ h' = ((H.set c0_1 (some (.tok 2 r.Ffaults.l.length))).set c0 (some (.cells (Schema_checker.cg (some c0_1) r)))) := by
 unfold Z27 at hE
 refine ACalls.of_wp (fn := Tryz.f138) (c := _) Tryz.tab_ok (fun _ _ => Tryz.call138 _ _) Tryz.func138 rfl (n := 58) rfl (rs := []) rfl rfl ?_
 have ne_c0_c0_1 : c0 ≠ c0_1 := fun e_ => by subst e_; simp_all
 refine AWp.heqA (h' := ((H.set c0_1 (some (.tok 2 a0.Ffaults.l.length))).set c0 (some (.cells (Schema_checker.cg (some c0_1) a0))))) (by funext n_; simp only [Heap.set]; (repeat' split) <;> simp_all) ?_
 refine seqK fun K1 hK1 => ?_
 refine region ?_
 refine s0 moveA rfl ?_
 refine s0 (nilP rfl) rfl ?_
 refine s0 (fieldP (TK rfl) rfl rfl (TK rfl) rfl rfl) rfl ?_
 refine s0 (loadP (TK rfl) rfl rfl hpG rfl) rfl ?_
 refine s0 moveA rfl ?_
 obtain ⟨x2, gx2, hE⟩ := bindO_some hE
 refine s0 (callP rfl rfl (fun H => Z15_walk gx2 H)) rfl ?_
 refine s0 moveA rfl ?_
 refine s0 (extract rfl rfl) rfl ?_
 refine s0 (extract rfl rfl) rfl ?_
 refine sL (allocLA (TK rfl) rfl) rfl ?_
 refine sLn (storeLFA (TK rfl) rfl rfl rfl rfl rfl) ?_
 refine s0 assignA rfl ?_
 refine nil ?_
 refine hK1 _ ?_
 clear hK1 K1
 refine freezeA 8 _ rfl (Keeps.c (k := 0) (by conv => lhs; whnf) (by rfl) (Keeps.c (k := 1) (by conv => lhs; whnf) (by rfl) (Keeps.c (k := 2) (by conv => lhs; whnf) (by rfl) (Keeps.c (k := 3) (by conv => lhs; whnf) (by rfl) (Keeps.c (k := 9) (by conv => lhs; whnf) (by rfl) Keeps.nil))))) ?_
 refine block ?_
 refine seqK fun K3 hK3 => ?_
 refine region ?_
 refine s0 moveA rfl ?_
 refine s0 (notB rfl) rfl ?_
 refine s0 moveA rfl ?_
 refine gC rfl rfl (fun hC => moveA) rfl ?_
 obtain ⟨x4, gx4, hE⟩ := guardO_some hE
 refine gC rfl rfl (fun hC => ungdA (k := 33) rfl (callP rfl rfl (fun H => Z19_walk (gx4 hC) H))) rfl ?_
 refine gC rfl rfl (fun hC => ungdA (k := 34) rfl (notB rfl)) rfl ?_
 refine s0 (pickAndA rfl rfl rfl) rfl ?_
 refine s0 assignA rfl ?_
 refine nil ?_
 refine hK3 _ ?_
 clear hK3 K3
 refine condE hE rfl (fun hc5 hE => ?_) (fun hc5 hE => ?_)
 ·refine region ?_
  refine s0 moveA rfl ?_
  refine s0 moveA rfl ?_
  obtain ⟨x6, gx6, hE⟩ := bindO_some hE
  refine sH (callH rfl rfl (Z20_walk gx6 _ hpG hpG)) rfl ?_
  refine AOps.heq (h' := ((H.set c0_1 (some (.tok 2 x6.Ffaults.l.length))).set c0 (some (.cells (Schema_checker.cg (some c0_1) x6))))) (by first | rfl | (rw [Heap.set_set]; rfl) | (funext n_; simp only [Heap.set]; (repeat' split) <;> first | rfl | (exfalso; simp_all; done) | (simp_all; done))) ?_
  refine nil ?_
  repeat (first | refine xBlock_normal ?_ | refine xThen_exit ?_ | refine xBlock_exit ?_)
  obtain rfl := Option.some.inj hE
  refine retQ.normalF ((H.set c0_1 (some (.tok 2 x6.Ffaults.l.length))).set c0 (some (.cells (Schema_checker.cg (some c0_1) x6)))) (xs := []) rfl ⟨rfl, rfl⟩ ?_
  exact (fun _ _ h => h)
 refine seqK fun K7 hK7 => ?_
 refine region ?_
 refine s0 moveA rfl ?_
 refine s0 (binI rfl rfl rfl) rfl ?_
 refine s0 assignA rfl ?_
 refine nil ?_
 refine hK7 _ ?_
 clear hK7 K7
 refine condE hE rfl (fun hc8 hE => ?_) (fun hc8 hE => ?_)
 ·refine region ?_
  refine s0 moveA rfl ?_
  refine s0 moveA rfl ?_
  obtain ⟨x9, gx9, hE⟩ := bindO_some hE
  refine s0 (callP rfl rfl (fun H => Z19_walk gx9 H)) rfl ?_
  refine s0 (notB rfl) rfl ?_
  refine s0 moveA rfl ?_
  refine gC rfl rfl (fun hC => moveA) rfl ?_
  refine gC rfl rfl (fun hC => ungdA (k := 48) rfl (nilP rfl)) rfl ?_
  refine gC rfl rfl (fun hC => ungdA (k := 49) rfl (fieldP (TK rfl) rfl rfl (TK rfl) rfl rfl)) rfl ?_
  refine gC rfl rfl (fun hC => ungdA (k := 50) rfl (loadP (TK rfl) rfl rfl hpG rfl)) rfl ?_
  refine gC rfl rfl (fun hC => moveA) rfl ?_
  obtain ⟨x10, gx10, hE⟩ := guardO_some hE
  refine gC rfl rfl (fun hC => ungdA (k := 51) rfl (ungdA (k := 52) rfl (callP rfl rfl (fun H => Z28_walk (gx10 hC) H)))) rfl ?_
  refine gC rfl rfl (fun hC => ungdA (k := 53) rfl (binI rfl rfl rfl)) rfl ?_
  refine s0 (pickAndA rfl rfl rfl) rfl ?_
  refine s0 moveA rfl ?_
  obtain ⟨x11, gx11, hE⟩ := bindO_some hE
  refine sH (callH rfl rfl (Z20_walk gx11 _ hpG hpG)) rfl ?_
  refine AOps.heq (h' := ((H.set c0_1 (some (.tok 2 x11.Ffaults.l.length))).set c0 (some (.cells (Schema_checker.cg (some c0_1) x11))))) (by first | rfl | (rw [Heap.set_set]; rfl) | (funext n_; simp only [Heap.set]; (repeat' split) <;> first | rfl | (exfalso; simp_all; done) | (simp_all; done))) ?_
  refine nil ?_
  repeat (first | refine xBlock_normal ?_ | refine xThen_exit ?_ | refine xBlock_exit ?_)
  obtain rfl := Option.some.inj hE
  refine retQ.normalF ((H.set c0_1 (some (.tok 2 x11.Ffaults.l.length))).set c0 (some (.cells (Schema_checker.cg (some c0_1) x11)))) (xs := []) rfl ⟨rfl, rfl⟩ ?_
  exact (fun _ _ h => h)
 refine region ?_
 refine s0 moveA rfl ?_
 refine s0 moveA rfl ?_
 refine s0 (nilP rfl) rfl ?_
 refine s0 (fieldP (TK rfl) rfl rfl (TK rfl) rfl rfl) rfl ?_
 refine s0 (loadP (TK rfl) rfl rfl hpG rfl) rfl ?_
 refine s0 moveA rfl ?_
 obtain ⟨x12, gx12, hE⟩ := bindO_some hE
 refine s0 (callP rfl rfl (fun H => Z16_walk gx12 H)) rfl ?_
 refine s0 (notB rfl) rfl ?_
 refine s0 moveA rfl ?_
 obtain ⟨x13, gx13, hE⟩ := bindO_some hE
 refine sH (callH rfl rfl (Z20_walk gx13 _ hpG hpG)) rfl ?_
 refine AOps.heq (h' := ((H.set c0_1 (some (.tok 2 x13.Ffaults.l.length))).set c0 (some (.cells (Schema_checker.cg (some c0_1) x13))))) (by first | rfl | (rw [Heap.set_set]; rfl) | (funext n_; simp only [Heap.set]; (repeat' split) <;> first | rfl | (exfalso; simp_all; done) | (simp_all; done))) ?_
 refine nil ?_
 repeat (first | refine xBlock_normal ?_ | refine xThen_exit ?_ | refine xBlock_exit ?_)
 obtain rfl := Option.some.inj hE
 refine retQ.normalF ((H.set c0_1 (some (.tok 2 x13.Ffaults.l.length))).set c0 (some (.cells (Schema_checker.cg (some c0_1) x13)))) (xs := []) rfl ⟨rfl, rfl⟩ ?_
 exact (fun _ _ h => h)
def Z23_l5 (a1 : (Sl TInput)) (a2 : Bs) (a3 : Bs)  : Nat → Nat → Schema_checker → (List Bs) → Option Schema_checker
 | 0, _, _, _ => none
 | n5 + 1, s15_6, y7_c0, y8_id12_2 => bif (decide (((s15_6 : Nat) : Int) < ((a1.l.length : Nat) : Int))) then ((a1.l[s15_6]?).bind fun x14 => (catC a2 x14.FName).bind fun x16 => (catC x16 a3).bind fun x17 => (Z26 y7_c0 x14.FName x17 y8_id12_2).bind fun x19 => (Z27 x19.1 x14.FType.FName x17 (1 : Int)).bind fun x20 => (Z23_l5 a1 a2 a3 n5) (s15_6 + 1) x20 x19.2) else (some y7_c0)
def Z23 (a0 : Schema_checker) (a1 : (Sl TInput)) (a2 : Bs) (a3 : Bs) : Option Schema_checker := Z23_l5 a1 a2 a3 (a1.l.length + 1) 0 a0 ([] : List Bs)
theorem Z23_walk {a0 : Schema_checker} {a1 : (Sl TInput)} {a2 : Bs} {a3 : Bs} {w1 : Option Nat} {c0 : Nat} {c0_1 : Nat} {r : Schema_checker} (hE : Z23 a0 a1 a2 a3 = some r) (H : Heap) (hc0 : H c0 = some (.cells (Schema_checker.cg (some c0_1) a0))) (ht0_1 : H c0_1 = some (.tok 2 a0.Ffaults.l.length)) : ACalls Tryz.prog 104 [.d (.ptr c0 0), .d (Sl.d 10 TInput.c w1 a1), .d (.str a2), .d (.str a3)] H fun v h' => v = .tup [] ∧ h' = ((H.set c0_1 (some (.tok 2 r.Ffaults.l.length))).set c0 (some (.cells (Schema_checker.cg (some c0_1) r)))) := by
 unfold Z23 at hE
 refine ACalls.of_wp (fn := Tryz.f104) (c := _) Tryz.tab_ok (fun _ _ => Tryz.call104 _ _) Tryz.func104 rfl (n := 38) rfl (rs := []) rfl rfl ?_
 have ne_c0_c0_1 : c0 ≠ c0_1 := fun e_ => by subst e_; simp_all
 refine AWp.heqA (h' := ((H.set c0_1 (some (.tok 2 a0.Ffaults.l.length))).set c0 (some (.cells (Schema_checker.cg (some c0_1) a0))))) (by funext n_; simp only [Heap.set]; (repeat' split) <;> simp_all) ?_
 refine seqK fun K1 hK1 => ?_
 refine region ?_
 refine sE StepE.makeMap rfl (fun _ _ _ ⟨id12_2, hid12_2, e1, e2, e3⟩ => ?_); subst e1 e2 e3
 obtain ⟨ne_id12_2_c0, hid12_2⟩ := Heap.set_fresh hid12_2
 obtain ⟨ne_id12_2_c0_1, hid12_2⟩ := Heap.set_fresh hid12_2
 refine AOps.heq (h' := (((H.set c0_1 (some (.tok 2 a0.Ffaults.l.length))).set c0 (some (.cells (Schema_checker.cg (some c0_1) a0)))).set id12_2 (some (.map (seenM ([] : List Bs)))))) (by first | rfl | (rw [Heap.set_set]; rfl) | (funext n_; simp only [Heap.set]; (repeat' split) <;> first | rfl | (exfalso; simp_all; done) | (simp_all; done))) ?_
 refine s0 assignA rfl ?_
 refine nil ?_
 refine hK1 _ ?_
 clear hK1 K1
 refine seqK fun K3 hK3 => ?_
 refine region ?_
 refine s0 moveA rfl ?_
 refine sLen (f := TInput.c) (s := a1) (TK rfl) rfl rfl rfl rfl fun hL4 => ?_
 refine s0 moveA rfl ?_
 refine nil ?_
 refine hK3 _ ?_
 clear hK3 K3
 refine block ?_
 refine loopH (KeepsT.A (k := 0) (KeepsT.A (k := 2) (KeepsT.A (k := 3) (KeepsT.A (k := 8) (KeepsT.A (k := 13) (KeepsT.A (k := 14) KeepsT.nil)))))) (fun (z : Nat × Nat × Schema_checker × (List Bs)) => [(15, .a (.d (.int .i64 ((z.2.1 : Nat) : Int))))]) (fun z => (((H.set c0_1 (some (.tok 2 z.2.2.1.Ffaults.l.length))).set c0 (some (.cells (Schema_checker.cg (some c0_1) z.2.2.1)))).set id12_2 (some (.map (seenM z.2.2.2))))) (fun z => z.1) (fun z => Z23_l5 a1 a2 a3 z.1 z.2.1 z.2.2.1 z.2.2.2 = some r) ((a1.l.length + 1), 0, a0, ([] : List Bs)) hE Weak.toA ?_
 rintro ⟨n5, s15_6, y7_c0, y8_id12_2⟩ hE K5 hK5
 try dsimp only at hE
 cases n5 with
 | zero => cases hE
 | succ n5 =>
   rw [Z23_l5] at hE
   refine seqK fun K9 hK9 => ?_
   refine region ?_
   refine s0 (binI rfl rfl rfl) rfl ?_
   refine nil ?_
   refine hK9 _ ?_
   clear hK9 K9
   refine seqK fun K10 hK10 => ?_
   refine condE hE rfl (fun hc11 hE => ?_) (fun hc11 hE => ?_)
   ·try dsimp only at hc11
    have hf11 := of_decide_eq_true hc11
    refine AWp.skip ?_
    refine hK10 _ ?_
    clear hK10 K10
    refine seqK fun K12 hK12 => ?_
    refine block ?_
    refine seqK fun K13 hK13 => ?_
    refine region ?_
    obtain ⟨x14, gx14, hE⟩ := bindO_some hE
    refine s0 (idxMn (f := TInput.c) (n := s15_6) (TK rfl) rfl (TK rfl) rfl rfl rfl gx14) rfl ?_
    refine s0 (loadV (TK rfl) rfl rfl rfl) rfl ?_
    refine sL (allocLA (TK rfl) rfl) rfl ?_
    refine sLn (storeLFA (TK rfl) rfl rfl rfl rfl rfl) ?_
    refine nil ?_
    refine hK13 _ ?_
    clear hK13 K13
    refine freezeA 10 _ rfl (Keeps.c (k := 0) (by conv => lhs; whnf) (by rfl) (Keeps.c (k := 2) (by conv => lhs; whnf) (by rfl) (Keeps.c (k := 3) (by conv => lhs; whnf) (by rfl) (Keeps.c (k := 8) (by conv => lhs; whnf) (by rfl) (Keeps.c (k := 13) (by conv => lhs; whnf) (by rfl) (Keeps.c (k := 14) (by conv => lhs; whnf) (by rfl) (Keeps.c (k := 15) (by conv => lhs; whnf) (by rfl) Keeps.nil))))))) ?_
    refine seqK fun K15 hK15 => ?_
    refine region ?_
    refine s0 moveA rfl ?_
    refine s0 (fieldVA (TK rfl) rfl rfl (TK rfl) rfl rfl) rfl ?_
    refine s0 (loadV (TK rfl) rfl rfl rfl) rfl ?_
    obtain ⟨x16, gx16, hE⟩ := bindO_some hE
    refine s0 (catM rfl rfl gx16) rfl ?_
    refine s0 moveA rfl ?_
    obtain ⟨x17, gx17, hE⟩ := bindO_some hE
    refine s0 (catM rfl rfl gx17) rfl ?_
    refine s0 assignA rfl ?_
    refine nil ?_
    refine hK15 _ ?_
    clear hK15 K15
    refine seqK fun K18 hK18 => ?_
    refine region ?_
    refine s0 moveA rfl ?_
    refine s0 (fieldVA (TK rfl) rfl rfl (TK rfl) rfl rfl) rfl ?_
    refine s0 (loadV (TK rfl) rfl rfl rfl) rfl ?_
    refine s0 moveA rfl ?_
    refine s0 moveA rfl ?_
    obtain ⟨x19, gx19, hE⟩ := bindO_some hE
    refine sH (callH rfl rfl (Z26_walk gx19 _ hpG hpG hpG)) rfl ?_
    refine AOps.heq (h' := (((H.set c0_1 (some (.tok 2 x19.1.Ffaults.l.length))).set c0 (some (.cells (Schema_checker.cg (some c0_1) x19.1)))).set id12_2 (some (.map (seenM x19.2))))) (by first | rfl | (rw [Heap.set_set]; rfl) | (funext n_; simp only [Heap.set]; (repeat' split) <;> first | rfl | (exfalso; simp_all; done) | (simp_all; done))) ?_
    refine nil ?_
    refine hK18 _ ?_
    clear hK18 K18
    refine region ?_
    refine s0 moveA rfl ?_
    refine s0 (fieldVA (TK rfl) rfl rfl (TK rfl) rfl rfl) rfl ?_
    refine s0 (fieldVA (TK rfl) rfl rfl (TK rfl) rfl rfl) rfl ?_
    refine s0 (loadV (TK rfl) rfl rfl rfl) rfl ?_
    refine s0 moveA rfl ?_
    obtain ⟨x20, gx20, hE⟩ := bindO_some hE
    refine sH (callH rfl rfl (Z27_walk gx20 _ hpG hpG)) rfl ?_
    refine AOps.heq (h' := (((H.set c0_1 (some (.tok 2 x20.Ffaults.l.length))).set c0 (some (.cells (Schema_checker.cg (some c0_1) x20)))).set id12_2 (some (.map (seenM x19.2))))) (by first | rfl | (rw [Heap.set_set]; rfl) | (funext n_; simp only [Heap.set]; (repeat' split) <;> first | rfl | (exfalso; simp_all; done) | (simp_all; done))) ?_
    refine nil ?_
    refine hK12 _ ?_
    clear hK12 K12
    refine region ?_
    refine s0 (addIA rfl rfl) rfl ?_
    refine s0 moveA rfl ?_
    refine nil ?_
    exact hK5 _ (n5, (s15_6 + 1), x20, x19.2) Weak.toA hE (Nat.lt_succ_self _)
   refine AWp.exit ?_
   repeat (first | refine xBlock_normal ?_ | refine xThen_exit ?_ | refine xBlock_exit ?_)
   obtain rfl := Option.some.inj hE
   refine retQ.normalF ((H.set c0_1 (some (.tok 2 y7_c0.Ffaults.l.length))).set c0 (some (.cells (Schema_checker.cg (some c0_1) y7_c0)))) (xs := []) rfl ⟨rfl, rfl⟩ ?_
   intro id_ o_ he_
   have e_id12_2 : id_ ≠ id12_2 := fun e_ => by subst e_; simp_all [Heap.set]
   rw [← he_]
   simp only [Heap.set] at he_ ⊢
   (repeat' split) <;> simp_all
def Z22_l6 (a1 : TDef)  : Nat → Nat → Schema_checker → (List Bs) → Option Schema_checker
 | 0, _, _, _ => none
 | n6 + 1, s12_7, y8_c0, y9_id8_3 => bif (decide (((s12_7 : Nat) : Int) < ((a1.FFields.l.length : Nat) : Int))) then ((a1.FFields.l[s12_7]?).bind fun x15 => (catC a1.FName ([46] : Bs)).bind fun x17 => (catC x17 x15.FName).bind fun x18 => (Z26 y8_c0 x15.FName x18 y9_id8_3).bind fun x20 => (Z27 x20.1 x15.FType.FName x18 (0 : Int)).bind fun x22 => (catC x18 ([40] : Bs)).bind fun x23 => (Z23 x22 x15.FArgs x23 ([41] : Bs)).bind fun x24 => (Z22_l6 a1 n6) (s12_7 + 1) x24 x20.2) else (some y8_c0)
def Z22 (a0 : Schema_checker) (a1 : TDef) : Option Schema_checker := Z22_l6 a1 (a1.FFields.l.length + 1) 0 a0 ([] : List Bs)
theorem Z22_walk {a0 : Schema_checker} {a1 : TDef}  {c0 : Nat} {c0_1 : Nat} {r : Schema_checker} (hE : Z22 a0 a1 = some r) (H : Heap) (hc0 : H c0 = some (.cells (Schema_checker.cg (some c0_1) a0))) (ht0_1 : H c0_1 = some (.tok 2 a0.Ffaults.l.length)) : ACalls Tryz.prog 102 [.d (.ptr c0 0), .agg (TDef.c a1)] H fun v h' => v = .tup [] ∧ h' = ((H.set c0_1 (some (.tok 2 r.Ffaults.l.length))).set c0 (some (.cells (Schema_checker.cg (some c0_1) r)))) := by
 unfold Z22 at hE
 refine ACalls.of_wp (fn := Tryz.f102) (c := _) Tryz.tab_ok (fun _ _ => Tryz.call102 _ _) Tryz.func102 rfl (n := 41) rfl (rs := []) rfl rfl ?_
 have ne_c0_c0_1 : c0 ≠ c0_1 := fun e_ => by subst e_; simp_all
 refine AWp.heqA (h' := ((H.set c0_1 (some (.tok 2 a0.Ffaults.l.length))).set c0 (some (.cells (Schema_checker.cg (some c0_1) a0))))) (by funext n_; simp only [Heap.set]; (repeat' split) <;> simp_all) ?_
 refine seqK fun K1 hK1 => ?_
 refine region ?_
 refine s0 (boxV rfl) rfl ?_
 refine nil ?_
 refine hK1 _ ?_
 clear hK1 K1
 refine seqK fun K2 hK2 => ?_
 refine region ?_
 refine sE StepE.makeMap rfl (fun _ _ _ ⟨id8_3, hid8_3, e1, e2, e3⟩ => ?_); subst e1 e2 e3
 obtain ⟨ne_id8_3_c0, hid8_3⟩ := Heap.set_fresh hid8_3
 obtain ⟨ne_id8_3_c0_1, hid8_3⟩ := Heap.set_fresh hid8_3
 refine AOps.heq (h' := (((H.set c0_1 (some (.tok 2 a0.Ffaults.l.length))).set c0 (some (.cells (Schema_checker.cg (some c0_1) a0)))).set id8_3 (some (.map (seenM ([] : List Bs)))))) (by first | rfl | (rw [Heap.set_set]; rfl) | (funext n_; simp only [Heap.set]; (repeat' split) <;> first | rfl | (exfalso; simp_all; done) | (simp_all; done))) ?_
 refine s0 assignA rfl ?_
 refine nil ?_
 refine hK2 _ ?_
 clear hK2 K2
 refine seqK fun K4 hK4 => ?_
 refine region ?_
 refine s0 (fieldVA (TK rfl) rfl rfl (TK rfl) rfl rfl) rfl ?_
 refine s0 (loadV (TK rfl) rfl rfl rfl) rfl ?_
 refine sLen (f := TField.c) (s := a1.FFields) (TK rfl) rfl rfl rfl rfl fun hL5 => ?_
 refine s0 moveA rfl ?_
 refine nil ?_
 refine hK4 _ ?_
 clear hK4 K4
 refine block ?_
 refine loopH (KeepsT.A (k := 0) (KeepsT.A (k := 3) (KeepsT.A (k := 4) (KeepsT.A (k := 10) (KeepsT.A (k := 11) KeepsT.nil))))) (fun (z : Nat × Nat × Schema_checker × (List Bs)) => [(12, .a (.d (.int .i64 ((z.2.1 : Nat) : Int))))]) (fun z => (((H.set c0_1 (some (.tok 2 z.2.2.1.Ffaults.l.length))).set c0 (some (.cells (Schema_checker.cg (some c0_1) z.2.2.1)))).set id8_3 (some (.map (seenM z.2.2.2))))) (fun z => z.1) (fun z => Z22_l6 a1 z.1 z.2.1 z.2.2.1 z.2.2.2 = some r) ((a1.FFields.l.length + 1), 0, a0, ([] : List Bs)) hE Weak.toA ?_
 rintro ⟨n6, s12_7, y8_c0, y9_id8_3⟩ hE K6 hK6
 try dsimp only at hE
 cases n6 with
 | zero => cases hE
 | succ n6 =>
   rw [Z22_l6] at hE
   refine seqK fun K10 hK10 => ?_
   refine region ?_
   refine s0 (binI rfl rfl rfl) rfl ?_
   refine nil ?_
   refine hK10 _ ?_
   clear hK10 K10
   refine seqK fun K11 hK11 => ?_
   refine condE hE rfl (fun hc12 hE => ?_) (fun hc12 hE => ?_)
   ·try dsimp only at hc12
    have hf12 := of_decide_eq_true hc12
    refine AWp.skip ?_
    refine hK11 _ ?_
    clear hK11 K11
    refine seqK fun K13 hK13 => ?_
    refine block ?_
    refine seqK fun K14 hK14 => ?_
    refine region ?_
    obtain ⟨x15, gx15, hE⟩ := bindO_some hE
    refine s0 (idxMn (f := TField.c) (n := s12_7) (TK rfl) rfl (TK rfl) rfl rfl rfl gx15) rfl ?_
    refine s0 (loadV (TK rfl) rfl rfl rfl) rfl ?_
    refine sL (allocLA (TK rfl) rfl) rfl ?_
    refine sLn (storeLFA (TK rfl) rfl rfl rfl rfl rfl) ?_
    refine nil ?_
    refine hK14 _ ?_
    clear hK14 K14
    refine freezeA 6 _ rfl (Keeps.c (k := 0) (by conv => lhs; whnf) (by rfl) (Keeps.c (k := 3) (by conv => lhs; whnf) (by rfl) (Keeps.c (k := 4) (by conv => lhs; whnf) (by rfl) (Keeps.c (k := 10) (by conv => lhs; whnf) (by rfl) (Keeps.c (k := 11) (by conv => lhs; whnf) (by rfl) (Keeps.c (k := 12) (by conv => lhs; whnf) (by rfl) Keeps.nil)))))) ?_
    refine seqK fun K16 hK16 => ?_
    refine region ?_
    refine s0 (fieldVA (TK rfl) rfl rfl (TK rfl) rfl rfl) rfl ?_
    refine s0 (loadV (TK rfl) rfl rfl rfl) rfl ?_
    obtain ⟨x17, gx17, hE⟩ := bindO_some hE
    refine s0 (catM rfl rfl gx17) rfl ?_
    refine s0 (fieldVA (TK rfl) rfl rfl (TK rfl) rfl rfl) rfl ?_
    refine s0 (loadV (TK rfl) rfl rfl rfl) rfl ?_
    obtain ⟨x18, gx18, hE⟩ := bindO_some hE
    refine s0 (catM rfl rfl gx18) rfl ?_
    refine s0 assignA rfl ?_
    refine nil ?_
    refine hK16 _ ?_
    clear hK16 K16
    refine seqK fun K19 hK19 => ?_
    refine region ?_
    refine s0 moveA rfl ?_
    refine s0 (fieldVA (TK rfl) rfl rfl (TK rfl) rfl rfl) rfl ?_
    refine s0 (loadV (TK rfl) rfl rfl rfl) rfl ?_
    refine s0 moveA rfl ?_
    refine s0 moveA rfl ?_
    obtain ⟨x20, gx20, hE⟩ := bindO_some hE
    refine sH (callH rfl rfl (Z26_walk gx20 _ hpG hpG hpG)) rfl ?_
    refine AOps.heq (h' := (((H.set c0_1 (some (.tok 2 x20.1.Ffaults.l.length))).set c0 (some (.cells (Schema_checker.cg (some c0_1) x20.1)))).set id8_3 (some (.map (seenM x20.2))))) (by first | rfl | (rw [Heap.set_set]; rfl) | (funext n_; simp only [Heap.set]; (repeat' split) <;> first | rfl | (exfalso; simp_all; done) | (simp_all; done))) ?_
    refine nil ?_
    refine hK19 _ ?_
    clear hK19 K19
    refine seqK fun K21 hK21 => ?_
    refine region ?_
    refine s0 moveA rfl ?_
    refine s0 (fieldVA (TK rfl) rfl rfl (TK rfl) rfl rfl) rfl ?_
    refine s0 (fieldVA (TK rfl) rfl rfl (TK rfl) rfl rfl) rfl ?_
    refine s0 (loadV (TK rfl) rfl rfl rfl) rfl ?_
    refine s0 moveA rfl ?_
    obtain ⟨x22, gx22, hE⟩ := bindO_some hE
    refine sH (callH rfl rfl (Z27_walk gx22 _ hpG hpG)) rfl ?_
    refine AOps.heq (h' := (((H.set c0_1 (some (.tok 2 x22.Ffaults.l.length))).set c0 (some (.cells (Schema_checker.cg (some c0_1) x22)))).set id8_3 (some (.map (seenM x20.2))))) (by first | rfl | (rw [Heap.set_set]; rfl) | (funext n_; simp only [Heap.set]; (repeat' split) <;> first | rfl | (exfalso; simp_all; done) | (simp_all; done))) ?_
    refine nil ?_
    refine hK21 _ ?_
    clear hK21 K21
    refine region ?_
    refine s0 moveA rfl ?_
    refine s0 (fieldVA (TK rfl) rfl rfl (TK rfl) rfl rfl) rfl ?_
    refine s0 (loadV (TK rfl) rfl rfl rfl) rfl ?_
    refine s0 moveA rfl ?_
    obtain ⟨x23, gx23, hE⟩ := bindO_some hE
    refine s0 (catM rfl rfl gx23) rfl ?_
    obtain ⟨x24, gx24, hE⟩ := bindO_some hE
    refine sH (callH rfl rfl (Z23_walk gx24 _ hpG hpG)) rfl ?_
    refine AOps.heq (h' := (((H.set c0_1 (some (.tok 2 x24.Ffaults.l.length))).set c0 (some (.cells (Schema_checker.cg (some c0_1) x24)))).set id8_3 (some (.map (seenM x20.2))))) (by first | rfl | (rw [Heap.set_set]; rfl) | (funext n_; simp only [Heap.set]; (repeat' split) <;> first | rfl | (exfalso; simp_all; done) | (simp_all; done))) ?_
    refine nil ?_
    refine hK13 _ ?_
    clear hK13 K13
    refine region ?_
    refine s0 (addIA rfl rfl) rfl ?_
    refine s0 moveA rfl ?_
    refine nil ?_
    exact hK6 _ (n6, (s12_7 + 1), x24, x20.2) Weak.toA hE (Nat.lt_succ_self _)
   refine AWp.exit ?_
   repeat (first | refine xBlock_normal ?_ | refine xThen_exit ?_ | refine xBlock_exit ?_)
   obtain rfl := Option.some.inj hE
   refine retQ.normalF ((H.set c0_1 (some (.tok 2 y8_c0.Ffaults.l.length))).set c0 (some (.cells (Schema_checker.cg (some c0_1) y8_c0)))) (xs := []) rfl ⟨rfl, rfl⟩ ?_
   intro id_ o_ he_
   have e_id8_3 : id_ ≠ id8_3 := fun e_ => by subst e_; simp_all [Heap.set]
   rw [← he_]
   simp only [Heap.set] at he_ ⊢
   (repeat' split) <;> simp_all
def Z25 (a0 : Schema_checker) (a1 : TDef) : Option Schema_checker := none
theorem Z25_walk {a0 : Schema_checker} {a1 : TDef}  {c0 : Nat} {c0_1 : Nat} {r : Schema_checker} (hE : Z25 a0 a1 = some r) (H : Heap) (hc0 : H c0 = some (.cells (Schema_checker.cg (some c0_1) a0))) (ht0_1 : H c0_1 = some (.tok 2 a0.Ffaults.l.length)) : ACalls Tryz.prog 103 [.d (.ptr c0 0), .agg (TDef.c a1)] H fun v h' => v = .tup [] ∧ h' = ((H.set c0_1 (some (.tok 2 r.Ffaults.l.length))).set c0 (some (.cells (Schema_checker.cg (some c0_1) r)))) := by cases hE
end Go.Proofs

namespace Go.Proofs
open Go Go.Ab
open AOps Cert AWp
def Z21_j23 (a2 : (List Bs)) (x2 : TDef) (x21 : Schema_checker)  (s120_24 : Bool) : Option (Schema_checker × (List Bs)) := bif s120_24 then ((Z22 x21 x2).bind fun x26 => some (x26, (insS a2 x2.FName))) else (bif (decide (x2.FKind = (4 : Int))) then ((Z25 x21 x2).bind fun x29 => some (x29, (insS a2 x2.FName))) else (bif (decide (x2.FKind = (5 : Int))) then ((catC x2.FName ([46] : Bs)).bind fun x32 => (Z23 x21 x2.FInputs x32 ([] : Bs)).bind fun x33 => some (x33, (insS a2 x2.FName))) else (some (x21, (insS a2 x2.FName)))))
def Z21_j12 (a2 : (List Bs)) (x2 : TDef) (x9 : Schema_checker)  (s7_13 : Bool) : Option (Schema_checker × (List Bs)) := (Z20 x9 s7_13 (8 : Int) x2.FName).bind fun x15 => (Z20 x15 (((((((x2.FName == ([81, 117, 101, 114, 121] : Bs))) || ((x2.FName == ([77, 117, 116, 97, 116, 105, 111, 110] : Bs)))) || ((x2.FName == ([83, 117, 98, 115, 99, 114, 105, 112, 116, 105, 111, 110] : Bs)))) && (!decide (x2.FKind = (1 : Int)))) || (decide (x2.FKind < (1 : Int)))) || (decide ((5 : Int) < x2.FKind))) (9 : Int) x2.FName).bind fun x18 => guardO ((decide (x2.FKind = (5 : Int)))) (Z24 x18 x2) false fun x20 => (Z20 x18 ((decide (x2.FKind = (5 : Int))) && x20) (5 : Int) x2.FName).bind fun x21 => bif (decide (x2.FKind = (1 : Int))) then (Z21_j23 a2 x2 x21  (decide (x2.FKind = (1 : Int)))) else (Z21_j23 a2 x2 x21  (decide (x2.FKind = (2 : Int))))
def Z21_j41 (a2 : (List Bs)) (x2 : TDef) (x9 : Schema_checker)  (s55_42 : Bool) : Option (Schema_checker × (List Bs)) := bif s55_42 then (Z21_j12 a2 x2 x9  (decide (((x2.FMembers.l.length : Nat) : Int) = (0 : Int)))) else (bif (decide (x2.FKind = (5 : Int))) then (Z21_j12 a2 x2 x9  (decide (((x2.FInputs.l.length : Nat) : Int) = (0 : Int)))) else (Z21_j12 a2 x2 x9  false))
def Z21_j37 (a2 : (List Bs)) (x2 : TDef) (x9 : Schema_checker)  (s48_38 : Bool) : Option (Schema_checker × (List Bs)) := bif s48_38 then (Z21_j12 a2 x2 x9  (decide (((x2.FFields.l.length : Nat) : Int) = (0 : Int)))) else (bif (decide (x2.FKind = (3 : Int))) then (Z21_j41 a2 x2 x9  (decide (x2.FKind = (3 : Int)))) else (Z21_j41 a2 x2 x9  (decide (x2.FKind = (4 : Int)))))
def Z21 (a0 : Schema_checker) (a1 : Int) (a2 : (List Bs)) : Option (Schema_checker × (List Bs)) := (idxC a0.Fd.FDefs.l a1).bind fun x2 => (Z34 x2.FName).bind fun x4 => guardO (!(!x4)) (Z35 x2.FName) false fun x5 => (Z20 a0 ((!x4) || x5) (6 : Int) x2.FName).bind fun x6 => guardO (!(a2.contains x2.FName)) (Z19 x2.FName) false fun x8 => (Z20 x6 ((a2.contains x2.FName) || x8) (7 : Int) x2.FName).bind fun x9 => bif (decide (x2.FKind = (1 : Int))) then (Z21_j37 a2 x2 x9  (decide (x2.FKind = (1 : Int)))) else (Z21_j37 a2 x2 x9  (decide (x2.FKind = (2 : Int))))
theorem Z21_walk {a0 : Schema_checker} {a1 : Int} {a2 : (List Bs)}  {c0 : Nat} {c0_1 : Nat} {c2 : Nat} {r : (Schema_checker × (List Bs))} (hE : Z21 a0 a1 a2 = some r) (H : Heap) (hc0 : H c0 = some (.cells (Schema_checker.cg (some c0_1) a0))) (ht0_1 : H c0_1 = some (.tok 2 a0.Ffaults.l.length)) (hc2 : H c2 = some (.map (seenM a2))) : ACalls Tryz.prog 62 [.d (.ptr c0 0), .d (.int .i64 a1), .d (.map c2)] H fun v h' => v = .tup [] ∧ h' = (((H.set c0_1 (some (.tok 2 r.1.Ffaults.l.length))).set c0 (some (.cells (Schema_checker.cg (some c0_1) r.1)))).set c2 (some (.map (seenM r.2)))) := by
 unfold Z21 at hE
 refine ACalls.of_wp (fn := Tryz.f62) (c := _) Tryz.tab_ok (fun _ _ => Tryz.call62 _ _) Tryz.func62 rfl (n := 140) rfl (rs := []) rfl rfl ?_
 have ne_c0_c0_1 : c0 ≠ c0_1 := fun e_ => by subst e_; simp_all
 have ne_c2_c0_1 : c2 ≠ c0_1 := fun e_ => by subst e_; simp_all
 have ne_c2_c0 : c2 ≠ c0 := fun e_ => by subst e_; simp_all
 refine AWp.heqA (h' := (((H.set c0_1 (some (.tok 2 a0.Ffaults.l.length))).set c0 (some (.cells (Schema_checker.cg (some c0_1) a0)))).set c2 (some (.map (seenM a2))))) (by funext n_; simp only [Heap.set]; (repeat' split) <;> simp_all) ?_
 refine seqK fun K1 hK1 => ?_
 refine region ?_
 refine s0 moveA rfl ?_
 refine s0 (nilP rfl) rfl ?_
 refine s0 (fieldP (TK rfl) rfl rfl (TK rfl) rfl rfl) rfl ?_
 refine s0 (fieldP (TK rfl) rfl rfl (TK rfl) rfl rfl) rfl ?_
 refine s0 (loadP (TK rfl) rfl rfl hpG rfl) rfl ?_
 refine s0 moveA rfl ?_
 obtain ⟨x2, gx2, hE⟩ := bindO_some hE
 refine s0 (idxM (f := TDef.c) (TK rfl) rfl (TK rfl) rfl rfl rfl gx2) rfl ?_
 refine s0 (loadV (TK rfl) rfl rfl rfl) rfl ?_
 refine sL (allocLA (TK rfl) rfl) rfl ?_
 refine sLn (storeLFA (TK rfl) rfl rfl rfl rfl rfl) ?_
 refine nil ?_
 refine hK1 _ ?_
 clear hK1 K1
 refine freezeA 6 _ rfl (Keeps.c (k := 0) (by conv => lhs; whnf) (by rfl) (Keeps.c (k := 2) (by conv => lhs; whnf) (by rfl) Keeps.nil)) ?_
 refine seqK fun K3 hK3 => ?_
 refine AWp.draw rfl ?_
 refine DOps.s0 moveA rfl ?_
 refine DOps.s0 (fieldVA (TK rfl) rfl rfl (TK rfl) rfl rfl) rfl ?_
 refine DOps.s0 (loadV (TK rfl) rfl rfl rfl) rfl ?_
 obtain ⟨x4, gx4, hE⟩ := bindO_some hE
 refine DOps.s0 (callP rfl rfl (fun H => Z34_walk gx4 H)) rfl ?_
 refine DOps.s0 (notB rfl) rfl ?_
 refine DOps.s0 moveA rfl ?_
 refine DOps.gC rfl rfl (fun hC => fieldVA (TK rfl) rfl rfl (TK rfl) rfl rfl) rfl ?_
 refine DOps.gC rfl rfl (fun hC => ungdA (k := 23) rfl (loadV (TK rfl) rfl rfl rfl)) rfl ?_
 obtain ⟨x5, gx5, hE⟩ := guardO_some hE
 refine DOps.gC rfl rfl (fun hC => ungdA (k := 24) rfl (callP rfl rfl (fun H => Z35_walk (gx5 hC) H))) rfl ?_
 refine DOps.s0 (pickOrA rfl rfl rfl) rfl ?_
 refine DOps.s0 (fieldVA (TK rfl) rfl rfl (TK rfl) rfl rfl) rfl ?_
 refine DOps.s0 (loadV (TK rfl) rfl rfl rfl) rfl ?_
 obtain ⟨x6, gx6, hE⟩ := bindO_some hE
 refine DOps.sH (callH rfl rfl (Z20_walk gx6 _ hpG hpG)) rfl ?_
 refine DOps.heq (h' := (((H.set c0_1 (some (.tok 2 x6.Ffaults.l.length))).set c0 (some (.cells (Schema_checker.cg (some c0_1) x6)))).set c2 (some (.map (seenM a2))))) (by first | rfl | (rw [Heap.set_set]; rfl) | (funext n_; simp only [Heap.set]; (repeat' split) <;> first | rfl | (exfalso; simp_all; done) | (simp_all; done))) ?_
 refine DOps.nil (by decide +kernel) ?_
 refine hK3 _ ?_
 clear hK3 K3
 refine seqK fun K7 hK7 => ?_
 refine AWp.draw rfl ?_
 refine DOps.s0 moveA rfl ?_
 refine DOps.s0 moveA rfl ?_
 refine DOps.s0 (fieldVA (TK rfl) rfl rfl (TK rfl) rfl rfl) rfl ?_
 refine DOps.s0 (loadV (TK rfl) rfl rfl rfl) rfl ?_
 refine DOps.s0 (lookupSeen (TK rfl) rfl (TK rfl) (TK rfl) rfl rfl rfl rfl hpG) rfl ?_
 refine DOps.s0 moveA rfl ?_
 refine DOps.gC rfl rfl (fun hC => fieldVA (TK rfl) rfl rfl (TK rfl) rfl rfl) rfl ?_
 refine DOps.gC rfl rfl (fun hC => ungdA (k := 36) rfl (loadV (TK rfl) rfl rfl rfl)) rfl ?_
 obtain ⟨x8, gx8, hE⟩ := guardO_some hE
 refine DOps.gC rfl rfl (fun hC => ungdA (k := 37) rfl (callP rfl rfl (fun H => Z19_walk (gx8 hC) H))) rfl ?_
 refine DOps.s0 (pickOrA rfl rfl rfl) rfl ?_
 refine DOps.s0 (fieldVA (TK rfl) rfl rfl (TK rfl) rfl rfl) rfl ?_
 refine DOps.s0 (loadV (TK rfl) rfl rfl rfl) rfl ?_
 obtain ⟨x9, gx9, hE⟩ := bindO_some hE
 refine DOps.sH (callH rfl rfl (Z20_walk gx9 _ hpG hpG)) rfl ?_
 refine DOps.heq (h' := (((H.set c0_1 (some (.tok 2 x9.Ffaults.l.length))).set c0 (some (.cells (Schema_checker.cg (some c0_1) x9)))).set c2 (some (.map (seenM a2))))) (by first | rfl | (rw [Heap.set_set]; rfl) | (funext n_; simp only [Heap.set]; (repeat' split) <;> first | rfl | (exfalso; simp_all; done) | (simp_all; done))) ?_
 refine DOps.nil (by decide +kernel) ?_
 refine hK7 _ ?_
 clear hK7 K7
 refine seqK fun K10 hK10 => ?_
 refine region ?_
 refine s0 moveA rfl ?_
 refine s0 (fieldVA (TK rfl) rfl rfl (TK rfl) rfl rfl) rfl ?_
 refine s0 (loadV (TK rfl) rfl rfl rfl) rfl ?_
 refine sHn (mapUpdate (TK rfl) rfl (TK rfl) rfl rfl rfl rfl hpG (seen_upd _ _) rfl) rfl rfl ?_
 refine AOps.heq (h' := (((H.set c0_1 (some (.tok 2 x9.Ffaults.l.length))).set c0 (some (.cells (Schema_checker.cg (some c0_1) x9)))).set c2 (some (.map (seenM (insS a2 x2.FName)))))) (by first | rfl | (rw [Heap.set_set]; rfl) | (funext n_; simp only [Heap.set]; (repeat' split) <;> first | rfl | (exfalso; simp_all; done) | (simp_all; done))) ?_
 refine nil ?_
 refine hK10 _ ?_
 clear hK10 K10
 refine seqK fun K11 hK11 => ?_
 refine region ?_
 refine s0 assignA rfl ?_
 refine nil ?_
 refine hK11 _ ?_
 clear hK11 K11
 refine seqJH (KeepsT.A (k := 0) (KeepsT.A (k := 6) KeepsT.nil)) (fun (z : Bool) => [(7, .a (.d (.bool z)))]) (fun z => (((H.set c0_1 (some (.tok 2 x9.Ffaults.l.length))).set c0 (some (.cells (Schema_checker.cg (some c0_1) x9)))).set c2 (some (.map (seenM (insS a2 x2.FName)))))) (fun z => Z21_j12 a2 x2 x9 z = some r) ?_ ?_
 ·intro K12 hK12
  refine seqK fun K36 hK36 => ?_
  refine region ?_
  refine s0 (fieldVA (TK rfl) rfl rfl (TK rfl) rfl rfl) rfl ?_
  refine s0 (loadV (TK rfl) rfl rfl rfl) rfl ?_
  refine nil ?_
  refine hK36 _ ?_
  clear hK36 K36
  refine block ?_
  refine seqJH (KeepsT.A (k := 0) (KeepsT.A (k := 6) (KeepsT.A (k := 7) (KeepsT.A (k := 47) KeepsT.nil)))) (fun (z : Bool) => [(48, .a (.d (.bool z)))]) (fun z => (((H.set c0_1 (some (.tok 2 x9.Ffaults.l.length))).set c0 (some (.cells (Schema_checker.cg (some c0_1) x9)))).set c2 (some (.map (seenM (insS a2 x2.FName)))))) (fun z => Z21_j37 a2 x2 x9 z = some r) ?_ ?_
  ·intro K37 hK37
   refine seqK fun K50 hK50 => ?_
   refine region ?_
   refine s0 (binI rfl rfl rfl) rfl ?_
   refine s0 assignA rfl ?_
   refine nil ?_
   refine hK50 _ ?_
   clear hK50 K50
   refine condE hE rfl (fun hc51 hE => ?_) (fun hc51 hE => ?_)
   ·refine AWp.skip ?_
    exact hK37 _ (decide (x2.FKind = (1 : Int))) Weak.toA hE
   refine region ?_
   refine s0 (binI rfl rfl rfl) rfl ?_
   refine s0 assignA rfl ?_
   refine nil ?_
   exact hK37 _ (decide (x2.FKind = (2 : Int))) Weak.toA hE
  rintro s48_38 hE
  try dsimp only at hE
  unfold Z21_j37 at hE
  refine condE hE rfl (fun hc39 hE => ?_) (fun hc39 hE => ?_)
  ·refine region ?_
   refine s0 (fieldVA (TK rfl) rfl rfl (TK rfl) rfl rfl) rfl ?_
   refine s0 (loadV (TK rfl) rfl rfl rfl) rfl ?_
   refine sLen (f := TField.c) (s := x2.FFields) (TK rfl) rfl rfl rfl rfl fun hL40 => ?_
   refine s0 (binI rfl rfl rfl) rfl ?_
   refine s0 assignA rfl ?_
   refine nil ?_
   exact hK12 _ (decide (((x2.FFields.l.length : Nat) : Int) = (0 : Int))) Weak.toA hE
  refine seqJH (KeepsT.A (k := 0) (KeepsT.A (k := 6) (KeepsT.A (k := 7) (KeepsT.A (k := 47) KeepsT.nil)))) (fun (z : Bool) => [(55, .a (.d (.bool z)))]) (fun z => (((H.set c0_1 (some (.tok 2 x9.Ffaults.l.length))).set c0 (some (.cells (Schema_checker.cg (some c0_1) x9)))).set c2 (some (.map (seenM (insS a2 x2.FName)))))) (fun z => Z21_j41 a2 x2 x9 z = some r) ?_ ?_
  ·intro K41 hK41
   refine seqK fun K48 hK48 => ?_
   refine region ?_
   refine s0 (binI rfl rfl rfl) rfl ?_
   refine s0 assignA rfl ?_
   refine nil ?_
   refine hK48 _ ?_
   clear hK48 K48
   refine condE hE rfl (fun hc49 hE => ?_) (fun hc49 hE => ?_)
   ·refine AWp.skip ?_
    exact hK41 _ (decide (x2.FKind = (3 : Int))) Weak.toA hE
   refine region ?_
   refine s0 (binI rfl rfl rfl) rfl ?_
   refine s0 assignA rfl ?_
   refine nil ?_
   exact hK41 _ (decide (x2.FKind = (4 : Int))) Weak.toA hE
  rintro s55_42 hE
  try dsimp only at hE
  unfold Z21_j41 at hE
  refine condE hE rfl (fun hc43 hE => ?_) (fun hc43 hE => ?_)
  ·refine region ?_
   refine s0 (fieldVA (TK rfl) rfl rfl (TK rfl) rfl rfl) rfl ?_
   refine s0 (loadV (TK rfl) rfl rfl rfl) rfl ?_
   refine sLen (f := TMember.c) (s := x2.FMembers) (TK rfl) rfl rfl rfl rfl fun hL44 => ?_
   refine s0 (binI rfl rfl rfl) rfl ?_
   refine s0 assignA rfl ?_
   refine nil ?_
   exact hK12 _ (decide (((x2.FMembers.l.length : Nat) : Int) = (0 : Int))) Weak.toA hE
  refine seqK fun K45 hK45 => ?_
  refine region ?_
  refine s0 (binI rfl rfl rfl) rfl ?_
  refine s0 assignA rfl ?_
  refine nil ?_
  refine hK45 _ ?_
  clear hK45 K45
  refine condE hE rfl (fun hc46 hE => ?_) (fun hc46 hE => ?_)
  ·refine region ?_
   refine s0 (fieldVA (TK rfl) rfl rfl (TK rfl) rfl rfl) rfl ?_
   refine s0 (loadV (TK rfl) rfl rfl rfl) rfl ?_
   refine sLen (f := TInput.c) (s := x2.FInputs) (TK rfl) rfl rfl rfl rfl fun hL47 => ?_
   refine s0 (binI rfl rfl rfl) rfl ?_
   refine s0 assignA rfl ?_
   refine nil ?_
   exact hK12 _ (decide (((x2.FInputs.l.length : Nat) : Int) = (0 : Int))) Weak.toA hE
  refine AWp.skip ?_
  exact hK12 _ false Weak.toA hE
 rintro s7_13 hE
 try dsimp only at hE
 unfold Z21_j12 at hE
 refine seqK fun K14 hK14 => ?_
 refine region ?_
 refine s0 moveA rfl ?_
 refine s0 moveA rfl ?_
 refine s0 (fieldVA (TK rfl) rfl rfl (TK rfl) rfl rfl) rfl ?_
 refine s0 (loadV (TK rfl) rfl rfl rfl) rfl ?_
 obtain ⟨x15, gx15, hE⟩ := bindO_some hE
 refine sH (callH rfl rfl (Z20_walk gx15 _ hpG hpG)) rfl ?_
 refine AOps.heq (h' := (((H.set c0_1 (some (.tok 2 x15.Ffaults.l.length))).set c0 (some (.cells (Schema_checker.cg (some c0_1) x15)))).set c2 (some (.map (seenM (insS a2 x2.FName)))))) (by first | rfl | (rw [Heap.set_set]; rfl) | (funext n_; simp only [Heap.set]; (repeat' split) <;> first | rfl | (exfalso; simp_all; done) | (simp_all; done))) ?_
 refine nil ?_
 refine hK14 _ ?_
 clear hK14 K14
 refine seqK fun K16 hK16 => ?_
 refine region ?_
 refine s0 (fieldVA (TK rfl) rfl rfl (TK rfl) rfl rfl) rfl ?_
 refine s0 (loadV (TK rfl) rfl rfl rfl) rfl ?_
 refine s0 (binS rfl rfl rfl) rfl ?_
 refine s0 moveA rfl ?_
 refine gC rfl rfl (fun hC => fieldVA (TK rfl) rfl rfl (TK rfl) rfl rfl) rfl ?_
 refine gC rfl rfl (fun hC => ungdA (k := 77) rfl (loadV (TK rfl) rfl rfl rfl)) rfl ?_
 refine gC rfl rfl (fun hC => ungdA (k := 78) rfl (binS rfl rfl rfl)) rfl ?_
 refine s0 (pickOrA rfl rfl rfl) rfl ?_
 refine s0 moveA rfl ?_
 refine gC rfl rfl (fun hC => fieldVA (TK rfl) rfl rfl (TK rfl) rfl rfl) rfl ?_
 refine gC rfl rfl (fun hC => ungdA (k := 82) rfl (loadV (TK rfl) rfl rfl rfl)) rfl ?_
 refine gC rfl rfl (fun hC => ungdA (k := 83) rfl (binS rfl rfl rfl)) rfl ?_
 refine s0 (pickOrA rfl rfl rfl) rfl ?_
 refine s0 assignA rfl ?_
 refine nil ?_
 refine hK16 _ ?_
 clear hK16 K16
 refine seqK fun K17 hK17 => ?_
 refine region ?_
 refine s0 moveA rfl ?_
 refine s0 moveA rfl ?_
 refine s0 moveA rfl ?_
 refine gC rfl rfl (fun hC => fieldVA (TK rfl) rfl rfl (TK rfl) rfl rfl) rfl ?_
 refine gC rfl rfl (fun hC => ungdA (k := 89) rfl (loadV (TK rfl) rfl rfl rfl)) rfl ?_
 refine gC rfl rfl (fun hC => ungdA (k := 90) rfl (binI rfl rfl rfl)) rfl ?_
 refine s0 (pickAndA rfl rfl rfl) rfl ?_
 refine s0 moveA rfl ?_
 refine gC rfl rfl (fun hC => fieldVA (TK rfl) rfl rfl (TK rfl) rfl rfl) rfl ?_
 refine gC rfl rfl (fun hC => ungdA (k := 94) rfl (loadV (TK rfl) rfl rfl rfl)) rfl ?_
 refine gC rfl rfl (fun hC => ungdA (k := 95) rfl (binI rfl rfl rfl)) rfl ?_
 refine s0 (pickOrA rfl rfl rfl) rfl ?_
 refine s0 moveA rfl ?_
 refine gC rfl rfl (fun hC => fieldVA (TK rfl) rfl rfl (TK rfl) rfl rfl) rfl ?_
 refine gC rfl rfl (fun hC => ungdA (k := 99) rfl (loadV (TK rfl) rfl rfl rfl)) rfl ?_
 refine gC rfl rfl (fun hC => ungdA (k := 100) rfl (binI rfl rfl rfl)) rfl ?_
 refine s0 (pickOrA rfl rfl rfl) rfl ?_
 refine s0 (fieldVA (TK rfl) rfl rfl (TK rfl) rfl rfl) rfl ?_
 refine s0 (loadV (TK rfl) rfl rfl rfl) rfl ?_
 obtain ⟨x18, gx18, hE⟩ := bindO_some hE
 refine sH (callH rfl rfl (Z20_walk gx18 _ hpG hpG)) rfl ?_
 refine AOps.heq (h' := (((H.set c0_1 (some (.tok 2 x18.Ffaults.l.length))).set c0 (some (.cells (Schema_checker.cg (some c0_1) x18)))).set c2 (some (.map (seenM (insS a2 x2.FName)))))) (by first | rfl | (rw [Heap.set_set]; rfl) | (funext n_; simp only [Heap.set]; (repeat' split) <;> first | rfl | (exfalso; simp_all; done) | (simp_all; done))) ?_
 refine nil ?_
 refine hK17 _ ?_
 clear hK17 K17
 refine seqK fun K19 hK19 => ?_
 refine AWp.draw rfl ?_
 refine DOps.s0 moveA rfl ?_
 refine DOps.s0 (fieldVA (TK rfl) rfl rfl (TK rfl) rfl rfl) rfl ?_
 refine DOps.s0 (loadV (TK rfl) rfl rfl rfl) rfl ?_
 refine DOps.s0 (binI rfl rfl rfl) rfl ?_
 refine DOps.s0 moveA rfl ?_
 refine DOps.gC rfl rfl (fun hC => moveA) rfl ?_
 refine DOps.gC rfl rfl (fun hC => loadV (TK rfl) rfl rfl rfl) rfl ?_
 obtain ⟨x20, gx20, hE⟩ := guardO_some hE
 refine DOps.gC rfl rfl (fun hC => ungdA (k := 111) rfl (ungdA (k := 112) rfl (callR rfl rfl (Z24_walk (gx20 hC) _ hpG)))) rfl ?_
 refine DOps.s0 (pickAndA rfl rfl rfl) rfl ?_
 refine DOps.s0 (fieldVA (TK rfl) rfl rfl (TK rfl) rfl rfl) rfl ?_
 refine DOps.s0 (loadV (TK rfl) rfl rfl rfl) rfl ?_
 obtain ⟨x21, gx21, hE⟩ := bindO_some hE
 refine DOps.sH (callH rfl rfl (Z20_walk gx21 _ hpG hpG)) rfl ?_
 refine DOps.heq (h' := (((H.set c0_1 (some (.tok 2 x21.Ffaults.l.length))).set c0 (some (.cells (Schema_checker.cg (some c0_1) x21)))).set c2 (some (.map (seenM (insS a2 x2.FName)))))) (by first | rfl | (rw [Heap.set_set]; rfl) | (funext n_; simp only [Heap.set]; (repeat' split) <;> first | rfl | (exfalso; simp_all; done) | (simp_all; done))) ?_
 refine DOps.nil (by decide +kernel) ?_
 refine hK19 _ ?_
 clear hK19 K19
 refine seqK fun K22 hK22 => ?_
 refine region ?_
 refine s0 (fieldVA (TK rfl) rfl rfl (TK rfl) rfl rfl) rfl ?_
 refine s0 (loadV (TK rfl) rfl rfl rfl) rfl ?_
 refine nil ?_
 refine hK22 _ ?_
 clear hK22 K22
 refine block ?_
 refine seqJH (KeepsT.A (k := 0) (KeepsT.A (k := 6) (KeepsT.A (k := 119) KeepsT.nil))) (fun (z : Bool) => [(120, .a (.d (.bool z)))]) (fun z => (((H.set c0_1 (some (.tok 2 x21.Ffaults.l.length))).set c0 (some (.cells (Schema_checker.cg (some c0_1) x21)))).set c2 (some (.map (seenM (insS a2 x2.FName)))))) (fun z => Z21_j23 a2 x2 x21 z = some r) ?_ ?_
 ·intro K23 hK23
  refine seqK fun K34 hK34 => ?_
  refine region ?_
  refine s0 (binI rfl rfl rfl) rfl ?_
  refine s0 assignA rfl ?_
  refine nil ?_
  refine hK34 _ ?_
  clear hK34 K34
  refine condE hE rfl (fun hc35 hE => ?_) (fun hc35 hE => ?_)
  ·refine AWp.skip ?_
   exact hK23 _ (decide (x2.FKind = (1 : Int))) Weak.toA hE
  refine region ?_
  refine s0 (binI rfl rfl rfl) rfl ?_
  refine s0 assignA rfl ?_
  refine nil ?_
  exact hK23 _ (decide (x2.FKind = (2 : Int))) Weak.toA hE
 rintro s120_24 hE
 try dsimp only at hE
 unfold Z21_j23 at hE
 refine condE hE rfl (fun hc25 hE => ?_) (fun hc25 hE => ?_)
 ·refine region ?_
  refine s0 moveA rfl ?_
  refine s0 (loadV (TK rfl) rfl rfl rfl) rfl ?_
  obtain ⟨x26, gx26, hE⟩ := bindO_some hE
  refine sH (callH rfl rfl (Z22_walk gx26 _ hpG hpG)) rfl ?_
  refine AOps.heq (h' := (((H.set c0_1 (some (.tok 2 x26.Ffaults.l.length))).set c0 (some (.cells (Schema_checker.cg (some c0_1) x26)))).set c2 (some (.map (seenM (insS a2 x2.FName)))))) (by first | rfl | (rw [Heap.set_set]; rfl) | (funext n_; simp only [Heap.set]; (repeat' split) <;> first | rfl | (exfalso; simp_all; done) | (simp_all; done))) ?_
  refine nil ?_
  repeat (first | refine xBlock_normal ?_ | refine xThen_exit ?_ | refine xBlock_exit ?_)
  obtain rfl := Option.some.inj hE
  refine retQ.normalF (((H.set c0_1 (some (.tok 2 x26.Ffaults.l.length))).set c0 (some (.cells (Schema_checker.cg (some c0_1) x26)))).set c2 (some (.map (seenM (insS a2 x2.FName))))) (xs := []) rfl ⟨rfl, rfl⟩ ?_
  exact (fun _ _ h => h)
 refine seqK fun K27 hK27 => ?_
 refine region ?_
 refine s0 (binI rfl rfl rfl) rfl ?_
 refine s0 assignA rfl ?_
 refine nil ?_
 refine hK27 _ ?_
 clear hK27 K27
 refine condE hE rfl (fun hc28 hE => ?_) (fun hc28 hE => ?_)
 ·refine region ?_
  refine s0 moveA rfl ?_
  refine s0 (loadV (TK rfl) rfl rfl rfl) rfl ?_
  obtain ⟨x29, gx29, hE⟩ := bindO_some hE
  refine sH (callH rfl rfl (Z25_walk gx29 _ hpG hpG)) rfl ?_
  refine AOps.heq (h' := (((H.set c0_1 (some (.tok 2 x29.Ffaults.l.length))).set c0 (some (.cells (Schema_checker.cg (some c0_1) x29)))).set c2 (some (.map (seenM (insS a2 x2.FName)))))) (by first | rfl | (rw [Heap.set_set]; rfl) | (funext n_; simp only [Heap.set]; (repeat' split) <;> first | rfl | (exfalso; simp_all; done) | (simp_all; done))) ?_
  refine nil ?_
  repeat (first | refine xBlock_normal ?_ | refine xThen_exit ?_ | refine xBlock_exit ?_)
  obtain rfl := Option.some.inj hE
  refine retQ.normalF (((H.set c0_1 (some (.tok 2 x29.Ffaults.l.length))).set c0 (some (.cells (Schema_checker.cg (some c0_1) x29)))).set c2 (some (.map (seenM (insS a2 x2.FName))))) (xs := []) rfl ⟨rfl, rfl⟩ ?_
  exact (fun _ _ h => h)
 refine seqK fun K30 hK30 => ?_
 refine region ?_
 refine s0 (binI rfl rfl rfl) rfl ?_
 refine s0 assignA rfl ?_
 refine nil ?_
 refine hK30 _ ?_
 clear hK30 K30
 refine condE hE rfl (fun hc31 hE => ?_) (fun hc31 hE => ?_)
 ·refine region ?_
  refine s0 moveA rfl ?_
  refine s0 (fieldVA (TK rfl) rfl rfl (TK rfl) rfl rfl) rfl ?_
  refine s0 (loadV (TK rfl) rfl rfl rfl) rfl ?_
  refine s0 (fieldVA (TK rfl) rfl rfl (TK rfl) rfl rfl) rfl ?_
  refine s0 (loadV (TK rfl) rfl rfl rfl) rfl ?_
  obtain ⟨x32, gx32, hE⟩ := bindO_some hE
  refine s0 (catM rfl rfl gx32) rfl ?_
  obtain ⟨x33, gx33, hE⟩ := bindO_some hE
  refine sH (callH rfl rfl (Z23_walk gx33 _ hpG hpG)) rfl ?_
  refine AOps.heq (h' := (((H.set c0_1 (some (.tok 2 x33.Ffaults.l.length))).set c0 (some (.cells (Schema_checker.cg (some c0_1) x33)))).set c2 (some (.map (seenM (insS a2 x2.FName)))))) (by first | rfl | (rw [Heap.set_set]; rfl) | (funext n_; simp only [Heap.set]; (repeat' split) <;> first | rfl | (exfalso; simp_all; done) | (simp_all; done))) ?_
  refine nil ?_
  repeat (first | refine xBlock_normal ?_ | refine xThen_exit ?_ | refine xBlock_exit ?_)
  obtain rfl := Option.some.inj hE
  refine retQ.normalF (((H.set c0_1 (some (.tok 2 x33.Ffaults.l.length))).set c0 (some (.cells (Schema_checker.cg (some c0_1) x33)))).set c2 (some (.map (seenM (insS a2 x2.FName))))) (xs := []) rfl ⟨rfl, rfl⟩ ?_
  exact (fun _ _ h => h)
 refine AWp.skip ?_
 repeat (first | refine xBlock_normal ?_ | refine xThen_exit ?_ | refine xBlock_exit ?_)
 obtain rfl := Option.some.inj hE
 refine retQ.normalF (((H.set c0_1 (some (.tok 2 x21.Ffaults.l.length))).set c0 (some (.cells (Schema_checker.cg (some c0_1) x21)))).set c2 (some (.map (seenM (insS a2 x2.FName))))) (xs := []) rfl ⟨rfl, rfl⟩ ?_
 exact (fun _ _ h => h)
def Z14_j10  (y11_id12_3 : Schema_checker) : Option (Sl TFault) := some y11_id12_3.Ffaults
def Z14_j7 (a0 : TDoc) (a1 : Bool)  (y8_id12_3 : Schema_checker) (y9_id13_6 : (List Bs)) : Option (Sl TFault) := (Z15 a0 ([81, 117, 101, 114, 121] : Bs)).bind fun x14 => bif (a1 && (!x14.2)) then ((Z20 y8_id12_3 true (30 : Int) ([81, 117, 101, 114, 121] : Bs)).bind fun x17 => Z14_j10   x17) else (Z14_j10   y8_id12_3)
def Z14_l20 (a0 : TDoc) (a1 : Bool)  : Nat → Nat → Schema_checker → (List Bs) → Option (Sl TFault)
 | 0, _, _, _ => none
 | n20 + 1, s17_21, y22_id12_3, y23_id13_6 => bif (decide (((s17_21 : Nat) : Int) < ((a0.FDefs.l.length : Nat) : Int))) then ((Z21 y22_id12_3 ((s17_21 : Nat) : Int) y23_id13_6).bind fun x29 => (Z14_l20 a0 a1 n20) (s17_21 + 1) x29.1 x29.2) else (Z14_j7 a0 a1  y22_id12_3 y23_id13_6)
def Z14 (a0 : TDoc) (a1 : Bool) : Option (Sl TFault) := Z14_l20 a0 a1 (a0.FDefs.l.length + 1) 0 (Schema_checker.mk a0 (Sl.nil : Sl TFault)) ([] : List Bs)
theorem Z14_walk {a0 : TDoc} {a1 : Bool}   {r : (Sl TFault)} (hE : Z14 a0 a1 = some r) (H : Heap)  : ACalls Tryz.prog 33 [.agg (TDoc.c a0), .d (.bool a1)] H fun v h' => v = .a (.d (Sl.d 2 TFault.c none r)) ∧ h' = H := by
 unfold Z14 at hE
 refine ACalls.of_wp (fn := Tryz.f33) (c := _) Tryz.tab_ok (fun _ _ => Tryz.call33 _ _) Tryz.func33 rfl (n := 41) rfl (rs := [.tmp 4]) rfl rfl ?_
 refine seqK fun K1 hK1 => ?_
 refine region ?_
 refine s0 (boxV rfl) rfl ?_
 refine s0 (assignNil (k' := 2) rfl) rfl ?_
 refine nil ?_
 refine hK1 _ ?_
 clear hK1 K1
 refine seqK fun K2 hK2 => ?_
 refine region ?_
 refine s0 (loadV (TK rfl) rfl rfl rfl) rfl ?_
 refine s0 (build Tryz.tab_ok rfl rfl rfl rfl rfl rfl) rfl ?_
 refine AOps.tok 2 fun tk12_4 htk12_4 => ?_
 refine sE (StepE.boxO rfl) rfl (fun _ _ _ ⟨id12_3, hid12_3, e1, e2, e3⟩ => ?_); subst e1 e2 e3
 obtain ⟨ne_id12_3_tk12_4, hid12_3⟩ := Heap.set_fresh hid12_3
 refine AOps.recell id12_3 _ hpG (fun j w cs hh hx => tok_cell 1 2 2 hh (t := tk12_4) hpG hx rfl) ?_
 refine AOps.heq (h' := ((H.set tk12_4 (some (.tok 2 0))).set id12_3 (some (.cells (Schema_checker.cg (some tk12_4) (Schema_checker.mk a0 (Sl.nil : Sl TFault))))))) (by first | rfl | (rw [Heap.set_set]; rfl) | (funext n_; simp only [Heap.set]; (repeat' split) <;> first | rfl | (exfalso; simp_all; done) | (simp_all; done))) ?_
 refine s0 assignA rfl ?_
 refine nil ?_
 refine hK2 _ ?_
 clear hK2 K2
 refine seqK fun K5 hK5 => ?_
 refine region ?_
 refine sE StepE.makeMap rfl (fun _ _ _ ⟨id13_6, hid13_6, e1, e2, e3⟩ => ?_); subst e1 e2 e3
 obtain ⟨ne_id13_6_id12_3, hid13_6⟩ := Heap.set_fresh hid13_6
 obtain ⟨ne_id13_6_tk12_4, hid13_6⟩ := Heap.set_fresh hid13_6
 refine AOps.heq (h' := (((H.set tk12_4 (some (.tok 2 0))).set id12_3 (some (.cells (Schema_checker.cg (some tk12_4) (Schema_checker.mk a0 (Sl.nil : Sl TFault)))))).set id13_6 (some (.map (seenM ([] : List Bs)))))) (by first | rfl | (rw [Heap.set_set]; rfl) | (funext n_; simp only [Heap.set]; (repeat' split) <;> first | rfl | (exfalso; simp_all; done) | (simp_all; done))) ?_
 refine s0 assignA rfl ?_
 refine nil ?_
 refine hK5 _ ?_
 clear hK5 K5
 refine seqJH (KeepsT.A (k := 1) (KeepsT.A (k := 2) (KeepsT.A (k := 5) KeepsT.nil))) (fun (z : Schema_checker × (List Bs)) => []) (fun z => (((H.set tk12_4 (some (.tok 2 z.1.Ffaults.l.length))).set id12_3 (some (.cells (Schema_checker.cg (some tk12_4) z.1)))).set id13_6 (some (.map (seenM z.2))))) (fun z => Z14_j7 a0 a1 z.1 z.2 = some r) ?_ ?_
 ·intro K7 hK7
  refine seqK fun K18 hK18 => ?_
  refine region ?_
  refine s0 (fieldVA (TK rfl) rfl rfl (TK rfl) rfl rfl) rfl ?_
  refine s0 (loadV (TK rfl) rfl rfl rfl) rfl ?_
  refine sLen (f := TDef.c) (s := a0.FDefs) (TK rfl) rfl rfl rfl rfl fun hL19 => ?_
  refine s0 moveA rfl ?_
  refine nil ?_
  refine hK18 _ ?_
  clear hK18 K18
  refine block ?_
  refine loopH (KeepsT.A (k := 1) (KeepsT.A (k := 2) (KeepsT.A (k := 5) (KeepsT.A (k := 6) (KeepsT.A (k := 16) KeepsT.nil))))) (fun (z : Nat × Nat × Schema_checker × (List Bs)) => [(17, .a (.d (.int .i64 ((z.2.1 : Nat) : Int))))]) (fun z => (((H.set tk12_4 (some (.tok 2 z.2.2.1.Ffaults.l.length))).set id12_3 (some (.cells (Schema_checker.cg (some tk12_4) z.2.2.1)))).set id13_6 (some (.map (seenM z.2.2.2))))) (fun z => z.1) (fun z => Z14_l20 a0 a1 z.1 z.2.1 z.2.2.1 z.2.2.2 = some r) ((a0.FDefs.l.length + 1), 0, (Schema_checker.mk a0 (Sl.nil : Sl TFault)), ([] : List Bs)) hE Weak.toA ?_
  rintro ⟨n20, s17_21, y22_id12_3, y23_id13_6⟩ hE K20 hK20
  try dsimp only at hE
  cases n20 with
  | zero => cases hE
  | succ n20 =>
    rw [Z14_l20] at hE
    refine seqK fun K24 hK24 => ?_
    refine region ?_
    refine s0 (binI rfl rfl rfl) rfl ?_
    refine nil ?_
    refine hK24 _ ?_
    clear hK24 K24
    refine seqK fun K25 hK25 => ?_
    refine condE hE rfl (fun hc26 hE => ?_) (fun hc26 hE => ?_)
    ·try dsimp only at hc26
     have hf26 := of_decide_eq_true hc26
     refine AWp.skip ?_
     refine hK25 _ ?_
     clear hK25 K25
     refine seqK fun K27 hK27 => ?_
     refine block ?_
     refine seqK fun K28 hK28 => ?_
     refine region ?_
     refine s0 moveA rfl ?_
     refine s0 assignA rfl ?_
     refine nil ?_
     refine hK28 _ ?_
     clear hK28 K28
     refine region ?_
     refine s0 moveA rfl ?_
     refine s0 moveA rfl ?_
     refine s0 moveA rfl ?_
     obtain ⟨x29, gx29, hE⟩ := bindO_some hE
     refine sH (callH rfl rfl (Z21_walk gx29 _ hpG hpG hpG)) rfl ?_
     refine AOps.heq (h' := (((H.set tk12_4 (some (.tok 2 x29.1.Ffaults.l.length))).set id12_3 (some (.cells (Schema_checker.cg (some tk12_4) x29.1)))).set id13_6 (some (.map (seenM x29.2))))) (by first | rfl | (rw [Heap.set_set]; rfl) | (funext n_; simp only [Heap.set]; (repeat' split) <;> first | rfl | (exfalso; simp_all; done) | (simp_all; done))) ?_
     refine nil ?_
     refine hK27 _ ?_
     clear hK27 K27
     refine region ?_
     refine s0 (addIA rfl rfl) rfl ?_
     refine s0 moveA rfl ?_
     refine nil ?_
     exact hK20 _ (n20, (s17_21 + 1), x29.1, x29.2) Weak.toA hE (Nat.lt_succ_self _)
    refine AWp.exit ?_
    exact hK7 _ (y22_id12_3, y23_id13_6) Weak.toA hE
 rintro ⟨y8_id12_3, y9_id13_6⟩ hE
 try dsimp only at hE
 unfold Z14_j7 at hE
 refine seqJH (KeepsT.A (k := 5) KeepsT.nil) (fun (z : Schema_checker) => []) (fun z => (((H.set tk12_4 (some (.tok 2 z.Ffaults.l.length))).set id12_3 (some (.cells (Schema_checker.cg (some tk12_4) z)))).set id13_6 (some (.map (seenM y9_id13_6))))) (fun z => Z14_j10 z = some r) ?_ ?_
 ·intro K10 hK10
  refine seqK fun K13 hK13 => ?_
  refine region ?_
  refine s0 (loadV (TK rfl) rfl rfl rfl) rfl ?_
  obtain ⟨x14, gx14, hE⟩ := bindO_some hE
  refine s0 (callP rfl rfl (fun H => Z15_walk gx14 H)) rfl ?_
  refine s0 moveA rfl ?_
  refine s0 (extract rfl rfl) rfl ?_
  refine s0 (extract rfl rfl) rfl ?_
  refine sL (allocLA (TK rfl) rfl) rfl ?_
  refine sLn (storeLFA (TK rfl) rfl rfl rfl rfl rfl) ?_
  refine s0 assignA rfl ?_
  refine nil ?_
  refine hK13 _ ?_
  clear hK13 K13
  refine freezeA 8 _ rfl (Keeps.c (k := 1) (by conv => lhs; whnf) (by rfl) (Keeps.c (k := 5) (by conv => lhs; whnf) (by rfl) (Keeps.c (k := 9) (by conv => lhs; whnf) (by rfl) Keeps.nil))) ?_
  refine seqK fun K15 hK15 => ?_
  refine region ?_
  refine s0 moveA rfl ?_
  refine s0 moveA rfl ?_
  refine gC rfl rfl (fun hC => moveA) rfl ?_
  refine gC rfl rfl (fun hC => ungdA (k := 32) rfl (notB rfl)) rfl ?_
  refine s0 (pickAndA rfl rfl rfl) rfl ?_
  refine nil ?_
  refine hK15 _ ?_
  clear hK15 K15
  refine condE hE rfl (fun hc16 hE => ?_) (fun hc16 hE => ?_)
  ·refine region ?_
   refine s0 moveA rfl ?_
   obtain ⟨x17, gx17, hE⟩ := bindO_some hE
   refine sH (callH rfl rfl (Z20_walk gx17 _ hpG hpG)) rfl ?_
   refine AOps.heq (h' := (((H.set tk12_4 (some (.tok 2 x17.Ffaults.l.length))).set id12_3 (some (.cells (Schema_checker.cg (some tk12_4) x17)))).set id13_6 (some (.map (seenM y9_id13_6))))) (by first | rfl | (rw [Heap.set_set]; rfl) | (funext n_; simp only [Heap.set]; (repeat' split) <;> first | rfl | (exfalso; simp_all; done) | (simp_all; done))) ?_
   refine nil ?_
   exact hK10 _ x17 Weak.toA hE
  refine AWp.skip ?_
  exact hK10 _ y8_id12_3 Weak.toA hE
 rintro y11_id12_3 hE
 try dsimp only at hE
 unfold Z14_j10 at hE
 refine seqK fun K12 hK12 => ?_
 refine region ?_
 refine s0 moveA rfl ?_
 refine s0 (nilP rfl) rfl ?_
 refine s0 (fieldP (TK rfl) rfl rfl (TK rfl) rfl rfl) rfl ?_
 refine s0 (loadP (TK rfl) rfl rfl hpG rfl) rfl ?_
 refine s0 assignA rfl ?_
 refine nil ?_
 refine hK12 _ ?_
 clear hK12 K12
 refine AWp.dropTok 4 rfl ?_
 refine AWp.ret ?_
 repeat (first | refine xBlock_ret ?_ | refine xThen_ret ?_)
 obtain rfl := Option.some.inj hE
 refine retQ.retF H rfl ⟨rfl, rfl⟩ ?_
 intro id_ o_ he_
 have e_tk12_4 : id_ ≠ tk12_4 := fun e_ => by subst e_; simp_all [Heap.set]
 have e_id12_3 : id_ ≠ id12_3 := fun e_ => by subst e_; simp_all [Heap.set]
 have e_id13_6 : id_ ≠ id13_6 := fun e_ => by subst e_; simp_all [Heap.set]
 rw [← he_]
 simp only [Heap.set] at he_ ⊢
 (repeat' split) <;> simp_all
def Z32_j2   : Option Int := some (-1 : Int)
def Z32_l6 (a0 : (Sl Bs)) (a1 : Bs)  : Nat → Nat → Option Int
 | 0, _ => none
 | n6 + 1, s8_7 => bif (decide (((s8_7 : Nat) : Int) < ((a0.l.length : Nat) : Int))) then ((a0.l[s8_7]?).bind fun x14 => bif ((a1 == x14)) then (some ((s8_7 : Nat) : Int)) else ((Z32_l6 a0 a1 n6) (s8_7 + 1))) else (Z32_j2   )
def Z32 (a0 : (Sl Bs)) (a1 : Bs) : Option Int := Z32_l6 a0 a1 (a0.l.length + 1) 0
theorem Z32_walk {a0 : (Sl Bs)} {a1 : Bs} {w0 : Option Nat}  {r : Int} (hE : Z32 a0 a1 = some r) (H : Heap)  : ACalls Tryz.prog 26 [.d (Sl.d 1 strE w0 a0), .d (.str a1)] H fun v h' => v = .a (.d (.int .i64 r)) ∧ h' = H := by
 unfold Z32 at hE
 refine ACalls.of_wp (fn := Tryz.f26) (c := _) Tryz.tab_ok (fun _ _ => Tryz.call26 _ _) Tryz.func26 rfl (n := 19) rfl (rs := [.tmp 4]) rfl rfl ?_
 refine seqK fun K1 hK1 => ?_
 refine region ?_
 refine s0 assignA rfl ?_
 refine nil ?_
 refine hK1 _ ?_
 clear hK1 K1
 refine seqJH KeepsT.nil (fun (z : Unit) => []) (fun z => H) (fun z => Z32_j2  = some r) ?_ ?_
 ·intro K2 hK2
  refine seqK fun K4 hK4 => ?_
  refine region ?_
  refine s0 moveA rfl ?_
  refine sLen (f := strE) (s := a0) (TK rfl) rfl rfl rfl rfl fun hL5 => ?_
  refine s0 moveA rfl ?_
  refine nil ?_
  refine hK4 _ ?_
  clear hK4 K4
  refine block ?_
  refine loopH (KeepsT.A (k := 0) (KeepsT.A (k := 1) (KeepsT.A (k := 7) KeepsT.nil))) (fun (z : Nat × Nat) => [(8, .a (.d (.int .i64 ((z.2 : Nat) : Int))))]) (fun z => H) (fun z => z.1) (fun z => Z32_l6 a0 a1 z.1 z.2 = some r) ((a0.l.length + 1), 0) hE Weak.toA ?_
  rintro ⟨n6, s8_7⟩ hE K6 hK6
  try dsimp only at hE
  cases n6 with
  | zero => cases hE
  | succ n6 =>
    rw [Z32_l6] at hE
    refine seqK fun K8 hK8 => ?_
    refine region ?_
    refine s0 (binI rfl rfl rfl) rfl ?_
    refine nil ?_
    refine hK8 _ ?_
    clear hK8 K8
    refine seqK fun K9 hK9 => ?_
    refine condE hE rfl (fun hc10 hE => ?_) (fun hc10 hE => ?_)
    ·try dsimp only at hc10
     have hf10 := of_decide_eq_true hc10
     refine AWp.skip ?_
     refine hK9 _ ?_
     clear hK9 K9
     refine seqK fun K11 hK11 => ?_
     refine block ?_
     refine seqK fun K12 hK12 => ?_
     refine region ?_
     refine s0 moveA rfl ?_
     refine s0 assignA rfl ?_
     refine nil ?_
     refine hK12 _ ?_
     clear hK12 K12
     refine seqK fun K13 hK13 => ?_
     refine region ?_
     refine s0 moveA rfl ?_
     refine s0 moveA rfl ?_
     refine s0 moveA rfl ?_
     obtain ⟨x14, gx14, hE⟩ := bindO_some hE
     refine s0 (idxMn (f := strE) (n := s8_7) (TK rfl) rfl (TK rfl) rfl rfl rfl gx14) rfl ?_
     refine s0 (loadV (TK rfl) rfl rfl rfl) rfl ?_
     refine s0 (binS rfl rfl rfl) rfl ?_
     refine nil ?_
     refine hK13 _ ?_
     clear hK13 K13
     refine condE hE rfl (fun hc15 hE => ?_) (fun hc15 hE => ?_)
     ·refine seqK fun K16 hK16 => ?_
      refine region ?_
      refine s0 moveA rfl ?_
      refine s0 assignA rfl ?_
      refine nil ?_
      refine hK16 _ ?_
      clear hK16 K16
      refine AWp.ret ?_
      repeat (first | refine xBlock_ret ?_ | refine xThen_ret ?_)
      obtain rfl := Option.some.inj hE
      refine retQ.retF H rfl ⟨rfl, rfl⟩ ?_
      exact (fun _ _ h => h)
     refine AWp.skip ?_
     refine hK11 _ ?_
     clear hK11 K11
     refine region ?_
     refine s0 (addIA rfl rfl) rfl ?_
     refine s0 moveA rfl ?_
     refine nil ?_
     exact hK6 _ (n6, (s8_7 + 1)) Weak.toA hE (Nat.lt_succ_self _)
    refine AWp.exit ?_
    exact hK2 _ () Weak.toA hE
 rintro _ hE
 try dsimp only at hE
 unfold Z32_j2 at hE
 refine seqK fun K3 hK3 => ?_
 refine region ?_
 refine s0 assignA rfl ?_
 refine nil ?_
 refine hK3 _ ?_
 clear hK3 K3
 refine AWp.ret ?_
 repeat (first | refine xBlock_ret ?_ | refine xThen_ret ?_)
 obtain rfl := Option.some.inj hE
 refine retQ.retF H rfl ⟨rfl, rfl⟩ ?_
 exact (fun _ _ h => h)
def Z30 (a0 : (Sl Bs)) (a1 : Bs) : Option Bool := (Z32 a0 a1).bind fun x3 => some (decide ((0 : Int) ≤ x3))
theorem Z30_walk {a0 : (Sl Bs)} {a1 : Bs} {w0 : Option Nat}  {r : Bool} (hE : Z30 a0 a1 = some r) (H : Heap)  : ACalls Tryz.prog 15 [.d (Sl.d 1 strE w0 a0), .d (.str a1)] H fun v h' => v = .a (.d (.bool r)) ∧ h' = H := by
 unfold Z30 at hE
 refine ACalls.of_wp (fn := Tryz.f15) (c := _) Tryz.tab_ok (fun _ _ => Tryz.call15 _ _) Tryz.func15 rfl (n := 9) rfl (rs := [.tmp 4]) rfl rfl ?_
 refine seqK fun K1 hK1 => ?_
 refine region ?_
 refine s0 assignA rfl ?_
 refine nil ?_
 refine hK1 _ ?_
 clear hK1 K1
 refine seqK fun K2 hK2 => ?_
 refine region ?_
 refine s0 moveA rfl ?_
 refine s0 moveA rfl ?_
 obtain ⟨x3, gx3, hE⟩ := bindO_some hE
 refine s0 (callP rfl rfl (fun H => Z32_walk gx3 H)) rfl ?_
 refine s0 (binI rfl rfl rfl) rfl ?_
 refine s0 assignA rfl ?_
 refine nil ?_
 refine hK2 _ ?_
 clear hK2 K2
 refine AWp.ret ?_
 repeat (first | refine xBlock_ret ?_ | refine xThen_ret ?_)
 obtain rfl := Option.some.inj hE
 refine retQ.retF H rfl ⟨rfl, rfl⟩ ?_
 exact (fun _ _ h => h)
def Z4 (a0 : Abstract_faces) (a1 : Bs) (a2 : Int) : Option Int := none
theorem Z4_walk {a0 : Abstract_faces} {a1 : Bs} {a2 : Int} {q0_1 : Option Nat} {c0 : Nat} {r : Int} (hE : Z4 a0 a1 a2 = some r) (H : Heap) (hc0 : H c0 = some (.cells (Abstract_faces.cg q0_1 a0))) : ACalls Tryz.prog 65 [.d (.ptr c0 0), .d (.str a1), .d (.int .i64 a2)] H fun v h' => v = .a (.d (.int .i64 r)) ∧ h' = H := by cases hE
def Z2 (a0 : Abstract_faces) (a1 : Int) (a2 : Bs) : Option Abstract_faces := (appC 24 a0.Fout (⟨false, [(TFault.mk a1 a2)]⟩ : Sl TFault)).bind fun x1 => some (Abstract_faces.mk a0.Fd x1)
theorem Z2_walk {a0 : Abstract_faces} {a1 : Int} {a2 : Bs}  {c0 : Nat} {c0_1 : Nat} {r : Abstract_faces} (hE : Z2 a0 a1 a2 = some r) (H : Heap) (hc0 : H c0 = some (.cells (Abstract_faces.cg (some c0_1) a0))) (ht0_1 : H c0_1 = some (.tok 2 a0.Fout.l.length)) : ACalls Tryz.prog 68 [.d (.ptr c0 0), .d (.int .i64 a1), .d (.str a2)] H fun v h' => v = .tup [] ∧ h' = ((H.set c0_1 (some (.tok 2 r.Fout.l.length))).set c0 (some (.cells (Abstract_faces.cg (some c0_1) r)))) := by
 unfold Z2 at hE
 refine ACalls.of_wp (fn := Tryz.f68) (c := _) Tryz.tab_ok (fun _ _ => Tryz.call68 _ _) Tryz.func68 rfl (n := 18) rfl (rs := []) rfl rfl ?_
 have ne_c0_c0_1 : c0 ≠ c0_1 := fun e_ => by subst e_; simp_all
 refine AWp.heqA (h' := ((H.set c0_1 (some (.tok 2 a0.Fout.l.length))).set c0 (some (.cells (Abstract_faces.cg (some c0_1) a0))))) (by funext n_; simp only [Heap.set]; (repeat' split) <;> simp_all) ?_
 refine region ?_
 refine s0 moveA rfl ?_
 refine s0 moveA rfl ?_
 refine s0 (nilP rfl) rfl ?_
 refine s0 (fieldP (TK rfl) rfl rfl (TK rfl) rfl rfl) rfl ?_
 refine s0 (loadP (TK rfl) rfl rfl hpG rfl) rfl ?_
 refine s0 moveA rfl ?_
 refine s0 moveA rfl ?_
 refine s0 (build Tryz.tab_ok rfl rfl rfl rfl rfl rfl) rfl ?_
 refine s0 (buildSlice (TK rfl) rfl (TK rfl) rfl rfl rfl rfl rfl rfl) rfl ?_
 obtain ⟨x1, gx1, hE⟩ := bindO_some hE
 refine sH (appM (f := TFault.c) (TK rfl) rfl (TK rfl) (TK rfl) ⟨_, rfl⟩ rfl rfl (by decide) rfl rfl rfl rfl hpG rfl gx1) rfl ?_
 refine AOps.heq (h' := ((H.set c0_1 (some (.tok 2 x1.l.length))).set c0 (some (.cells (Abstract_faces.cg (some c0_1) a0))))) (by first | rfl | (rw [Heap.set_set]; rfl) | (funext n_; simp only [Heap.set]; (repeat' split) <;> first | rfl | (exfalso; simp_all; done) | (simp_all; done))) ?_
 refine s0 (nilP rfl) rfl ?_
 refine s0 (fieldP (TK rfl) rfl rfl (TK rfl) rfl rfl) rfl ?_
 refine sHn (storeP1 (TK rfl) rfl rfl hpG rfl (by repeat (first | exact SetAt.zero | apply SetAt.succ))) rfl rfl ?_
 refine AOps.heq (h' := ((H.set c0_1 (some (.tok 2 x1.l.length))).set c0 (some (.cells (Abstract_faces.cg (some c0_1) (Abstract_faces.mk a0.Fd x1)))))) (by first | rfl | (rw [Heap.set_set]; rfl) | (funext n_; simp only [Heap.set]; (repeat' split) <;> first | rfl | (exfalso; simp_all; done) | (simp_all; done))) ?_
 refine nil ?_
 repeat (first | refine xBlock_normal ?_ | refine xThen_exit ?_ | refine xBlock_exit ?_)
 obtain rfl := Option.some.inj hE
 refine retQ.normalF ((H.set c0_1 (some (.tok 2 x1.l.length))).set c0 (some (.cells (Abstract_faces.cg (some c0_1) (Abstract_faces.mk a0.Fd x1))))) (xs := []) rfl ⟨rfl, rfl⟩ ?_
 exact (fun _ _ h => h)
def Z3 (a0 : Abstract_faces) (a1 : TDef) (a2 : TDef) : Option Abstract_faces := none
theorem Z3_walk {a0 : Abstract_faces} {a1 : TDef} {a2 : TDef}  {c0 : Nat} {c0_1 : Nat} {r : Abstract_faces} (hE : Z3 a0 a1 a2 = some r) (H : Heap) (hc0 : H c0 = some (.cells (Abstract_faces.cg (some c0_1) a0))) (ht0_1 : H c0_1 = some (.tok 2 a0.Fout.l.length)) : ACalls Tryz.prog 105 [.d (.ptr c0 0), .agg (TDef.c a1), .agg (TDef.c a2)] H fun v h' => v = .tup [] ∧ h' = ((H.set c0_1 (some (.tok 2 r.Fout.l.length))).set c0 (some (.cells (Abstract_faces.cg (some c0_1) r)))) := by cases hE
def Z5_j10 (s12_5 : Nat) (k_next_4 : Nat → Abstract_faces → Option Abstract_faces) (y11_c0 : Abstract_faces) : Option Abstract_faces := k_next_4 (s12_5 + 1) y11_c0
def Z5_j16 (a1 : TDef) (s12_5 : Nat) (y6_c0 : Abstract_faces) (x13 : Bs) (k_next_4 : Nat → Abstract_faces → Option Abstract_faces) (s6_17 : Int) : Option Abstract_faces := bif (!decide (s6_17 = (0 : Int))) then ((Z2 y6_c0 s6_17 a1.FName).bind fun x22 => Z5_j10 s12_5 k_next_4 x22) else ((Z15 y6_c0.Fd x13).bind fun x24 => (Z3 y6_c0 a1 x24.1).bind fun x25 => Z5_j10 s12_5 k_next_4 x25)
def Z5_l4 (a1 : TDef)  : Nat → Nat → Abstract_faces → Option Abstract_faces
 | 0, _, _ => none
 | n4 + 1, s12_5, y6_c0 => bif (decide (((s12_5 : Nat) : Int) < ((a1.FImplements.l.length : Nat) : Int))) then ((a1.FImplements.l[s12_5]?).bind fun x13 => (Z4 y6_c0 x13 (2 : Int)).bind fun x15 => guardO ((decide (x15 = (0 : Int)))) (partC a1.FImplements none (some ((s12_5 : Nat) : Int))) (Sl.nil : Sl Bs) fun x27 => guardO ((decide (x15 = (0 : Int)))) (Z30 x27 x13) false fun x28 => bif ((decide (x15 = (0 : Int))) && x28) then (Z5_j16 a1 s12_5 y6_c0 x13 ((Z5_l4 a1 n4)) (7 : Int)) else (Z5_j16 a1 s12_5 y6_c0 x13 ((Z5_l4 a1 n4)) x15)) else (some y6_c0)
def Z5 (a0 : Abstract_faces) (a1 : TDef) : Option Abstract_faces := Z5_l4 a1 (a1.FImplements.l.length + 1) 0 a0
theorem Z5_walk {a0 : Abstract_faces} {a1 : TDef}  {c0 : Nat} {c0_1 : Nat} {r : Abstract_faces} (hE : Z5 a0 a1 = some r) (H : Heap) (hc0 : H c0 = some (.cells (Abstract_faces.cg (some c0_1) a0))) (ht0_1 : H c0_1 = some (.tok 2 a0.Fout.l.length)) : ACalls Tryz.prog 64 [.d (.ptr c0 0), .agg (TDef.c a1)] H fun v h' => v = .tup [] ∧ h' = ((H.set c0_1 (some (.tok 2 r.Fout.l.length))).set c0 (some (.cells (Abstract_faces.cg (some c0_1) r)))) := by
 unfold Z5 at hE
 refine ACalls.of_wp (fn := Tryz.f64) (c := _) Tryz.tab_ok (fun _ _ => Tryz.call64 _ _) Tryz.func64 rfl (n := 51) rfl (rs := []) rfl rfl ?_
 have ne_c0_c0_1 : c0 ≠ c0_1 := fun e_ => by subst e_; simp_all
 refine AWp.heqA (h' := ((H.set c0_1 (some (.tok 2 a0.Fout.l.length))).set c0 (some (.cells (Abstract_faces.cg (some c0_1) a0))))) (by funext n_; simp only [Heap.set]; (repeat' split) <;> simp_all) ?_
 refine seqK fun K1 hK1 => ?_
 refine region ?_
 refine s0 (boxV rfl) rfl ?_
 refine nil ?_
 refine hK1 _ ?_
 clear hK1 K1
 refine seqK fun K2 hK2 => ?_
 refine region ?_
 refine s0 (fieldVA (TK rfl) rfl rfl (TK rfl) rfl rfl) rfl ?_
 refine s0 (loadV (TK rfl) rfl rfl rfl) rfl ?_
 refine sLen (f := strE) (s := a1.FImplements) (TK rfl) rfl rfl rfl rfl fun hL3 => ?_
 refine s0 moveA rfl ?_
 refine nil ?_
 refine hK2 _ ?_
 clear hK2 K2
 refine block ?_
 refine loopH (KeepsT.A (k := 0) (KeepsT.A (k := 3) (KeepsT.A (k := 10) (KeepsT.A (k := 11) KeepsT.nil)))) (fun (z : Nat × Nat × Abstract_faces) => [(12, .a (.d (.int .i64 ((z.2.1 : Nat) : Int))))]) (fun z => ((H.set c0_1 (some (.tok 2 z.2.2.Fout.l.length))).set c0 (some (.cells (Abstract_faces.cg (some c0_1) z.2.2))))) (fun z => z.1) (fun z => Z5_l4 a1 z.1 z.2.1 z.2.2 = some r) ((a1.FImplements.l.length + 1), 0, a0) hE Weak.toA ?_
 rintro ⟨n4, s12_5, y6_c0⟩ hE K4 hK4
 try dsimp only at hE
 cases n4 with
 | zero => cases hE
 | succ n4 =>
   rw [Z5_l4] at hE
   refine seqK fun K7 hK7 => ?_
   refine region ?_
   refine s0 (binI rfl rfl rfl) rfl ?_
   refine nil ?_
   refine hK7 _ ?_
   clear hK7 K7
   refine seqK fun K8 hK8 => ?_
   refine condE hE rfl (fun hc9 hE => ?_) (fun hc9 hE => ?_)
   ·try dsimp only at hc9
    have hf9 := of_decide_eq_true hc9
    refine AWp.skip ?_
    refine hK8 _ ?_
    clear hK8 K8
    refine seqJH (KeepsT.A (k := 0) (KeepsT.A (k := 3) (KeepsT.A (k := 10) (KeepsT.A (k := 11) (KeepsT.A (k := 12) KeepsT.nil))))) (fun (z : Abstract_faces) => []) (fun z => ((H.set c0_1 (some (.tok 2 z.Fout.l.length))).set c0 (some (.cells (Abstract_faces.cg (some c0_1) z))))) (fun z => Z5_j10 s12_5 ((Z5_l4 a1 n4)) z = some r) ?_ ?_
    ·intro K10 hK10
     refine block ?_
     refine seqK fun K12 hK12 => ?_
     refine region ?_
     refine s0 moveA rfl ?_
     obtain ⟨x13, gx13, hE⟩ := bindO_some hE
     refine s0 (idxMn (f := strE) (n := s12_5) (TK rfl) rfl (TK rfl) rfl rfl rfl gx13) rfl ?_
     refine s0 (loadV (TK rfl) rfl rfl rfl) rfl ?_
     refine s0 assignA rfl ?_
     refine s0 assignA rfl ?_
     refine nil ?_
     refine hK12 _ ?_
     clear hK12 K12
     refine seqK fun K14 hK14 => ?_
     refine region ?_
     refine s0 moveA rfl ?_
     refine s0 moveA rfl ?_
     obtain ⟨x15, gx15, hE⟩ := bindO_some hE
     refine s0 (callR rfl rfl (Z4_walk gx15 _ hpG)) rfl ?_
     refine s0 assignA rfl ?_
     refine nil ?_
     refine hK14 _ ?_
     clear hK14 K14
     refine seqJH (KeepsT.A (k := 0) (KeepsT.A (k := 3) (KeepsT.A (k := 5) (KeepsT.A (k := 10) (KeepsT.A (k := 11) (KeepsT.A (k := 12) KeepsT.nil)))))) (fun (z : Int) => [(6, .a (.d (.int .i64 z)))]) (fun z => ((H.set c0_1 (some (.tok 2 y6_c0.Fout.l.length))).set c0 (some (.cells (Abstract_faces.cg (some c0_1) y6_c0))))) (fun z => Z5_j16 a1 s12_5 y6_c0 x13 ((Z5_l4 a1 n4)) z = some r) ?_ ?_
     ·intro K16 hK16
      refine seqK fun K26 hK26 => ?_
      refine region ?_
      refine s0 moveA rfl ?_
      refine s0 (binI rfl rfl rfl) rfl ?_
      refine s0 moveA rfl ?_
      refine gC rfl rfl (fun hC => fieldVA (TK rfl) rfl rfl (TK rfl) rfl rfl) rfl ?_
      refine gC rfl rfl (fun hC => ungdA (k := 23) rfl (loadV (TK rfl) rfl rfl rfl)) rfl ?_
      refine gC rfl rfl (fun hC => moveA) rfl ?_
      obtain ⟨x27, gx27, hE⟩ := guardO_some hE
      refine gC rfl rfl (fun hC => ungdA (k := 24) rfl (ungdA (k := 25) rfl (partM (f := strE) (l := none) (r := (some ((s12_5 : Nat) : Int))) (TK rfl) rfl (TK rfl) rfl rfl trivial rfl (gx27 hC)))) rfl ?_
      refine gC rfl rfl (fun hC => moveA) rfl ?_
      obtain ⟨x28, gx28, hE⟩ := guardO_some hE
      refine gC rfl rfl (fun hC => ungdA (k := 26) rfl (ungdA (k := 27) rfl (callP rfl rfl (fun H => Z30_walk (gx28 hC) H)))) rfl ?_
      refine s0 (pickAndA rfl rfl rfl) rfl ?_
      refine nil ?_
      refine hK26 _ ?_
      clear hK26 K26
      refine condE hE rfl (fun hc29 hE => ?_) (fun hc29 hE => ?_)
      ·refine region ?_
       refine s0 assignA rfl ?_
       refine nil ?_
       exact hK16 _ (7 : Int) Weak.toA hE
      refine AWp.skip ?_
      exact hK16 _ x15 Weak.toA hE
     rintro s6_17 hE
     try dsimp only at hE
     unfold Z5_j16 at hE
     refine seqK fun K18 hK18 => ?_
     refine seqK fun K19 hK19 => ?_
     refine region ?_
     refine s0 moveA rfl ?_
     refine s0 (binI rfl rfl rfl) rfl ?_
     refine nil ?_
     refine hK19 _ ?_
     clear hK19 K19
     refine condE hE rfl (fun hc20 hE => ?_) (fun hc20 hE => ?_)
     ·refine seqK fun K21 hK21 => ?_
      refine region ?_
      refine s0 moveA rfl ?_
      refine s0 moveA rfl ?_
      refine s0 (fieldVA (TK rfl) rfl rfl (TK rfl) rfl rfl) rfl ?_
      refine s0 (loadV (TK rfl) rfl rfl rfl) rfl ?_
      obtain ⟨x22, gx22, hE⟩ := bindO_some hE
      refine sH (callH rfl rfl (Z2_walk gx22 _ hpG hpG)) rfl ?_
      refine AOps.heq (h' := ((H.set c0_1 (some (.tok 2 x22.Fout.l.length))).set c0 (some (.cells (Abstract_faces.cg (some c0_1) x22))))) (by first | rfl | (rw [Heap.set_set]; rfl) | (funext n_; simp only [Heap.set]; (repeat' split) <;> first | rfl | (exfalso; simp_all; done) | (simp_all; done))) ?_
      refine nil ?_
      refine hK21 _ ?_
      clear hK21 K21
      refine AWp.exit ?_
      exact hK10 _ x22 Weak.toA hE
     refine AWp.skip ?_
     refine hK18 _ ?_
     clear hK18 K18
     refine seqK fun K23 hK23 => ?_
     refine region ?_
     refine s0 moveA rfl ?_
     refine s0 (nilP rfl) rfl ?_
     refine s0 (fieldP (TK rfl) rfl rfl (TK rfl) rfl rfl) rfl ?_
     refine s0 (loadP (TK rfl) rfl rfl hpG rfl) rfl ?_
     refine s0 moveA rfl ?_
     obtain ⟨x24, gx24, hE⟩ := bindO_some hE
     refine s0 (callP rfl rfl (fun H => Z15_walk gx24 H)) rfl ?_
     refine s0 moveA rfl ?_
     refine s0 (extract rfl rfl) rfl ?_
     refine s0 (extract rfl rfl) rfl ?_
     refine sL (allocLA (TK rfl) rfl) rfl ?_
     refine sLn (storeLFA (TK rfl) rfl rfl rfl rfl rfl) ?_
     refine s0 assignA rfl ?_
     refine nil ?_
     refine hK23 _ ?_
     clear hK23 K23
     refine freezeA 7 _ rfl (Keeps.c (k := 0) (by conv => lhs; whnf) (by rfl) (Keeps.c (k := 3) (by conv => lhs; whnf) (by rfl) (Keeps.c (k := 10) (by conv => lhs; whnf) (by rfl) (Keeps.c (k := 11) (by conv => lhs; whnf) (by rfl) (Keeps.c (k := 12) (by conv => lhs; whnf) (by rfl) Keeps.nil))))) ?_
     refine region ?_
     refine s0 moveA rfl ?_
     refine s0 (loadV (TK rfl) rfl rfl rfl) rfl ?_
     refine s0 (loadV (TK rfl) rfl rfl rfl) rfl ?_
     obtain ⟨x25, gx25, hE⟩ := bindO_some hE
     refine sH (callH rfl rfl (Z3_walk gx25 _ hpG hpG)) rfl ?_
     refine AOps.heq (h' := ((H.set c0_1 (some (.tok 2 x25.Fout.l.length))).set c0 (some (.cells (Abstract_faces.cg (some c0_1) x25))))) (by first | rfl | (rw [Heap.set_set]; rfl) | (funext n_; simp only [Heap.set]; (repeat' split) <;> first | rfl | (exfalso; simp_all; done) | (simp_all; done))) ?_
     refine nil ?_
     exact hK10 _ x25 Weak.toA hE
    rintro y11_c0 hE
    try dsimp only at hE
    unfold Z5_j10 at hE
    refine region ?_
    refine s0 (addIA rfl rfl) rfl ?_
    refine s0 moveA rfl ?_
    refine nil ?_
    exact hK4 _ (n4, (s12_5 + 1), y11_c0) Weak.toA hE (Nat.lt_succ_self _)
   refine AWp.exit ?_
   repeat (first | refine xBlock_normal ?_ | refine xThen_exit ?_ | refine xBlock_exit ?_)
   obtain rfl := Option.some.inj hE
   refine retQ.normalF ((H.set c0_1 (some (.tok 2 y6_c0.Fout.l.length))).set c0 (some (.cells (Abstract_faces.cg (some c0_1) y6_c0)))) (xs := []) rfl ⟨rfl, rfl⟩ ?_
   exact (fun _ _ h => h)
end Go.Proofs
