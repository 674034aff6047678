import Derived.Test.YtjlggcgmmpopmaaGreatDoorV6
set_option maxRecDepth 100000
set_option maxHeartbeats 2000000
set_option linter.unusedVariables false
set_option linter.unusedSimpArgs false
namespace Go.Proofs
open Go Go.Ab
open AOps Cert AWp
def Z23_n : Nat → Int → Option Bs
 | 0, _ => none
 | n + 1, a0 => (subC (48 : Int) (Int.tmod a0 (10 : Int))).bind fun x3 => bif (decide ((-10 : Int) < a0)) then (some (bytesC (⟨false, [(IntKind.wrap .u8 x3)]⟩ : Sl Int))) else (((Z23_n n) (IntKind.wrap .i64 (Int.tdiv a0 (10 : Int)))).bind fun x9 => (catC x9 (bytesC (⟨false, [(IntKind.wrap .u8 x3)]⟩ : Sl Int))).bind fun x10 => some x10)
theorem Z23_step (n : Nat) (ih_123 : ∀ {a0 : Int}   {r : Bs}, Z23_n n a0 = some r → ∀ (H : Heap), ACalls Tryz.prog 123 [.d (.int .i64 a0)] H fun v h' => v = .a (.d (.str r)) ∧ h' = H) : ∀ {a0 : Int}   {r : Bs}, Z23_n (n + 1) a0 = some r → ∀ (H : Heap), ACalls Tryz.prog 123 [.d (.int .i64 a0)] H fun v h' => v = .a (.d (.str r)) ∧ h' = H := by
 intro a0   r hE H 
 rw [Z23_n] at hE
 refine ACalls.of_wp (fn := Tryz.f123) (c := _) Tryz.tab_ok (fun _ _ => Tryz.call123 _ _) Tryz.func123 rfl (n := 18) rfl (rs := [.tmp 2]) rfl rfl ?_
 refine seqK fun K1 hK1 => ?_
 refine region ?_
 refine s0 assignA rfl ?_
 refine nil ?_
 refine hK1 _ ?_
 clear hK1 K1
 refine seqK fun K2 hK2 => ?_
 refine region ?_
 refine s0 moveA rfl ?_
 refine s0 (remI rfl rfl (by decide)) rfl ?_
 obtain ⟨x3, gx3, hE⟩ := bindO_some hE
 refine s0 (subM rfl rfl gx3) rfl ?_
 refine s0 (convI (TK rfl) (TK rfl) rfl rfl) rfl ?_
 refine s0 (buildSlice (TK rfl) rfl (TK rfl) rfl rfl rfl rfl rfl rfl) rfl ?_
 refine s0 (convB (y := (⟨false, [(IntKind.wrap .u8 x3)]⟩ : Sl Int)) (TK rfl) rfl (TK rfl) rfl (TK rfl) rfl rfl) rfl ?_
 refine s0 assignA rfl ?_
 refine nil ?_
 refine hK2 _ ?_
 clear hK2 K2
 refine seqK fun K4 hK4 => ?_
 refine seqK fun K5 hK5 => ?_
 refine region ?_
 refine s0 moveA rfl ?_
 refine s0 (binI rfl rfl rfl) rfl ?_
 refine nil ?_
 refine hK5 _ ?_
 clear hK5 K5
 refine condE hE rfl (fun hc6 hE => ?_) (fun hc6 hE => ?_)
 ·refine seqK fun K7 hK7 => ?_
  refine region ?_
  refine s0 moveA rfl ?_
  refine s0 assignA rfl ?_
  refine nil ?_
  refine hK7 _ ?_
  clear hK7 K7
  refine AWp.ret ?_
  repeat (first | refine xBlock_ret ?_ | refine xThen_ret ?_)
  obtain rfl := Option.some.inj hE
  refine retQ.retF H rfl ⟨rfl, rfl⟩ ?_
  exact (fun _ _ h => h)
 refine AWp.skip ?_
 refine hK4 _ ?_
 clear hK4 K4
 refine seqK fun K8 hK8 => ?_
 refine region ?_
 refine s0 moveA rfl ?_
 refine s0 (quoI rfl rfl (by decide)) rfl ?_
 obtain ⟨x9, gx9, hE⟩ := bindO_some hE
 refine s0 (callP rfl rfl (fun H => ih_123 gx9 H)) rfl ?_
 refine s0 moveA rfl ?_
 obtain ⟨x10, gx10, hE⟩ := bindO_some hE
 refine s0 (catM rfl rfl gx10) rfl ?_
 refine s0 assignA rfl ?_
 refine nil ?_
 refine hK8 _ ?_
 clear hK8 K8
 refine AWp.ret ?_
 repeat (first | refine xBlock_ret ?_ | refine xThen_ret ?_)
 obtain rfl := Option.some.inj hE
 refine retQ.retF H rfl ⟨rfl, rfl⟩ ?_
 exact (fun _ _ h => h)
theorem Z23_all : ∀ (n : Nat), (∀ {a0 : Int}   {r : Bs}, Z23_n n a0 = some r → ∀ (H : Heap), ACalls Tryz.prog 123 [.d (.int .i64 a0)] H fun v h' => v = .a (.d (.str r)) ∧ h' = H)
 | 0 => fun hE => by first | cases hE | (rw [Z23_n] at hE; cases hE)
 | n + 1 => Z23_step n (Z23_all n)
def Z23 (a0 : Int) : Option Bs := Z23_n F0 a0
theorem Z23_walk {a0 : Int}   {r : Bs} (hE : Z23 a0 = some r) (H : Heap)  : ACalls Tryz.prog 123 [.d (.int .i64 a0)] H fun v h' => v = .a (.d (.str r)) ∧ h' = H := (Z23_all F0) hE H 
def Z20 (a0 : Int) : Option Bs := bif (decide (a0 < (0 : Int))) then ((Z23 a0).bind fun x6 => (catC ([45] : Bs) x6).bind fun x7 => some x7) else ((Z23 (IntKind.wrap .i64 (0 - a0))).bind fun x9 => some x9)
theorem Z20_walk {a0 : Int}   {r : Bs} (hE : Z20 a0 = some r) (H : Heap)  : ACalls Tryz.prog 118 [.d (.int .i64 a0)] H fun v h' => v = .a (.d (.str r)) ∧ h' = H := by
 unfold Z20 at hE
 refine ACalls.of_wp (fn := Tryz.f118) (c := _) Tryz.tab_ok (fun _ _ => Tryz.call118 _ _) Tryz.func118 rfl (n := 11) rfl (rs := [.tmp 2]) rfl rfl ?_
 refine seqK fun K1 hK1 => ?_
 refine region ?_
 refine s0 assignA rfl ?_
 refine nil ?_
 refine hK1 _ ?_
 clear hK1 K1
 refine seqK fun K2 hK2 => ?_
 refine seqK fun K3 hK3 => ?_
 refine region ?_
 refine s0 moveA rfl ?_
 refine s0 (binI rfl rfl rfl) rfl ?_
 refine nil ?_
 refine hK3 _ ?_
 clear hK3 K3
 refine condE hE rfl (fun hc4 hE => ?_) (fun hc4 hE => ?_)
 ·refine seqK fun K5 hK5 => ?_
  refine region ?_
  refine s0 moveA rfl ?_
  obtain ⟨x6, gx6, hE⟩ := bindO_some hE
  refine s0 (callP rfl rfl (fun H => Z23_walk gx6 H)) rfl ?_
  obtain ⟨x7, gx7, hE⟩ := bindO_some hE
  refine s0 (catM rfl rfl gx7) rfl ?_
  refine s0 assignA rfl ?_
  refine nil ?_
  refine hK5 _ ?_
  clear hK5 K5
  refine AWp.ret ?_
  repeat (first | refine xBlock_ret ?_ | refine xThen_ret ?_)
  obtain rfl := Option.some.inj hE
  refine retQ.retF H rfl ⟨rfl, rfl⟩ ?_
  exact (fun _ _ h => h)
 refine AWp.skip ?_
 refine hK2 _ ?_
 clear hK2 K2
 refine seqK fun K8 hK8 => ?_
 refine region ?_
 refine s0 moveA rfl ?_
 refine s0 (negI rfl) rfl ?_
 obtain ⟨x9, gx9, hE⟩ := bindO_some hE
 refine s0 (callP rfl rfl (fun H => Z23_walk gx9 H)) rfl ?_
 refine s0 assignA rfl ?_
 refine nil ?_
 refine hK8 _ ?_
 clear hK8 K8
 refine AWp.ret ?_
 repeat (first | refine xBlock_ret ?_ | refine xThen_ret ?_)
 obtain rfl := Option.some.inj hE
 refine retQ.retF H rfl ⟨rfl, rfl⟩ ?_
 exact (fun _ _ h => h)
def Z68_j2 (a0 : R12_work)  (y3_l0 : TValue) : Option (TValue × R12_work) := (Z63 a0 (23 : Int)).bind fun x5 => some ((TValue.mk (0 : Int) (0 : Int) ([] : Bs) true ([]) (Sl.nil : Sl Bs)), x5)
def Z68_j10 (a0 : R12_work) (a1 : Bs) (a2 : TValue)  (s26_11 : Bool) : Option (TValue × R12_work) := bif s26_11 then (some (a2, a0)) else (bif (((a1 == ([73, 68] : Bs))) && (decide (a2.FKind = (2 : Int)))) then ((Z20 a2.FInt).bind fun x17 => some ((TValue.mk (3 : Int) (0 : Int) x17 true ([]) (Sl.nil : Sl Bs)), a0)) else (Z68_j2 a0  TValue.zero))
def Z68 (a0 : R12_work) (a1 : Bs) (a2 : TValue) : Option (TValue × R12_work) := bif (((((a1 == ([73, 110, 116] : Bs))) && (decide (a2.FKind = (2 : Int)))) && (decide ((-2147483648 : Int) ≤ a2.FInt))) && (decide (a2.FInt < (2147483648 : Int)))) then (some (a2, a0)) else (bif (((a1 == ([83, 116, 114, 105, 110, 103] : Bs))) && (decide (a2.FKind = (3 : Int)))) then (Z68_j10 a0 a1 a2  (((a1 == ([83, 116, 114, 105, 110, 103] : Bs))) && (decide (a2.FKind = (3 : Int))))) else (bif (((a1 == ([66, 111, 111, 108, 101, 97, 110] : Bs))) && (decide (a2.FKind = (1 : Int)))) then (Z68_j10 a0 a1 a2  (((a1 == ([66, 111, 111, 108, 101, 97, 110] : Bs))) && (decide (a2.FKind = (1 : Int))))) else (Z68_j10 a0 a1 a2  (((a1 == ([73, 68] : Bs))) && (decide (a2.FKind = (3 : Int)))))))
theorem Z68_walk {a0 : R12_work} {a1 : Bs} {a2 : TValue}  {c0 : Nat} {r : (TValue × R12_work)} (hE : Z68 a0 a1 a2 = some r) (H : Heap) (hc0 : H c0 = some (.cells (R12_work.c a0))) : ACalls Tryz.prog 101 [.d (.ptr c0 0), .d (.str a1), .agg (TValue.c a2)] H fun v h' => v = .a (.agg (TValue.c r.1)) ∧ h' = (H.set c0 (some (.cells (R12_work.c r.2)))) := by
 unfold Z68 at hE
 refine ACalls.of_wp (fn := Tryz.f101) (c := _) Tryz.tab_ok (fun _ _ => Tryz.call101 _ _) Tryz.func101 rfl (n := 64) rfl (rs := [.cell 6 31]) rfl rfl ?_
 refine AWp.heqA (h' := (H.set c0 (some (.cells (R12_work.c a0))))) (by funext n_; simp only [Heap.set]; (repeat' split) <;> simp_all) ?_
 refine seqK fun K1 hK1 => ?_
 refine region ?_
 refine s0 (boxV rfl) rfl ?_
 refine sL (allocLA (TK rfl) rfl) rfl ?_
 refine nil ?_
 refine hK1 _ ?_
 clear hK1 K1
 refine seqJ (KeepsT.A (k := 0) (KeepsT.A (k := 6) KeepsT.nil)) (fun (z : TValue) => []) (fun z => [TValue.c z]) (fun z => (H.set c0 (some (.cells (R12_work.c a0))))) (fun z => Z68_j2 a0 z = some r) ?_ ?_
 ·intro K2 hK2
  refine block ?_
  refine seqK fun K7 hK7 => ?_
  refine region ?_
  refine s0 moveA rfl ?_
  refine s0 (binS rfl rfl rfl) rfl ?_
  refine s0 moveA rfl ?_
  refine gC rfl rfl (fun hC => fieldVA (TK rfl) rfl rfl (TK rfl) rfl rfl) rfl ?_
  refine gC rfl rfl (fun hC => ungdA (k := 11) rfl (loadV (TK rfl) rfl rfl rfl)) rfl ?_
  refine gC rfl rfl (fun hC => ungdA (k := 12) rfl (binI rfl rfl rfl)) rfl ?_
  refine s0 (pickAndA rfl rfl rfl) rfl ?_
  refine s0 moveA rfl ?_
  refine gC rfl rfl (fun hC => fieldVA (TK rfl) rfl rfl (TK rfl) rfl rfl) rfl ?_
  refine gC rfl rfl (fun hC => ungdA (k := 16) rfl (loadV (TK rfl) rfl rfl rfl)) rfl ?_
  refine gC rfl rfl (fun hC => ungdA (k := 17) rfl (binI rfl rfl rfl)) rfl ?_
  refine s0 (pickAndA rfl rfl rfl) rfl ?_
  refine s0 moveA rfl ?_
  refine gC rfl rfl (fun hC => fieldVA (TK rfl) rfl rfl (TK rfl) rfl rfl) rfl ?_
  refine gC rfl rfl (fun hC => ungdA (k := 21) rfl (loadV (TK rfl) rfl rfl rfl)) rfl ?_
  refine gC rfl rfl (fun hC => ungdA (k := 22) rfl (binI rfl rfl rfl)) rfl ?_
  refine s0 (pickAndA rfl rfl rfl) rfl ?_
  refine s0 assignA rfl ?_
  refine nil ?_
  refine hK7 _ ?_
  clear hK7 K7
  refine condE hE rfl (fun hc8 hE => ?_) (fun hc8 hE => ?_)
  ·refine seqK fun K9 hK9 => ?_
   refine region ?_
   refine s0 (loadV (TK rfl) rfl rfl rfl) rfl ?_
   refine sLn (storeLFA (TK rfl) rfl rfl rfl rfl rfl) ?_
   refine nil ?_
   refine hK9 _ ?_
   clear hK9 K9
   refine AWp.ret ?_
   repeat (first | refine xBlock_ret ?_ | refine xThen_ret ?_)
   obtain rfl := Option.some.inj hE
   refine retQ.retF (H.set c0 (some (.cells (R12_work.c a0)))) rfl ⟨rfl, rfl⟩ ?_
   exact (fun _ _ h => h)
  refine seqJH (KeepsT.A (k := 0) (KeepsT.A (k := 1) (KeepsT.A (k := 5) (KeepsT.A (k := 6) KeepsT.nil)))) (fun (z : Bool) => [(26, .a (.d (.bool z)))]) (fun z => (H.set c0 (some (.cells (R12_work.c a0))))) (fun z => Z68_j10 a0 a1 a2 z = some r) ?_ ?_
  ·intro K10 hK10
   refine seqK fun K18 hK18 => ?_
   refine region ?_
   refine s0 moveA rfl ?_
   refine s0 (binS rfl rfl rfl) rfl ?_
   refine s0 moveA rfl ?_
   refine gC rfl rfl (fun hC => fieldVA (TK rfl) rfl rfl (TK rfl) rfl rfl) rfl ?_
   refine gC rfl rfl (fun hC => ungdA (k := 30) rfl (loadV (TK rfl) rfl rfl rfl)) rfl ?_
   refine gC rfl rfl (fun hC => ungdA (k := 31) rfl (binI rfl rfl rfl)) rfl ?_
   refine s0 (pickAndA rfl rfl rfl) rfl ?_
   refine s0 assignA rfl ?_
   refine nil ?_
   refine hK18 _ ?_
   clear hK18 K18
   refine condE hE rfl (fun hc19 hE => ?_) (fun hc19 hE => ?_)
   ·refine AWp.skip ?_
    exact hK10 _ (((a1 == ([83, 116, 114, 105, 110, 103] : Bs))) && (decide (a2.FKind = (3 : Int)))) Weak.toA hE
   refine seqK fun K20 hK20 => ?_
   refine region ?_
   refine s0 moveA rfl ?_
   refine s0 (binS rfl rfl rfl) rfl ?_
   refine s0 moveA rfl ?_
   refine gC rfl rfl (fun hC => fieldVA (TK rfl) rfl rfl (TK rfl) rfl rfl) rfl ?_
   refine gC rfl rfl (fun hC => ungdA (k := 37) rfl (loadV (TK rfl) rfl rfl rfl)) rfl ?_
   refine gC rfl rfl (fun hC => ungdA (k := 38) rfl (binI rfl rfl rfl)) rfl ?_
   refine s0 (pickAndA rfl rfl rfl) rfl ?_
   refine s0 assignA rfl ?_
   refine nil ?_
   refine hK20 _ ?_
   clear hK20 K20
   refine condE hE rfl (fun hc21 hE => ?_) (fun hc21 hE => ?_)
   ·refine AWp.skip ?_
    exact hK10 _ (((a1 == ([66, 111, 111, 108, 101, 97, 110] : Bs))) && (decide (a2.FKind = (1 : Int)))) Weak.toA hE
   refine region ?_
   refine s0 moveA rfl ?_
   refine s0 (binS rfl rfl rfl) rfl ?_
   refine s0 moveA rfl ?_
   refine gC rfl rfl (fun hC => fieldVA (TK rfl) rfl rfl (TK rfl) rfl rfl) rfl ?_
   refine gC rfl rfl (fun hC => ungdA (k := 44) rfl (loadV (TK rfl) rfl rfl rfl)) rfl ?_
   refine gC rfl rfl (fun hC => ungdA (k := 45) rfl (binI rfl rfl rfl)) rfl ?_
   refine s0 (pickAndA rfl rfl rfl) rfl ?_
   refine s0 assignA rfl ?_
   refine nil ?_
   exact hK10 _ (((a1 == ([73, 68] : Bs))) && (decide (a2.FKind = (3 : Int)))) Weak.toA hE
  rintro s26_11 hE
  try dsimp only at hE
  unfold Z68_j10 at hE
  refine condE hE rfl (fun hc12 hE => ?_) (fun hc12 hE => ?_)
  ·refine seqK fun K13 hK13 => ?_
   refine region ?_
   refine s0 (loadV (TK rfl) rfl rfl rfl) rfl ?_
   refine sLn (storeLFA (TK rfl) rfl rfl rfl rfl rfl) ?_
   refine nil ?_
   refine hK13 _ ?_
   clear hK13 K13
   refine AWp.ret ?_
   repeat (first | refine xBlock_ret ?_ | refine xThen_ret ?_)
   obtain rfl := Option.some.inj hE
   refine retQ.retF (H.set c0 (some (.cells (R12_work.c a0)))) rfl ⟨rfl, rfl⟩ ?_
   exact (fun _ _ h => h)
  refine seqK fun K14 hK14 => ?_
  refine region ?_
  refine s0 moveA rfl ?_
  refine s0 (binS rfl rfl rfl) rfl ?_
  refine s0 moveA rfl ?_
  refine gC rfl rfl (fun hC => fieldVA (TK rfl) rfl rfl (TK rfl) rfl rfl) rfl ?_
  refine gC rfl rfl (fun hC => ungdA (k := 53) rfl (loadV (TK rfl) rfl rfl rfl)) rfl ?_
  refine gC rfl rfl (fun hC => ungdA (k := 54) rfl (binI rfl rfl rfl)) rfl ?_
  refine s0 (pickAndA rfl rfl rfl) rfl ?_
  refine s0 assignA rfl ?_
  refine nil ?_
  refine hK14 _ ?_
  clear hK14 K14
  refine condE hE rfl (fun hc15 hE => ?_) (fun hc15 hE => ?_)
  ·refine seqK fun K16 hK16 => ?_
   refine region ?_
   refine s0 (fieldVA (TK rfl) rfl rfl (TK rfl) rfl rfl) rfl ?_
   refine s0 (loadV (TK rfl) rfl rfl rfl) rfl ?_
   obtain ⟨x17, gx17, hE⟩ := bindO_some hE
   refine s0 (callP rfl rfl (fun H => Z20_walk gx17 H)) rfl ?_
   refine s0 (build Tryz.tab_ok rfl rfl rfl rfl rfl rfl) rfl ?_
   refine sLn (storeLFA (TK rfl) rfl rfl rfl rfl rfl) ?_
   refine nil ?_
   refine hK16 _ ?_
   clear hK16 K16
   refine AWp.ret ?_
   repeat (first | refine xBlock_ret ?_ | refine xThen_ret ?_)
   obtain rfl := Option.some.inj hE
   refine retQ.retF (H.set c0 (some (.cells (R12_work.c a0)))) rfl ⟨rfl, rfl⟩ ?_
   exact (fun _ _ h => h)
  refine AWp.skip ?_
  exact hK2 _ TValue.zero Weak.toA hE
 rintro y3_l0 hE
 try dsimp only at hE
 unfold Z68_j2 at hE
 refine seqK fun K4 hK4 => ?_
 refine region ?_
 refine s0 moveA rfl ?_
 obtain ⟨x5, gx5, hE⟩ := bindO_some hE
 refine sH (callH rfl rfl (Z63_walk gx5 _ hpG)) rfl ?_
 refine AOps.heq (h' := (H.set c0 (some (.cells (R12_work.c x5))))) (by first | rfl | (rw [Heap.set_set]; rfl) | (funext n_; simp only [Heap.set]; (repeat' split) <;> first | rfl | (exfalso; simp_all; done) | (simp_all; done))) ?_
 refine nil ?_
 refine hK4 _ ?_
 clear hK4 K4
 refine seqK fun K6 hK6 => ?_
 refine region ?_
 refine s0 (build Tryz.tab_ok rfl rfl rfl rfl rfl rfl) rfl ?_
 refine sLn (storeLFA (TK rfl) rfl rfl rfl rfl rfl) ?_
 refine nil ?_
 refine hK6 _ ?_
 clear hK6 K6
 refine AWp.ret ?_
 repeat (first | refine xBlock_ret ?_ | refine xThen_ret ?_)
 obtain rfl := Option.some.inj hE
 refine retQ.retF (H.set c0 (some (.cells (R12_work.c x5)))) rfl ⟨rfl, rfl⟩ ?_
 exact (fun _ _ h => h)
def Z62_j2 (a0 : R12_work)  (y3_l0 : TValue) : Option (TValue × R12_work) := (Z63 a0 (23 : Int)).bind fun x5 => some ((TValue.mk (0 : Int) (0 : Int) ([] : Bs) true ([]) (Sl.nil : Sl Bs)), x5)
def Z62_l10 (a0 : R12_work) (a1 : TDef) (a2 : TValue)  : Nat → Nat → TValue → Option (TValue × R12_work)
 | 0, _, _ => none
 | n10 + 1, s7_11, y12_l0 => bif (decide (((s7_11 : Nat) : Int) < ((a1.FMembers.l.length : Nat) : Int))) then ((a1.FMembers.l[s7_11]?).bind fun x19 => bif ((x19.FName == a2.FText)) then (some ((TValue.mk (4 : Int) (0 : Int) a2.FText true ([]) (Sl.nil : Sl Bs)), a0)) else ((Z62_l10 a0 a1 a2 n10) (s7_11 + 1) y12_l0)) else (Z62_j2 a0  y12_l0)
def Z62 (a0 : R12_work) (a1 : TDef) (a2 : TValue) : Option (TValue × R12_work) := bif ((decide (a2.FKind = (4 : Int))) || ((decide (a2.FKind = (3 : Int))) && (!a0.Flit))) then (Z62_l10 a0 a1 a2 (a1.FMembers.l.length + 1) 0 TValue.zero) else (Z62_j2 a0  TValue.zero)
theorem Z62_walk {a0 : R12_work} {a1 : TDef} {a2 : TValue}  {c0 : Nat} {r : (TValue × R12_work)} (hE : Z62 a0 a1 a2 = some r) (H : Heap) (hc0 : H c0 = some (.cells (R12_work.c a0))) : ACalls Tryz.prog 102 [.d (.ptr c0 0), .agg (TDef.c a1), .agg (TValue.c a2)] H fun v h' => v = .a (.agg (TValue.c r.1)) ∧ h' = (H.set c0 (some (.cells (R12_work.c r.2)))) := by
 unfold Z62 at hE
 refine ACalls.of_wp (fn := Tryz.f102) (c := _) Tryz.tab_ok (fun _ _ => Tryz.call102 _ _) Tryz.func102 rfl (n := 45) rfl (rs := [.cell 6 31]) rfl rfl ?_
 refine AWp.heqA (h' := (H.set c0 (some (.cells (R12_work.c a0))))) (by funext n_; simp only [Heap.set]; (repeat' split) <;> simp_all) ?_
 refine seqK fun K1 hK1 => ?_
 refine region ?_
 refine s0 (boxV rfl) rfl ?_
 refine s0 (boxV rfl) rfl ?_
 refine sL (allocLA (TK rfl) rfl) rfl ?_
 refine nil ?_
 refine hK1 _ ?_
 clear hK1 K1
 refine seqJ (KeepsT.A (k := 0) (KeepsT.A (k := 6) KeepsT.nil)) (fun (z : TValue) => []) (fun z => [TValue.c z]) (fun z => (H.set c0 (some (.cells (R12_work.c a0))))) (fun z => Z62_j2 a0 z = some r) ?_ ?_
 ·intro K2 hK2
  refine seqK fun K7 hK7 => ?_
  refine region ?_
  refine s0 (fieldVA (TK rfl) rfl rfl (TK rfl) rfl rfl) rfl ?_
  refine s0 (loadV (TK rfl) rfl rfl rfl) rfl ?_
  refine s0 (binI rfl rfl rfl) rfl ?_
  refine s0 moveA rfl ?_
  refine gC rfl rfl (fun hC => fieldVA (TK rfl) rfl rfl (TK rfl) rfl rfl) rfl ?_
  refine gC rfl rfl (fun hC => ungdA (k := 12) rfl (loadV (TK rfl) rfl rfl rfl)) rfl ?_
  refine gC rfl rfl (fun hC => ungdA (k := 13) rfl (binI rfl rfl rfl)) rfl ?_
  refine gC rfl rfl (fun hC => ungdA (k := 14) rfl moveA) rfl ?_
  refine gC rfl rfl (fun hC => moveA) rfl ?_
  refine gC rfl rfl (fun hC => ungdA (k := 16) rfl (nilP rfl)) rfl ?_
  refine gC rfl rfl (fun hC => ungdA (k := 17) rfl (fieldP (TK rfl) rfl rfl (TK rfl) rfl rfl)) rfl ?_
  refine gC rfl rfl (fun hC => ungdA (k := 18) rfl (loadP (TK rfl) rfl rfl hpG rfl)) rfl ?_
  refine gC rfl rfl (fun hC => ungdA (k := 19) rfl (notB rfl)) rfl ?_
  refine gC rfl rfl (fun hC => ungdA (k := 15) rfl (pickAndA rfl rfl rfl)) rfl ?_
  refine s0 (pickOrA rfl rfl rfl) rfl ?_
  refine nil ?_
  refine hK7 _ ?_
  clear hK7 K7
  refine condE hE rfl (fun hc8 hE => ?_) (fun hc8 hE => ?_)
  ·refine seqK fun K9 hK9 => ?_
   refine region ?_
   refine s0 assignA rfl ?_
   refine nil ?_
   refine hK9 _ ?_
   clear hK9 K9
   refine block ?_
   refine loopO (KeepsT.A (k := 0) (KeepsT.A (k := 4) (KeepsT.A (k := 5) (KeepsT.A (k := 6) KeepsT.nil)))) (fun (z : Nat × Nat × TValue) => [(7, .a (.d (.int .i64 ((z.2.1 : Nat) : Int))))]) (fun z => [TValue.c z.2.2]) (fun z => (H.set c0 (some (.cells (R12_work.c a0))))) (fun z => z.1) (fun z => Z62_l10 a0 a1 a2 z.1 z.2.1 z.2.2 = some r) ((a1.FMembers.l.length + 1), 0, TValue.zero) hE Weak.toA ?_
   rintro ⟨n10, s7_11, y12_l0⟩ hE K10 hK10
   try dsimp only at hE
   cases n10 with
   | zero => cases hE
   | succ n10 =>
     rw [Z62_l10] at hE
     refine seqK fun K13 hK13 => ?_
     refine seqK fun K14 hK14 => ?_
     refine region ?_
     refine s0 moveA rfl ?_
     refine s0 (fieldVA (TK rfl) rfl rfl (TK rfl) rfl rfl) rfl ?_
     refine s0 (loadV (TK rfl) rfl rfl rfl) rfl ?_
     refine sLen (f := TMember.c) (s := a1.FMembers) (TK rfl) rfl rfl rfl rfl fun hL15 => ?_
     refine s0 (binI rfl rfl rfl) rfl ?_
     refine nil ?_
     refine hK14 _ ?_
     clear hK14 K14
     refine condE hE rfl (fun hc16 hE => ?_) (fun hc16 hE => ?_)
     ·try dsimp only at hc16
      have hf16 := of_decide_eq_true hc16
      refine AWp.skip ?_
      refine hK13 _ ?_
      clear hK13 K13
      refine seqK fun K17 hK17 => ?_
      refine block ?_
      refine seqK fun K18 hK18 => ?_
      refine AWp.draw rfl ?_
      refine DOps.s0 (fieldVA (TK rfl) rfl rfl (TK rfl) rfl rfl) rfl ?_
      refine DOps.s0 (loadV (TK rfl) rfl rfl rfl) rfl ?_
      refine DOps.s0 moveA rfl ?_
      obtain ⟨x19, gx19, hE⟩ := bindO_some hE
      refine DOps.s0 (idxMn (f := TMember.c) (n := s7_11) (TK rfl) rfl (TK rfl) rfl rfl rfl gx19) rfl ?_
      refine DOps.s0 (fieldVA (TK rfl) rfl rfl (TK rfl) rfl rfl) rfl ?_
      refine DOps.s0 (loadV (TK rfl) rfl rfl rfl) rfl ?_
      refine DOps.s0 (fieldVA (TK rfl) rfl rfl (TK rfl) rfl rfl) rfl ?_
      refine DOps.s0 (loadV (TK rfl) rfl rfl rfl) rfl ?_
      refine DOps.s0 (binS rfl rfl rfl) rfl ?_
      refine DOps.nil (by decide +kernel) ?_
      refine hK18 _ ?_
      clear hK18 K18
      refine condE hE rfl (fun hc20 hE => ?_) (fun hc20 hE => ?_)
      ·refine seqK fun K21 hK21 => ?_
       refine region ?_
       refine s0 (fieldVA (TK rfl) rfl rfl (TK rfl) rfl rfl) rfl ?_
       refine s0 (loadV (TK rfl) rfl rfl rfl) rfl ?_
       refine s0 (build Tryz.tab_ok rfl rfl rfl rfl rfl rfl) rfl ?_
       refine sLn (storeLFA (TK rfl) rfl rfl rfl rfl rfl) ?_
       refine nil ?_
       refine hK21 _ ?_
       clear hK21 K21
       refine AWp.ret ?_
       repeat (first | refine xBlock_ret ?_ | refine xThen_ret ?_)
       obtain rfl := Option.some.inj hE
       refine retQ.retF (H.set c0 (some (.cells (R12_work.c a0)))) rfl ⟨rfl, rfl⟩ ?_
       exact (fun _ _ h => h)
      refine AWp.skip ?_
      refine hK17 _ ?_
      clear hK17 K17
      refine region ?_
      refine s0 moveA rfl ?_
      refine s0 (addIA rfl rfl) rfl ?_
      refine s0 assignA rfl ?_
      refine nil ?_
      exact hK10 _ (n10, (s7_11 + 1), y12_l0) Weak.toA hE (Nat.lt_succ_self _)
     refine AWp.exit ?_
     exact hK2 _ y12_l0 Weak.toA hE
  refine AWp.skip ?_
  exact hK2 _ TValue.zero Weak.toA hE
 rintro y3_l0 hE
 try dsimp only at hE
 unfold Z62_j2 at hE
 refine seqK fun K4 hK4 => ?_
 refine region ?_
 refine s0 moveA rfl ?_
 obtain ⟨x5, gx5, hE⟩ := bindO_some hE
 refine sH (callH rfl rfl (Z63_walk gx5 _ hpG)) rfl ?_
 refine AOps.heq (h' := (H.set c0 (some (.cells (R12_work.c x5))))) (by first | rfl | (rw [Heap.set_set]; rfl) | (funext n_; simp only [Heap.set]; (repeat' split) <;> first | rfl | (exfalso; simp_all; done) | (simp_all; done))) ?_
 refine nil ?_
 refine hK4 _ ?_
 clear hK4 K4
 refine seqK fun K6 hK6 => ?_
 refine region ?_
 refine s0 (build Tryz.tab_ok rfl rfl rfl rfl rfl rfl) rfl ?_
 refine sLn (storeLFA (TK rfl) rfl rfl rfl rfl rfl) ?_
 refine nil ?_
 refine hK6 _ ?_
 clear hK6 K6
 refine AWp.ret ?_
 repeat (first | refine xBlock_ret ?_ | refine xThen_ret ?_)
 obtain rfl := Option.some.inj hE
 refine retQ.retF (H.set c0 (some (.cells (R12_work.c x5)))) rfl ⟨rfl, rfl⟩ ?_
 exact (fun _ _ h => h)
def Z54_j2  (y3_l0 : TInput) : Option (TInput × Bool) := some ((TInput.mk ([] : Bs) TRef.zero false TValue.zero (Sl.nil : Sl TDir)), false)
def Z54_l6 (a0 : (Sl TInput)) (a1 : Bs)  : Nat → Nat → TInput → Option (TInput × Bool)
 | 0, _, _ => none
 | n6 + 1, s6_7, y8_l0 => bif (decide (((s6_7 : Nat) : Int) < ((a0.l.length : Nat) : Int))) then ((a0.l[s6_7]?).bind fun x15 => bif ((x15.FName == a1)) then ((a0.l[s6_7]?).bind fun x18 => some (x18, true)) else ((Z54_l6 a0 a1 n6) (s6_7 + 1) y8_l0)) else (Z54_j2   y8_l0)
def Z54 (a0 : (Sl TInput)) (a1 : Bs) : Option (TInput × Bool) := Z54_l6 a0 a1 (a0.l.length + 1) 0 TInput.zero
theorem Z54_walk {a0 : (Sl TInput)} {a1 : Bs} {w0 : Option Nat}  {r : (TInput × Bool)} (hE : Z54 a0 a1 = some r) (H : Heap)  : ACalls Tryz.prog 42 [.d (Sl.d 10 TInput.c w0 a0), .d (.str a1)] H fun v h' => v = .tup [.agg (TInput.c r.1), .d (.bool r.2)] ∧ h' = H := by
 unfold Z54 at hE
 refine ACalls.of_wp (fn := Tryz.f42) (c := _) Tryz.tab_ok (fun _ _ => Tryz.call42 _ _) Tryz.func42 rfl (n := 25) rfl (rs := [.cell 4 55, .tmp 5]) rfl rfl ?_
 refine seqK fun K1 hK1 => ?_
 refine region ?_
 refine sL (allocLA (TK rfl) rfl) rfl ?_
 refine s0 assignA rfl ?_
 refine nil ?_
 refine hK1 _ ?_
 clear hK1 K1
 refine seqJ (KeepsT.A (k := 4) KeepsT.nil) (fun (z : TInput) => []) (fun z => [TInput.c z]) (fun z => H) (fun z => Z54_j2 z = some r) ?_ ?_
 ·intro K2 hK2
  refine seqK fun K5 hK5 => ?_
  refine region ?_
  refine s0 assignA rfl ?_
  refine nil ?_
  refine hK5 _ ?_
  clear hK5 K5
  refine block ?_
  refine loopO (KeepsT.A (k := 0) (KeepsT.A (k := 1) (KeepsT.A (k := 4) KeepsT.nil))) (fun (z : Nat × Nat × TInput) => [(6, .a (.d (.int .i64 ((z.2.1 : Nat) : Int))))]) (fun z => [TInput.c z.2.2]) (fun z => H) (fun z => z.1) (fun z => Z54_l6 a0 a1 z.1 z.2.1 z.2.2 = some r) ((a0.l.length + 1), 0, TInput.zero) hE Weak.toA ?_
  rintro ⟨n6, s6_7, y8_l0⟩ hE K6 hK6
  try dsimp only at hE
  cases n6 with
  | zero => cases hE
  | succ n6 =>
    rw [Z54_l6] at hE
    refine seqK fun K9 hK9 => ?_
    refine seqK fun K10 hK10 => ?_
    refine region ?_
    refine s0 moveA rfl ?_
    refine s0 moveA rfl ?_
    refine sLen (f := TInput.c) (s := a0) (TK rfl) rfl rfl rfl rfl fun hL11 => ?_
    refine s0 (binI rfl rfl rfl) rfl ?_
    refine nil ?_
    refine hK10 _ ?_
    clear hK10 K10
    refine condE hE rfl (fun hc12 hE => ?_) (fun hc12 hE => ?_)
    ·try dsimp only at hc12
     have hf12 := of_decide_eq_true hc12
     refine AWp.skip ?_
     refine hK9 _ ?_
     clear hK9 K9
     refine seqK fun K13 hK13 => ?_
     refine block ?_
     refine seqK fun K14 hK14 => ?_
     refine region ?_
     refine s0 moveA rfl ?_
     refine s0 moveA rfl ?_
     obtain ⟨x15, gx15, hE⟩ := bindO_some hE
     refine s0 (idxMn (f := TInput.c) (n := s6_7) (TK rfl) rfl (TK rfl) rfl rfl rfl gx15) rfl ?_
     refine s0 (fieldVA (TK rfl) rfl rfl (TK rfl) rfl rfl) rfl ?_
     refine s0 (loadV (TK rfl) rfl rfl rfl) rfl ?_
     refine s0 moveA rfl ?_
     refine s0 (binS rfl rfl rfl) rfl ?_
     refine nil ?_
     refine hK14 _ ?_
     clear hK14 K14
     refine condE hE rfl (fun hc16 hE => ?_) (fun hc16 hE => ?_)
     ·refine seqK fun K17 hK17 => ?_
      refine region ?_
      refine s0 moveA rfl ?_
      refine s0 moveA rfl ?_
      obtain ⟨x18, gx18, hE⟩ := bindO_some hE
      refine s0 (idxMn (f := TInput.c) (n := s6_7) (TK rfl) rfl (TK rfl) rfl rfl rfl gx18) rfl ?_
      refine s0 (loadV (TK rfl) rfl rfl rfl) rfl ?_
      refine sLn (storeLFA (TK rfl) rfl rfl rfl rfl rfl) ?_
      refine s0 assignA rfl ?_
      refine nil ?_
      refine hK17 _ ?_
      clear hK17 K17
      refine AWp.ret ?_
      repeat (first | refine xBlock_ret ?_ | refine xThen_ret ?_)
      obtain rfl := Option.some.inj hE
      refine retQ.retF H rfl ⟨rfl, rfl⟩ ?_
      exact (fun _ _ h => h)
     refine AWp.skip ?_
     refine hK13 _ ?_
     clear hK13 K13
     refine region ?_
     refine s0 moveA rfl ?_
     refine s0 (addIA rfl rfl) rfl ?_
     refine s0 assignA rfl ?_
     refine nil ?_
     exact hK6 _ (n6, (s6_7 + 1), y8_l0) Weak.toA hE (Nat.lt_succ_self _)
    refine AWp.exit ?_
    exact hK2 _ y8_l0 Weak.toA hE
 rintro y3_l0 hE
 try dsimp only at hE
 unfold Z54_j2 at hE
 refine seqK fun K4 hK4 => ?_
 refine region ?_
 refine s0 (build Tryz.tab_ok rfl rfl rfl rfl rfl rfl) rfl ?_
 refine sLn (storeLFA (TK rfl) rfl rfl rfl rfl rfl) ?_
 refine s0 assignA rfl ?_
 refine nil ?_
 refine hK4 _ ?_
 clear hK4 K4
 refine AWp.ret ?_
 repeat (first | refine xBlock_ret ?_ | refine xThen_ret ?_)
 obtain rfl := Option.some.inj hE
 refine retQ.retF H rfl ⟨rfl, rfl⟩ ?_
 exact (fun _ _ h => h)
def Z60_j2   : Option Bool := some false
def Z60_l5 (a0 : (Sl TInput)) (a1 : Int)  : Nat → Int → Option Bool
 | 0, _ => none
 | n5 + 1, s5_6 => bif (decide (s5_6 < a1)) then ((idxC a0.l s5_6).bind fun x12 => (idxC a0.l a1).bind fun x13 => bif ((x12.FName == x13.FName)) then (some true) else ((addC s5_6 (1 : Int)).bind fun x16 => (Z60_l5 a0 a1 n5) x16)) else (Z60_j2   )
def Z60 (a0 : (Sl TInput)) (a1 : Int) : Option Bool := Z60_l5 a0 a1 F0 (0 : Int)
theorem Z60_walk {a0 : (Sl TInput)} {a1 : Int} {w0 : Option Nat}  {r : Bool} (hE : Z60 a0 a1 = some r) (H : Heap)  : ACalls Tryz.prog 44 [.d (Sl.d 10 TInput.c w0 a0), .d (.int .i64 a1)] H fun v h' => v = .a (.d (.bool r)) ∧ h' = H := by
 unfold Z60 at hE
 refine ACalls.of_wp (fn := Tryz.f44) (c := _) Tryz.tab_ok (fun _ _ => Tryz.call44 _ _) Tryz.func44 rfl (n := 22) rfl (rs := [.tmp 4]) rfl rfl ?_
 refine seqK fun K1 hK1 => ?_
 refine region ?_
 refine s0 assignA rfl ?_
 refine nil ?_
 refine hK1 _ ?_
 clear hK1 K1
 refine seqJH KeepsT.nil (fun (z : Unit) => []) (fun z => H) (fun z => Z60_j2  = some r) ?_ ?_
 ·intro K2 hK2
  refine seqK fun K4 hK4 => ?_
  refine region ?_
  refine s0 assignA rfl ?_
  refine nil ?_
  refine hK4 _ ?_
  clear hK4 K4
  refine block ?_
  refine loopH (KeepsT.A (k := 0) (KeepsT.A (k := 1) KeepsT.nil)) (fun (z : Nat × Int) => [(5, .a (.d (.int .i64 z.2)))]) (fun z => H) (fun z => z.1) (fun z => Z60_l5 a0 a1 z.1 z.2 = some r) (F0, (0 : Int)) hE Weak.toA ?_
  rintro ⟨n5, s5_6⟩ hE K5 hK5
  try dsimp only at hE
  cases n5 with
  | zero => cases hE
  | succ n5 =>
    rw [Z60_l5] at hE
    refine seqK fun K7 hK7 => ?_
    refine seqK fun K8 hK8 => ?_
    refine region ?_
    refine s0 moveA rfl ?_
    refine s0 moveA rfl ?_
    refine s0 (binI rfl rfl rfl) rfl ?_
    refine nil ?_
    refine hK8 _ ?_
    clear hK8 K8
    refine condE hE rfl (fun hc9 hE => ?_) (fun hc9 hE => ?_)
    ·refine AWp.skip ?_
     refine hK7 _ ?_
     clear hK7 K7
     refine seqK fun K10 hK10 => ?_
     refine block ?_
     refine seqK fun K11 hK11 => ?_
     refine AWp.draw rfl ?_
     refine DOps.s0 moveA rfl ?_
     refine DOps.s0 moveA rfl ?_
     obtain ⟨x12, gx12, hE⟩ := bindO_some hE
     refine DOps.s0 (idxM (f := TInput.c) (TK rfl) rfl (TK rfl) rfl rfl rfl gx12) rfl ?_
     refine DOps.s0 (fieldVA (TK rfl) rfl rfl (TK rfl) rfl rfl) rfl ?_
     refine DOps.s0 (loadV (TK rfl) rfl rfl rfl) rfl ?_
     refine DOps.s0 moveA rfl ?_
     refine DOps.s0 moveA rfl ?_
     obtain ⟨x13, gx13, hE⟩ := bindO_some hE
     refine DOps.s0 (idxM (f := TInput.c) (TK rfl) rfl (TK rfl) rfl rfl rfl gx13) rfl ?_
     refine DOps.s0 (fieldVA (TK rfl) rfl rfl (TK rfl) rfl rfl) rfl ?_
     refine DOps.s0 (loadV (TK rfl) rfl rfl rfl) rfl ?_
     refine DOps.s0 (binS rfl rfl rfl) rfl ?_
     refine DOps.nil (by decide +kernel) ?_
     refine hK11 _ ?_
     clear hK11 K11
     refine condE hE rfl (fun hc14 hE => ?_) (fun hc14 hE => ?_)
     ·refine seqK fun K15 hK15 => ?_
      refine region ?_
      refine s0 assignA rfl ?_
      refine nil ?_
      refine hK15 _ ?_
      clear hK15 K15
      refine AWp.ret ?_
      repeat (first | refine xBlock_ret ?_ | refine xThen_ret ?_)
      obtain rfl := Option.some.inj hE
      refine retQ.retF H rfl ⟨rfl, rfl⟩ ?_
      exact (fun _ _ h => h)
     refine AWp.skip ?_
     refine hK10 _ ?_
     clear hK10 K10
     refine region ?_
     refine s0 moveA rfl ?_
     obtain ⟨x16, gx16, hE⟩ := bindO_some hE
     refine s0 (addM rfl rfl gx16) rfl ?_
     refine s0 assignA rfl ?_
     refine nil ?_
     exact hK5 _ (n5, x16) Weak.toA hE (Nat.lt_succ_self _)
    refine AWp.exit ?_
    exact hK2 _ () Weak.toA hE
 rintro _ hE
 try dsimp only at hE
 unfold Z60_j2 at hE
 refine seqK fun K3 hK3 => ?_
 refine region ?_
 refine s0 assignA rfl ?_
 refine nil ?_
 refine hK3 _ ?_
 clear hK3 K3
 refine AWp.ret ?_
 repeat (first | refine xBlock_ret ?_ | refine xThen_ret ?_)
 obtain rfl := Option.some.inj hE
 refine retQ.retF H rfl ⟨rfl, rfl⟩ ?_
 exact (fun _ _ h => h)
end Go.Proofs

namespace Go.Proofs
open Go Go.Ab
open AOps Cert AWp
def r12_work_coerce_j22  (y23_c0 : R12_work) : Option (TValue × R12_work) := some ((TValue.mk (0 : Int) (0 : Int) ([] : Bs) true ([]) (Sl.nil : Sl Bs)), y23_c0)
def r12_work_coerce_j9 (a1 : TRef) (a3 : Int) (k_rec_100 : R12_work → TRef → TValue → Int → Option (TValue × R12_work)) (k_rec_103 : R12_work → TDef → TValue → Int → Option (TValue × R12_work)) (y10_c0 : R12_work) (y11_l0 : TValue) (y12_l1 : TValue) : Option (TValue × R12_work) := (Z65 y10_c0 a3).bind fun x14 => bif (!decide (x14.Ferr = (0 : Int))) then (some ((TValue.mk (0 : Int) (0 : Int) ([] : Bs) true ([]) (Sl.nil : Sl Bs)), x14)) else (bif (decide (y11_l0.FKind = (0 : Int))) then ((Z38 a1).bind fun x26 => bif x26 then ((Z63 x14 (23 : Int)).bind fun x28 => r12_work_coerce_j22   x28) else (r12_work_coerce_j22   x14)) else ((Z36 a1).bind fun x31 => bif x31.2 then ((k_rec_100 x14 x31.1 y11_l0 a3).bind fun x35 => some (x35.1, x35.2)) else ((Z57 a1.FName).bind fun x38 => bif x38 then ((Z68 x14 a1.FName y11_l0).bind fun x41 => some (x41.1, x41.2)) else ((Z53 x14.Fd a1.FName).bind fun x43 => bif (decide (x43.1.FKind = (4 : Int))) then ((Z62 x14 x43.1 y11_l0).bind fun x48 => some (x48.1, x48.2)) else ((k_rec_103 x14 x43.1 y11_l0 a3).bind fun x50 => some (x50.1, x50.2))))))
def r12_work_list_j7  (y8_c0 : R12_work) (y9_l1 : TValue) : Option (TValue × R12_work) := some (y9_l1, y8_c0)
def r12_work_list_l12 (a1 : TRef) (a3 : Int) (s9_4 : (Sl TValue)) (k_rec_71 : R12_work → TRef → TValue → Int → Option (TValue × R12_work)) : Nat → Nat → R12_work → TValue → Option (TValue × R12_work)
 | 0, _, _, _ => none
 | n12 + 1, s11_13, y14_c0, y15_l1 => bif ((decide (((s11_13 : Nat) : Int) < ((s9_4.l.length : Nat) : Int))) && (decide (y14_c0.Ferr = (0 : Int)))) then ((s9_4.l[s11_13]?).bind fun x22 => (addC a3 (1 : Int)).bind fun x23 => (k_rec_71 y14_c0 a1 x22 x23).bind fun x24 => (appC 80 y15_l1.FItems (⟨false, [x24.1]⟩ : Sl TValue)).bind fun x25 => (r12_work_list_l12 a1 a3 s9_4 k_rec_71 n12) (s11_13 + 1) x24.2 (TValue.mk y15_l1.FKind y15_l1.FInt y15_l1.FText x25.nl x25.l y15_l1.FKeys)) else (r12_work_list_j7   y14_c0 y15_l1)
def r12_work_list_j3 (a0 : R12_work) (a1 : TRef) (a3 : Int) (k_rec_71 : R12_work → TRef → TValue → Int → Option (TValue × R12_work)) (s9_4 : (Sl TValue)) : Option (TValue × R12_work) := r12_work_list_l12 a1 a3 s9_4 k_rec_71 (s9_4.l.length + 1) 0 a0 (TValue.mk (5 : Int) (0 : Int) ([] : Bs) true ([]) (Sl.nil : Sl Bs))
def r12_work_object_j13  (y14_c0 : R12_work) (y15_l1 : TValue) : Option (TValue × R12_work) := some (y15_l1, y14_c0)
def r12_work_object_j26 (s13_19 : Nat) (k_next_18 : Nat → R12_work → TValue → Option (TValue × R12_work)) (y27_c0 : R12_work) (y28_l1 : TValue) : Option (TValue × R12_work) := k_next_18 (s13_19 + 1) y27_c0 y28_l1
def r12_work_object_j38 (s13_19 : Nat) (y21_l1 : TValue) (x30 : TInput) (k_next_18 : Nat → R12_work → TValue → Option (TValue × R12_work)) (y39_c0 : R12_work) (y40_l2 : TValue) : Option (TValue × R12_work) := (appC 16 y21_l1.FKeys (⟨false, [x30.FName]⟩ : Sl Bs)).bind fun x42 => (appC 80 y21_l1.FItems (⟨false, [y40_l2]⟩ : Sl TValue)).bind fun x43 => r12_work_object_j26 s13_19 k_next_18 y39_c0 (TValue.mk y21_l1.FKind y21_l1.FInt y21_l1.FText x43.nl x43.l x42)
def r12_work_object_l18 (a1 : TDef) (a2 : TValue) (a3 : Int) (k_rec_119 : R12_work → TRef → TValue → Int → Option (TValue × R12_work)) (k_rec_71 : R12_work → TRef → TValue → Int → Option (TValue × R12_work)) : Nat → Nat → R12_work → TValue → Option (TValue × R12_work)
 | 0, _, _, _ => none
 | n18 + 1, s13_19, y20_c0, y21_l1 => bif ((decide (((s13_19 : Nat) : Int) < ((a1.FInputs.l.length : Nat) : Int))) && (decide (y20_c0.Ferr = (0 : Int)))) then ((a1.FInputs.l[s13_19]?).bind fun x30 => (Z60 a1.FInputs ((s13_19 : Nat) : Int)).bind fun x33 => bif x33 then (r12_work_object_j26 s13_19 ((r12_work_object_l18 a1 a2 a3 k_rec_119 k_rec_71 n18)) y20_c0 y21_l1) else ((Z26 a2 x30.FName).bind fun x36 => guardO (x36.2) (Z64 y20_c0 x36.1) false fun x45 => bif (x36.2 && (!x45)) then ((addC a3 (1 : Int)).bind fun x47 => (k_rec_71 y20_c0 x30.FType x36.1 x47).bind fun x48 => r12_work_object_j38 s13_19 y21_l1 x30 ((r12_work_object_l18 a1 a2 a3 k_rec_119 k_rec_71 n18)) x48.2 x48.1) else (bif x30.FHas then ((addC a3 (1 : Int)).bind fun x51 => (k_rec_119 y20_c0 x30.FType x30.FDefault x51).bind fun x52 => r12_work_object_j38 s13_19 y21_l1 x30 ((r12_work_object_l18 a1 a2 a3 k_rec_119 k_rec_71 n18)) x52.2 x52.1) else ((Z38 x30.FType).bind fun x54 => bif x54 then ((Z63 y20_c0 (22 : Int)).bind fun x56 => r12_work_object_j38 s13_19 y21_l1 x30 ((r12_work_object_l18 a1 a2 a3 k_rec_119 k_rec_71 n18)) x56 TValue.zero) else (r12_work_object_j26 s13_19 ((r12_work_object_l18 a1 a2 a3 k_rec_119 k_rec_71 n18)) y20_c0 y21_l1))))) else (r12_work_object_j13   y20_c0 y21_l1)
def r12_work_object_j8 (a1 : TDef) (a2 : TValue) (a3 : Int) (k_rec_119 : R12_work → TRef → TValue → Int → Option (TValue × R12_work)) (k_rec_71 : R12_work → TRef → TValue → Int → Option (TValue × R12_work)) (y9_c0 : R12_work) : Option (TValue × R12_work) := r12_work_object_l18 a1 a2 a3 k_rec_119 k_rec_71 (a1.FInputs.l.length + 1) 0 y9_c0 (TValue.mk (6 : Int) (0 : Int) ([] : Bs) true ([]) (Sl.nil : Sl Bs))
def r12_work_object_j65 (s9_59 : Nat) (k_next_58 : Nat → R12_work → Option (TValue × R12_work)) (y66_c0 : R12_work) : Option (TValue × R12_work) := k_next_58 (s9_59 + 1) y66_c0
def r12_work_object_l58 (a1 : TDef) (a2 : TValue) (a3 : Int) (k_rec_119 : R12_work → TRef → TValue → Int → Option (TValue × R12_work)) (k_rec_71 : R12_work → TRef → TValue → Int → Option (TValue × R12_work)) : Nat → Nat → R12_work → Option (TValue × R12_work)
 | 0, _, _ => none
 | n58 + 1, s9_59, y60_c0 => bif (decide (((s9_59 : Nat) : Int) < ((a2.FKeys.l.length : Nat) : Int))) then ((a2.FKeys.l[s9_59]?).bind fun x68 => (Z54 a1.FInputs x68).bind fun x69 => bif (!x69.2) then ((Z63 y60_c0 (22 : Int)).bind fun x72 => r12_work_object_j65 s9_59 ((r12_work_object_l58 a1 a2 a3 k_rec_119 k_rec_71 n58)) x72) else (r12_work_object_j65 s9_59 ((r12_work_object_l58 a1 a2 a3 k_rec_119 k_rec_71 n58)) y60_c0)) else (r12_work_object_j8 a1 a2 a3 k_rec_119 k_rec_71 y60_c0)
mutual
def r12_work_coerce_n : Nat → R12_work → TRef → TValue → Int → Option (TValue × R12_work)
 | 0, _, _, _, _ => none
 | n + 1, a0, a1, a2, a3 => (Z55 a0.Fd a1.FName).bind fun x4 => bif (!x4) then ((Z63 a0 (10 : Int)).bind fun x7 => some ((TValue.mk (0 : Int) (0 : Int) ([] : Bs) true ([]) (Sl.nil : Sl Bs)), x7)) else (bif (a0.Flit && (decide (a2.FKind = (7 : Int)))) then ((Z26 a0.Fvars a2.FText).bind fun x54 => bif (!decide (x54.1.FKind = (0 : Int))) then ((Z69 a0 x54.1 a3).bind fun x59 => some (x59.1, x59.2)) else (r12_work_coerce_j9 a1 a3 (r12_work_list_n n) (r12_work_object_n n) a0 (TValue.mk (0 : Int) (0 : Int) ([] : Bs) true ([]) (Sl.nil : Sl Bs)) TValue.zero)) else (r12_work_coerce_j9 a1 a3 (r12_work_list_n n) (r12_work_object_n n) a0 a2 TValue.zero))
def r12_work_list_n : Nat → R12_work → TRef → TValue → Int → Option (TValue × R12_work)
 | 0, _, _, _, _ => none
 | n + 1, a0, a1, a2, a3 => bif (decide (a2.FKind = (5 : Int))) then (r12_work_list_j3 a0 a1 a3 (r12_work_coerce_n n) a2.FItems) else (r12_work_list_j3 a0 a1 a3 (r12_work_coerce_n n) (⟨false, [a2]⟩ : Sl TValue))
def r12_work_object_n : Nat → R12_work → TDef → TValue → Int → Option (TValue × R12_work)
 | 0, _, _, _, _ => none
 | n + 1, a0, a1, a2, a3 => bif (!decide (a2.FKind = (6 : Int))) then ((Z63 a0 (23 : Int)).bind fun x6 => some ((TValue.mk (0 : Int) (0 : Int) ([] : Bs) true ([]) (Sl.nil : Sl Bs)), x6)) else (r12_work_object_l58 a1 a2 a3 (Z66_n n) (r12_work_coerce_n n) (a2.FKeys.l.length + 1) 0 a0)
def Z66_n : Nat → R12_work → TRef → TValue → Int → Option (TValue × R12_work)
 | 0, _, _, _, _ => none
 | n + 1, a0, a1, a2, a3 => ((r12_work_coerce_n n) (R12_work.mk a0.Fd (TValue.mk (0 : Int) (0 : Int) ([] : Bs) true ([]) (Sl.nil : Sl Bs)) true a0.Fcount a0.Ferr) a1 a2 a3).bind fun x5 => some (x5.1, (R12_work.mk x5.2.Fd a0.Fvars a0.Flit x5.2.Fcount x5.2.Ferr))
end
theorem r12_work_coerce_step (n : Nat) (ih_71 : ∀ {a0 : R12_work} {a1 : TRef} {a2 : TValue} {a3 : Int}  {c0 : Nat} {r : (TValue × R12_work)}, r12_work_coerce_n n a0 a1 a2 a3 = some r → ∀ (H : Heap) (hc0 : H c0 = some (.cells (R12_work.c a0))), ACalls Tryz.prog 71 [.d (.ptr c0 0), .agg (TRef.c a1), .agg (TValue.c a2), .d (.int .i64 a3)] H fun v h' => v = .a (.agg (TValue.c r.1)) ∧ h' = (H.set c0 (some (.cells (R12_work.c r.2))))) (ih_100 : ∀ {a0 : R12_work} {a1 : TRef} {a2 : TValue} {a3 : Int}  {c0 : Nat} {r : (TValue × R12_work)}, r12_work_list_n n a0 a1 a2 a3 = some r → ∀ (H : Heap) (hc0 : H c0 = some (.cells (R12_work.c a0))), ACalls Tryz.prog 100 [.d (.ptr c0 0), .agg (TRef.c a1), .agg (TValue.c a2), .d (.int .i64 a3)] H fun v h' => v = .a (.agg (TValue.c r.1)) ∧ h' = (H.set c0 (some (.cells (R12_work.c r.2))))) (ih_103 : ∀ {a0 : R12_work} {a1 : TDef} {a2 : TValue} {a3 : Int}  {c0 : Nat} {r : (TValue × R12_work)}, r12_work_object_n n a0 a1 a2 a3 = some r → ∀ (H : Heap) (hc0 : H c0 = some (.cells (R12_work.c a0))), ACalls Tryz.prog 103 [.d (.ptr c0 0), .agg (TDef.c a1), .agg (TValue.c a2), .d (.int .i64 a3)] H fun v h' => v = .a (.agg (TValue.c r.1)) ∧ h' = (H.set c0 (some (.cells (R12_work.c r.2))))) (ih_119 : ∀ {a0 : R12_work} {a1 : TRef} {a2 : TValue} {a3 : Int}  {c0 : Nat} {r : (TValue × R12_work)}, Z66_n n a0 a1 a2 a3 = some r → ∀ (H : Heap) (hc0 : H c0 = some (.cells (R12_work.c a0))), ACalls Tryz.prog 119 [.d (.ptr c0 0), .agg (TRef.c a1), .agg (TValue.c a2), .d (.int .i64 a3)] H fun v h' => v = .a (.agg (TValue.c r.1)) ∧ h' = (H.set c0 (some (.cells (R12_work.c r.2))))) : ∀ {a0 : R12_work} {a1 : TRef} {a2 : TValue} {a3 : Int}  {c0 : Nat} {r : (TValue × R12_work)}, r12_work_coerce_n (n + 1) a0 a1 a2 a3 = some r → ∀ (H : Heap) (hc0 : H c0 = some (.cells (R12_work.c a0))), ACalls Tryz.prog 71 [.d (.ptr c0 0), .agg (TRef.c a1), .agg (TValue.c a2), .d (.int .i64 a3)] H fun v h' => v = .a (.agg (TValue.c r.1)) ∧ h' = (H.set c0 (some (.cells (R12_work.c r.2)))) := by
 intro a0 a1 a2 a3  c0 r hE H hc0
 rw [r12_work_coerce_n] at hE
 refine ACalls.of_wp (fn := Tryz.f71) (c := _) Tryz.tab_ok (fun _ _ => Tryz.call71 _ _) Tryz.func71 rfl (n := 111) rfl (rs := [.cell 8 31]) rfl rfl ?_
 refine AWp.heqA (h' := (H.set c0 (some (.cells (R12_work.c a0))))) (by funext n_; simp only [Heap.set]; (repeat' split) <;> simp_all) ?_
 refine seqK fun K1 hK1 => ?_
 refine region ?_
 refine s0 (boxV rfl) rfl ?_
 refine sL (boxL rfl (by repeat (first | exact Snoc.nil | apply Snoc.cons))) rfl ?_
 refine sL (allocLA (TK rfl) rfl) rfl ?_
 refine nil ?_
 refine hK1 _ ?_
 clear hK1 K1
 refine seqK fun K2 hK2 => ?_
 refine seqK fun K3 hK3 => ?_
 refine AWp.draw rfl ?_
 refine DOps.s0 moveA rfl ?_
 refine DOps.s0 (nilP rfl) rfl ?_
 refine DOps.s0 (fieldP (TK rfl) rfl rfl (TK rfl) rfl rfl) rfl ?_
 refine DOps.s0 (loadP (TK rfl) rfl rfl hpG rfl) rfl ?_
 refine DOps.s0 (fieldVA (TK rfl) rfl rfl (TK rfl) rfl rfl) rfl ?_
 refine DOps.s0 (loadV (TK rfl) rfl rfl rfl) rfl ?_
 obtain ⟨x4, gx4, hE⟩ := bindO_some hE
 refine DOps.s0 (callP rfl rfl (fun H => Z55_walk gx4 H)) rfl ?_
 refine DOps.s0 (notB rfl) rfl ?_
 refine DOps.nil (by decide +kernel) ?_
 refine hK3 _ ?_
 clear hK3 K3
 refine condE hE rfl (fun hc5 hE => ?_) (fun hc5 hE => ?_)
 ·refine seqK fun K6 hK6 => ?_
  refine region ?_
  refine s0 moveA rfl ?_
  obtain ⟨x7, gx7, hE⟩ := bindO_some hE
  refine sH (callH rfl rfl (Z63_walk gx7 _ hpG)) rfl ?_
  refine AOps.heq (h' := (H.set c0 (some (.cells (R12_work.c x7))))) (by first | rfl | (rw [Heap.set_set]; rfl) | (funext n_; simp only [Heap.set]; (repeat' split) <;> first | rfl | (exfalso; simp_all; done) | (simp_all; done))) ?_
  refine nil ?_
  refine hK6 _ ?_
  clear hK6 K6
  refine seqK fun K8 hK8 => ?_
  refine region ?_
  refine s0 (build Tryz.tab_ok rfl rfl rfl rfl rfl rfl) rfl ?_
  refine sLn (storeLFA (TK rfl) rfl rfl rfl rfl rfl) ?_
  refine nil ?_
  refine hK8 _ ?_
  clear hK8 K8
  refine AWp.ret ?_
  repeat (first | refine xBlock_ret ?_ | refine xThen_ret ?_)
  obtain rfl := Option.some.inj hE
  refine retQ.retF (H.set c0 (some (.cells (R12_work.c x7)))) rfl ⟨rfl, rfl⟩ ?_
  exact (fun _ _ h => h)
 refine AWp.skip ?_
 refine hK2 _ ?_
 clear hK2 K2
 refine seqJ (KeepsT.A (k := 0) (KeepsT.A (k := 3) (KeepsT.A (k := 5) (KeepsT.A (k := 6) (KeepsT.A (k := 8) KeepsT.nil))))) (fun (z : R12_work × TValue × TValue) => []) (fun z => [TValue.c z.2.1, TValue.c z.2.2]) (fun z => (H.set c0 (some (.cells (R12_work.c z.1))))) (fun z => r12_work_coerce_j9 a1 a3 (r12_work_list_n n) (r12_work_object_n n) z.1 z.2.1 z.2.2 = some r) ?_ ?_
 ·intro K9 hK9
  refine seqK fun K51 hK51 => ?_
  refine region ?_
  refine s0 moveA rfl ?_
  refine s0 (nilP rfl) rfl ?_
  refine s0 (fieldP (TK rfl) rfl rfl (TK rfl) rfl rfl) rfl ?_
  refine s0 (loadP (TK rfl) rfl rfl hpG rfl) rfl ?_
  refine s0 moveA rfl ?_
  refine gC rfl rfl (fun hC => fieldL (TK rfl) rfl rfl (TK rfl) rfl rfl) rfl ?_
  refine gC rfl rfl (fun hC => ungdLA (k := 31) rfl (loadL (TK rfl) rfl rfl rfl rfl)) rfl ?_
  refine gC rfl rfl (fun hC => ungdA (k := 32) rfl (binI rfl rfl rfl)) rfl ?_
  refine s0 (pickAndA rfl rfl rfl) rfl ?_
  refine nil ?_
  refine hK51 _ ?_
  clear hK51 K51
  refine condE hE rfl (fun hc52 hE => ?_) (fun hc52 hE => ?_)
  ·refine seqK fun K53 hK53 => ?_
   refine AWp.draw rfl ?_
   refine DOps.s0 moveA rfl ?_
   refine DOps.s0 (nilP rfl) rfl ?_
   refine DOps.s0 (fieldP (TK rfl) rfl rfl (TK rfl) rfl rfl) rfl ?_
   refine DOps.s0 (loadP (TK rfl) rfl rfl hpG rfl) rfl ?_
   refine DOps.s0 (fieldL (TK rfl) rfl rfl (TK rfl) rfl rfl) rfl ?_
   refine DOps.s0 (loadL (TK rfl) rfl rfl rfl rfl) rfl ?_
   obtain ⟨x54, gx54, hE⟩ := bindO_some hE
   refine DOps.s0 (callP rfl rfl (fun H => Z26_walk gx54 H)) rfl ?_
   refine DOps.s0 moveA rfl ?_
   refine DOps.s0 (extract rfl rfl) rfl ?_
   refine DOps.s0 (extract rfl rfl) rfl ?_
   refine DOps.sB (TK rfl) rfl rfl ?_ (by repeat (first | exact Snoc.nil | apply Snoc.cons))
   refine DOps.sLn (storeLFA (TK rfl) rfl rfl rfl rfl rfl) ?_
   refine DOps.s0 assignA rfl ?_
   refine DOps.nil (by decide +kernel) ?_
   refine hK53 _ ?_
   clear hK53 K53
   refine freezeA 9 _ rfl (Keeps.c (k := 0) (by conv => lhs; whnf) (by rfl) (Keeps.c (k := 3) (by conv => lhs; whnf) (by rfl) (Keeps.c (k := 5) (by conv => lhs; whnf) (by rfl) (Keeps.c (k := 6) (by conv => lhs; whnf) (by rfl) (Keeps.c (k := 8) (by conv => lhs; whnf) (by rfl) Keeps.nil))))) ?_
   refine seqK fun K55 hK55 => ?_
   refine seqK fun K56 hK56 => ?_
   refine region ?_
   refine s0 (fieldVA (TK rfl) rfl rfl (TK rfl) rfl rfl) rfl ?_
   refine s0 (loadV (TK rfl) rfl rfl rfl) rfl ?_
   refine s0 (binI rfl rfl rfl) rfl ?_
   refine nil ?_
   refine hK56 _ ?_
   clear hK56 K56
   refine condE hE rfl (fun hc57 hE => ?_) (fun hc57 hE => ?_)
   ·refine seqK fun K58 hK58 => ?_
    refine region ?_
    refine s0 moveA rfl ?_
    refine s0 (loadV (TK rfl) rfl rfl rfl) rfl ?_
    refine s0 moveA rfl ?_
    obtain ⟨x59, gx59, hE⟩ := bindO_some hE
    refine sH (callH rfl rfl (Z69_walk gx59 _ hpG)) rfl ?_
    refine AOps.heq (h' := (H.set c0 (some (.cells (R12_work.c x59.2))))) (by first | rfl | (rw [Heap.set_set]; rfl) | (funext n_; simp only [Heap.set]; (repeat' split) <;> first | rfl | (exfalso; simp_all; done) | (simp_all; done))) ?_
    refine sLn (storeLFA (TK rfl) rfl rfl rfl rfl rfl) ?_
    refine nil ?_
    refine hK58 _ ?_
    clear hK58 K58
    refine AWp.ret ?_
    repeat (first | refine xBlock_ret ?_ | refine xThen_ret ?_)
    obtain rfl := Option.some.inj hE
    refine retQ.retF (H.set c0 (some (.cells (R12_work.c x59.2)))) rfl ⟨rfl, rfl⟩ ?_
    exact (fun _ _ h => h)
   refine AWp.skip ?_
   refine hK55 _ ?_
   clear hK55 K55
   refine region ?_
   refine s0 (build Tryz.tab_ok rfl rfl rfl rfl rfl rfl) rfl ?_
   refine sLn (storeLFA (TK rfl) rfl rfl rfl rfl rfl) ?_
   refine nil ?_
   exact hK9 _ (a0, (TValue.mk (0 : Int) (0 : Int) ([] : Bs) true ([]) (Sl.nil : Sl Bs)), TValue.zero) Weak.toA hE
  refine AWp.skip ?_
  exact hK9 _ (a0, a2, TValue.zero) Weak.toA hE
 rintro ⟨y10_c0, y11_l0, y12_l1⟩ hE
 try dsimp only at hE
 unfold r12_work_coerce_j9 at hE
 refine seqK fun K13 hK13 => ?_
 refine region ?_
 refine s0 moveA rfl ?_
 refine s0 moveA rfl ?_
 obtain ⟨x14, gx14, hE⟩ := bindO_some hE
 refine sH (callH rfl rfl (Z65_walk gx14 _ hpG)) rfl ?_
 refine AOps.heq (h' := (H.set c0 (some (.cells (R12_work.c x14))))) (by first | rfl | (rw [Heap.set_set]; rfl) | (funext n_; simp only [Heap.set]; (repeat' split) <;> first | rfl | (exfalso; simp_all; done) | (simp_all; done))) ?_
 refine nil ?_
 refine hK13 _ ?_
 clear hK13 K13
 refine seqK fun K15 hK15 => ?_
 refine seqK fun K16 hK16 => ?_
 refine region ?_
 refine s0 moveA rfl ?_
 refine s0 (nilP rfl) rfl ?_
 refine s0 (fieldP (TK rfl) rfl rfl (TK rfl) rfl rfl) rfl ?_
 refine s0 (loadP (TK rfl) rfl rfl hpG rfl) rfl ?_
 refine s0 (binI rfl rfl rfl) rfl ?_
 refine nil ?_
 refine hK16 _ ?_
 clear hK16 K16
 refine condE hE rfl (fun hc17 hE => ?_) (fun hc17 hE => ?_)
 ·refine seqK fun K18 hK18 => ?_
  refine region ?_
  refine s0 (build Tryz.tab_ok rfl rfl rfl rfl rfl rfl) rfl ?_
  refine sLn (storeLFA (TK rfl) rfl rfl rfl rfl rfl) ?_
  refine nil ?_
  refine hK18 _ ?_
  clear hK18 K18
  refine AWp.ret ?_
  repeat (first | refine xBlock_ret ?_ | refine xThen_ret ?_)
  obtain rfl := Option.some.inj hE
  refine retQ.retF (H.set c0 (some (.cells (R12_work.c x14)))) rfl ⟨rfl, rfl⟩ ?_
  exact (fun _ _ h => h)
 refine AWp.skip ?_
 refine hK15 _ ?_
 clear hK15 K15
 refine seqK fun K19 hK19 => ?_
 refine seqK fun K20 hK20 => ?_
 refine region ?_
 refine s0 (fieldL (TK rfl) rfl rfl (TK rfl) rfl rfl) rfl ?_
 refine s0 (loadL (TK rfl) rfl rfl rfl rfl) rfl ?_
 refine s0 (binI rfl rfl rfl) rfl ?_
 refine nil ?_
 refine hK20 _ ?_
 clear hK20 K20
 refine condE hE rfl (fun hc21 hE => ?_) (fun hc21 hE => ?_)
 ·refine seqJH (KeepsT.A (k := 8) KeepsT.nil) (fun (z : R12_work) => []) (fun z => (H.set c0 (some (.cells (R12_work.c z))))) (fun z => r12_work_coerce_j22 z = some r) ?_ ?_
  ·intro K22 hK22
   refine seqK fun K25 hK25 => ?_
   refine region ?_
   refine s0 (loadV (TK rfl) rfl rfl rfl) rfl ?_
   obtain ⟨x26, gx26, hE⟩ := bindO_some hE
   refine s0 (callP rfl rfl (fun H => Z38_walk gx26 H)) rfl ?_
   refine nil ?_
   refine hK25 _ ?_
   clear hK25 K25
   refine condE hE rfl (fun hc27 hE => ?_) (fun hc27 hE => ?_)
   ·refine region ?_
    refine s0 moveA rfl ?_
    obtain ⟨x28, gx28, hE⟩ := bindO_some hE
    refine sH (callH rfl rfl (Z63_walk gx28 _ hpG)) rfl ?_
    refine AOps.heq (h' := (H.set c0 (some (.cells (R12_work.c x28))))) (by first | rfl | (rw [Heap.set_set]; rfl) | (funext n_; simp only [Heap.set]; (repeat' split) <;> first | rfl | (exfalso; simp_all; done) | (simp_all; done))) ?_
    refine nil ?_
    exact hK22 _ x28 Weak.toA hE
   refine AWp.skip ?_
   exact hK22 _ x14 Weak.toA hE
  rintro y23_c0 hE
  try dsimp only at hE
  unfold r12_work_coerce_j22 at hE
  refine seqK fun K24 hK24 => ?_
  refine region ?_
  refine s0 (build Tryz.tab_ok rfl rfl rfl rfl rfl rfl) rfl ?_
  refine sLn (storeLFA (TK rfl) rfl rfl rfl rfl rfl) ?_
  refine nil ?_
  refine hK24 _ ?_
  clear hK24 K24
  refine AWp.ret ?_
  repeat (first | refine xBlock_ret ?_ | refine xThen_ret ?_)
  obtain rfl := Option.some.inj hE
  refine retQ.retF (H.set c0 (some (.cells (R12_work.c y23_c0)))) rfl ⟨rfl, rfl⟩ ?_
  exact (fun _ _ h => h)
 refine AWp.skip ?_
 refine hK19 _ ?_
 clear hK19 K19
 refine seqK fun K29 hK29 => ?_
 refine seqK fun K30 hK30 => ?_
 refine region ?_
 refine s0 (loadV (TK rfl) rfl rfl rfl) rfl ?_
 obtain ⟨x31, gx31, hE⟩ := bindO_some hE
 refine s0 (callP rfl rfl (fun H => Z36_walk gx31 H)) rfl ?_
 refine s0 moveA rfl ?_
 refine s0 (extract rfl rfl) rfl ?_
 refine s0 (extract rfl rfl) rfl ?_
 refine sL (allocLA (TK rfl) rfl) rfl ?_
 refine sLn (storeLFA (TK rfl) rfl rfl rfl rfl rfl) ?_
 refine s0 assignA rfl ?_
 refine nil ?_
 refine hK30 _ ?_
 clear hK30 K30
 refine freezeA 11 _ rfl (Keeps.c (k := 0) (by conv => lhs; whnf) (by rfl) (Keeps.c (k := 3) (by conv => lhs; whnf) (by rfl) (Keeps.c (k := 5) (by conv => lhs; whnf) (by rfl) (Keeps.c (k := 6) (by conv => lhs; whnf) (by rfl) (Keeps.c (k := 8) (by conv => lhs; whnf) (by rfl) (Keeps.c (k := 12) (by conv => lhs; whnf) (by rfl) Keeps.nil)))))) ?_
 refine seqK fun K32 hK32 => ?_
 refine region ?_
 refine s0 moveA rfl ?_
 refine nil ?_
 refine hK32 _ ?_
 clear hK32 K32
 refine condE hE rfl (fun hc33 hE => ?_) (fun hc33 hE => ?_)
 ·refine seqK fun K34 hK34 => ?_
  refine region ?_
  refine s0 moveA rfl ?_
  refine s0 (loadV (TK rfl) rfl rfl rfl) rfl ?_
  refine s0 (loadL (TK rfl) rfl rfl rfl rfl) rfl ?_
  refine s0 moveA rfl ?_
  obtain ⟨x35, gx35, hE⟩ := bindO_some hE
  refine sH (callH rfl rfl (ih_100 gx35 _ hpG)) rfl ?_
  refine AOps.heq (h' := (H.set c0 (some (.cells (R12_work.c x35.2))))) (by first | rfl | (rw [Heap.set_set]; rfl) | (funext n_; simp only [Heap.set]; (repeat' split) <;> first | rfl | (exfalso; simp_all; done) | (simp_all; done))) ?_
  refine sLn (storeLFA (TK rfl) rfl rfl rfl rfl rfl) ?_
  refine nil ?_
  refine hK34 _ ?_
  clear hK34 K34
  refine AWp.ret ?_
  repeat (first | refine xBlock_ret ?_ | refine xThen_ret ?_)
  obtain rfl := Option.some.inj hE
  refine retQ.retF (H.set c0 (some (.cells (R12_work.c x35.2)))) rfl ⟨rfl, rfl⟩ ?_
  exact (fun _ _ h => h)
 refine AWp.skip ?_
 refine hK29 _ ?_
 clear hK29 K29
 refine seqK fun K36 hK36 => ?_
 refine seqK fun K37 hK37 => ?_
 refine region ?_
 refine s0 (fieldVA (TK rfl) rfl rfl (TK rfl) rfl rfl) rfl ?_
 refine s0 (loadV (TK rfl) rfl rfl rfl) rfl ?_
 obtain ⟨x38, gx38, hE⟩ := bindO_some hE
 refine s0 (callP rfl rfl (fun H => Z57_walk gx38 H)) rfl ?_
 refine nil ?_
 refine hK37 _ ?_
 clear hK37 K37
 refine condE hE rfl (fun hc39 hE => ?_) (fun hc39 hE => ?_)
 ·refine seqK fun K40 hK40 => ?_
  refine region ?_
  refine s0 moveA rfl ?_
  refine s0 (fieldVA (TK rfl) rfl rfl (TK rfl) rfl rfl) rfl ?_
  refine s0 (loadV (TK rfl) rfl rfl rfl) rfl ?_
  refine s0 (loadL (TK rfl) rfl rfl rfl rfl) rfl ?_
  obtain ⟨x41, gx41, hE⟩ := bindO_some hE
  refine sH (callH rfl rfl (Z68_walk gx41 _ hpG)) rfl ?_
  refine AOps.heq (h' := (H.set c0 (some (.cells (R12_work.c x41.2))))) (by first | rfl | (rw [Heap.set_set]; rfl) | (funext n_; simp only [Heap.set]; (repeat' split) <;> first | rfl | (exfalso; simp_all; done) | (simp_all; done))) ?_
  refine sLn (storeLFA (TK rfl) rfl rfl rfl rfl rfl) ?_
  refine nil ?_
  refine hK40 _ ?_
  clear hK40 K40
  refine AWp.ret ?_
  repeat (first | refine xBlock_ret ?_ | refine xThen_ret ?_)
  obtain rfl := Option.some.inj hE
  refine retQ.retF (H.set c0 (some (.cells (R12_work.c x41.2)))) rfl ⟨rfl, rfl⟩ ?_
  exact (fun _ _ h => h)
 refine AWp.skip ?_
 refine hK36 _ ?_
 clear hK36 K36
 refine seqK fun K42 hK42 => ?_
 refine AWp.draw rfl ?_
 refine DOps.s0 moveA rfl ?_
 refine DOps.s0 (nilP rfl) rfl ?_
 refine DOps.s0 (fieldP (TK rfl) rfl rfl (TK rfl) rfl rfl) rfl ?_
 refine DOps.s0 (loadP (TK rfl) rfl rfl hpG rfl) rfl ?_
 refine DOps.s0 (fieldVA (TK rfl) rfl rfl (TK rfl) rfl rfl) rfl ?_
 refine DOps.s0 (loadV (TK rfl) rfl rfl rfl) rfl ?_
 obtain ⟨x43, gx43, hE⟩ := bindO_some hE
 refine DOps.s0 (callP rfl rfl (fun H => Z53_walk gx43 H)) rfl ?_
 refine DOps.s0 moveA rfl ?_
 refine DOps.s0 (extract rfl rfl) rfl ?_
 refine DOps.s0 (extract rfl rfl) rfl ?_
 refine DOps.sB (TK rfl) rfl rfl ?_ (by repeat (first | exact Snoc.nil | apply Snoc.cons))
 refine DOps.sLn (storeLFA (TK rfl) rfl rfl rfl rfl rfl) ?_
 refine DOps.s0 assignA rfl ?_
 refine DOps.nil (by decide +kernel) ?_
 refine hK42 _ ?_
 clear hK42 K42
 refine freezeA 13 _ rfl (Keeps.c (k := 0) (by conv => lhs; whnf) (by rfl) (Keeps.c (k := 3) (by conv => lhs; whnf) (by rfl) (Keeps.c (k := 6) (by conv => lhs; whnf) (by rfl) (Keeps.c (k := 8) (by conv => lhs; whnf) (by rfl) Keeps.nil)))) ?_
 refine seqK fun K44 hK44 => ?_
 refine seqK fun K45 hK45 => ?_
 refine region ?_
 refine s0 (fieldVA (TK rfl) rfl rfl (TK rfl) rfl rfl) rfl ?_
 refine s0 (loadV (TK rfl) rfl rfl rfl) rfl ?_
 refine s0 (binI rfl rfl rfl) rfl ?_
 refine nil ?_
 refine hK45 _ ?_
 clear hK45 K45
 refine condE hE rfl (fun hc46 hE => ?_) (fun hc46 hE => ?_)
 ·refine seqK fun K47 hK47 => ?_
  refine region ?_
  refine s0 moveA rfl ?_
  refine s0 (loadV (TK rfl) rfl rfl rfl) rfl ?_
  refine s0 (loadL (TK rfl) rfl rfl rfl rfl) rfl ?_
  obtain ⟨x48, gx48, hE⟩ := bindO_some hE
  refine sH (callH rfl rfl (Z62_walk gx48 _ hpG)) rfl ?_
  refine AOps.heq (h' := (H.set c0 (some (.cells (R12_work.c x48.2))))) (by first | rfl | (rw [Heap.set_set]; rfl) | (funext n_; simp only [Heap.set]; (repeat' split) <;> first | rfl | (exfalso; simp_all; done) | (simp_all; done))) ?_
  refine sLn (storeLFA (TK rfl) rfl rfl rfl rfl rfl) ?_
  refine nil ?_
  refine hK47 _ ?_
  clear hK47 K47
  refine AWp.ret ?_
  repeat (first | refine xBlock_ret ?_ | refine xThen_ret ?_)
  obtain rfl := Option.some.inj hE
  refine retQ.retF (H.set c0 (some (.cells (R12_work.c x48.2)))) rfl ⟨rfl, rfl⟩ ?_
  exact (fun _ _ h => h)
 refine AWp.skip ?_
 refine hK44 _ ?_
 clear hK44 K44
 refine seqK fun K49 hK49 => ?_
 refine region ?_
 refine s0 moveA rfl ?_
 refine s0 (loadV (TK rfl) rfl rfl rfl) rfl ?_
 refine s0 (loadL (TK rfl) rfl rfl rfl rfl) rfl ?_
 refine s0 moveA rfl ?_
 obtain ⟨x50, gx50, hE⟩ := bindO_some hE
 refine sH (callH rfl rfl (ih_103 gx50 _ hpG)) rfl ?_
 refine AOps.heq (h' := (H.set c0 (some (.cells (R12_work.c x50.2))))) (by first | rfl | (rw [Heap.set_set]; rfl) | (funext n_; simp only [Heap.set]; (repeat' split) <;> first | rfl | (exfalso; simp_all; done) | (simp_all; done))) ?_
 refine sLn (storeLFA (TK rfl) rfl rfl rfl rfl rfl) ?_
 refine nil ?_
 refine hK49 _ ?_
 clear hK49 K49
 refine AWp.ret ?_
 repeat (first | refine xBlock_ret ?_ | refine xThen_ret ?_)
 obtain rfl := Option.some.inj hE
 refine retQ.retF (H.set c0 (some (.cells (R12_work.c x50.2)))) rfl ⟨rfl, rfl⟩ ?_
 exact (fun _ _ h => h)
theorem r12_work_list_step (n : Nat) (ih_71 : ∀ {a0 : R12_work} {a1 : TRef} {a2 : TValue} {a3 : Int}  {c0 : Nat} {r : (TValue × R12_work)}, r12_work_coerce_n n a0 a1 a2 a3 = some r → ∀ (H : Heap) (hc0 : H c0 = some (.cells (R12_work.c a0))), ACalls Tryz.prog 71 [.d (.ptr c0 0), .agg (TRef.c a1), .agg (TValue.c a2), .d (.int .i64 a3)] H fun v h' => v = .a (.agg (TValue.c r.1)) ∧ h' = (H.set c0 (some (.cells (R12_work.c r.2))))) (ih_100 : ∀ {a0 : R12_work} {a1 : TRef} {a2 : TValue} {a3 : Int}  {c0 : Nat} {r : (TValue × R12_work)}, r12_work_list_n n a0 a1 a2 a3 = some r → ∀ (H : Heap) (hc0 : H c0 = some (.cells (R12_work.c a0))), ACalls Tryz.prog 100 [.d (.ptr c0 0), .agg (TRef.c a1), .agg (TValue.c a2), .d (.int .i64 a3)] H fun v h' => v = .a (.agg (TValue.c r.1)) ∧ h' = (H.set c0 (some (.cells (R12_work.c r.2))))) (ih_103 : ∀ {a0 : R12_work} {a1 : TDef} {a2 : TValue} {a3 : Int}  {c0 : Nat} {r : (TValue × R12_work)}, r12_work_object_n n a0 a1 a2 a3 = some r → ∀ (H : Heap) (hc0 : H c0 = some (.cells (R12_work.c a0))), ACalls Tryz.prog 103 [.d (.ptr c0 0), .agg (TDef.c a1), .agg (TValue.c a2), .d (.int .i64 a3)] H fun v h' => v = .a (.agg (TValue.c r.1)) ∧ h' = (H.set c0 (some (.cells (R12_work.c r.2))))) (ih_119 : ∀ {a0 : R12_work} {a1 : TRef} {a2 : TValue} {a3 : Int}  {c0 : Nat} {r : (TValue × R12_work)}, Z66_n n a0 a1 a2 a3 = some r → ∀ (H : Heap) (hc0 : H c0 = some (.cells (R12_work.c a0))), ACalls Tryz.prog 119 [.d (.ptr c0 0), .agg (TRef.c a1), .agg (TValue.c a2), .d (.int .i64 a3)] H fun v h' => v = .a (.agg (TValue.c r.1)) ∧ h' = (H.set c0 (some (.cells (R12_work.c r.2))))) : ∀ {a0 : R12_work} {a1 : TRef} {a2 : TValue} {a3 : Int}  {c0 : Nat} {r : (TValue × R12_work)}, r12_work_list_n (n + 1) a0 a1 a2 a3 = some r → ∀ (H : Heap) (hc0 : H c0 = some (.cells (R12_work.c a0))), ACalls Tryz.prog 100 [.d (.ptr c0 0), .agg (TRef.c a1), .agg (TValue.c a2), .d (.int .i64 a3)] H fun v h' => v = .a (.agg (TValue.c r.1)) ∧ h' = (H.set c0 (some (.cells (R12_work.c r.2)))) := by
 intro a0 a1 a2 a3  c0 r hE H hc0
 rw [r12_work_list_n] at hE
 refine ACalls.of_wp (fn := Tryz.f100) (c := _) Tryz.tab_ok (fun _ _ => Tryz.call100 _ _) Tryz.func100 rfl (n := 50) rfl (rs := [.cell 8 31]) rfl rfl ?_
 refine AWp.heqA (h' := (H.set c0 (some (.cells (R12_work.c a0))))) (by funext n_; simp only [Heap.set]; (repeat' split) <;> simp_all) ?_
 refine seqK fun K1 hK1 => ?_
 refine region ?_
 refine s0 (boxV rfl) rfl ?_
 refine s0 (boxV rfl) rfl ?_
 refine sL (allocLA (TK rfl) rfl) rfl ?_
 refine nil ?_
 refine hK1 _ ?_
 clear hK1 K1
 refine seqK fun K2 hK2 => ?_
 refine region ?_
 refine s0 (loadV (TK rfl) rfl rfl rfl) rfl ?_
 refine s0 (buildSlice (TK rfl) rfl (TK rfl) rfl rfl rfl rfl rfl rfl) rfl ?_
 refine s0 assignA rfl ?_
 refine nil ?_
 refine hK2 _ ?_
 clear hK2 K2
 refine seqJH (KeepsT.A (k := 0) (KeepsT.A (k := 3) (KeepsT.A (k := 5) (KeepsT.A (k := 8) KeepsT.nil)))) (fun (z : (Sl TValue)) => [(9, .a (.d (Sl.d 5 TValue.c none z)))]) (fun z => (H.set c0 (some (.cells (R12_work.c a0))))) (fun z => r12_work_list_j3 a0 a1 a3 (r12_work_coerce_n n) z = some r) ?_ ?_
 ·intro K3 hK3
  refine seqK fun K26 hK26 => ?_
  refine region ?_
  refine s0 (fieldVA (TK rfl) rfl rfl (TK rfl) rfl rfl) rfl ?_
  refine s0 (loadV (TK rfl) rfl rfl rfl) rfl ?_
  refine s0 (binI rfl rfl rfl) rfl ?_
  refine nil ?_
  refine hK26 _ ?_
  clear hK26 K26
  refine condE hE rfl (fun hc27 hE => ?_) (fun hc27 hE => ?_)
  ·refine region ?_
   refine s0 (fieldVA (TK rfl) rfl rfl (TK rfl) rfl rfl) rfl ?_
   refine s0 (loadV (TK rfl) rfl rfl (congrArg (fun x => some (A.d x)) (TValue.FItemsD_eq _))) rfl ?_
   refine s0 assignA rfl ?_
   refine nil ?_
   exact hK3 _ a2.FItems Weak.toA hE
  refine AWp.skip ?_
  exact hK3 _ (⟨false, [a2]⟩ : Sl TValue) Weak.toA hE
 rintro s9_4 hE
 try dsimp only at hE
 unfold r12_work_list_j3 at hE
 refine seqK fun K5 hK5 => ?_
 refine region ?_
 refine s0 (build Tryz.tab_ok rfl rfl rfl rfl rfl rfl) rfl ?_
 refine sL (allocLA (TK rfl) rfl) rfl ?_
 refine AOps.tok 5 fun tk10_6 htk10_6 => ?_
 obtain ⟨ne_tk10_6_c0, htk10_6⟩ := Heap.set_fresh htk10_6
 refine AOps.relocal 1 _ rfl (fun j w cs hh hx => tok_cell 3 5 5 hh (t := tk10_6) hpG hx rfl) ?_
 refine sLn (storeLFA (TK rfl) rfl rfl rfl rfl rfl) ?_
 refine AOps.relocal 1 _ rfl (fun j w cs hh hx => tok_cell 3 5 5 hh (t := tk10_6) hpG hx rfl) ?_
 refine nil ?_
 refine hK5 _ ?_
 clear hK5 K5
 refine seqJ (KeepsT.A (k := 8) (KeepsT.A (k := 10) KeepsT.nil)) (fun (z : R12_work × TValue) => []) (fun z => [TValue.c TValue.zero, ((intE .i64) z.2.FKind ++ (intE .i64) z.2.FInt ++ strE z.2.FText ++ [Sl.d 5 TValue.c (some tk10_6) z.2.FItems] ++ (fun s => [Sl.d 1 strE none s]) z.2.FKeys)]) (fun z => ((H.set c0 (some (.cells (R12_work.c z.1)))).set tk10_6 (some (.tok 5 z.2.FItems.l.length)))) (fun z => r12_work_list_j7 z.1 z.2 = some r) ?_ ?_
 ·intro K7 hK7
  refine seqK fun K11 hK11 => ?_
  refine region ?_
  refine s0 assignA rfl ?_
  refine nil ?_
  refine hK11 _ ?_
  clear hK11 K11
  refine block ?_
  refine loopO (KeepsT.A (k := 0) (KeepsT.A (k := 3) (KeepsT.A (k := 5) (KeepsT.A (k := 8) (KeepsT.A (k := 9) (KeepsT.A (k := 10) KeepsT.nil)))))) (fun (z : Nat × Nat × R12_work × TValue) => [(11, .a (.d (.int .i64 ((z.2.1 : Nat) : Int))))]) (fun z => [TValue.c TValue.zero, ((intE .i64) z.2.2.2.FKind ++ (intE .i64) z.2.2.2.FInt ++ strE z.2.2.2.FText ++ [Sl.d 5 TValue.c (some tk10_6) z.2.2.2.FItems] ++ (fun s => [Sl.d 1 strE none s]) z.2.2.2.FKeys)]) (fun z => ((H.set c0 (some (.cells (R12_work.c z.2.2.1)))).set tk10_6 (some (.tok 5 z.2.2.2.FItems.l.length)))) (fun z => z.1) (fun z => r12_work_list_l12 a1 a3 s9_4 (r12_work_coerce_n n) z.1 z.2.1 z.2.2.1 z.2.2.2 = some r) ((s9_4.l.length + 1), 0, a0, (TValue.mk (5 : Int) (0 : Int) ([] : Bs) true ([]) (Sl.nil : Sl Bs))) hE Weak.toA ?_
  rintro ⟨n12, s11_13, y14_c0, y15_l1⟩ hE K12 hK12
  try dsimp only at hE
  cases n12 with
  | zero => cases hE
  | succ n12 =>
    rw [r12_work_list_l12] at hE
    refine seqK fun K16 hK16 => ?_
    refine seqK fun K17 hK17 => ?_
    refine region ?_
    refine s0 moveA rfl ?_
    refine s0 moveA rfl ?_
    refine sLen (f := TValue.c) (s := s9_4) (TK rfl) rfl rfl rfl rfl fun hL18 => ?_
    refine s0 (binI rfl rfl rfl) rfl ?_
    refine s0 moveA rfl ?_
    refine gC rfl rfl (fun hC => moveA) rfl ?_
    refine gC rfl rfl (fun hC => ungdA (k := 26) rfl (nilP rfl)) rfl ?_
    refine gC rfl rfl (fun hC => ungdA (k := 27) rfl (fieldP (TK rfl) rfl rfl (TK rfl) rfl rfl)) rfl ?_
    refine gC rfl rfl (fun hC => ungdA (k := 28) rfl (loadP (TK rfl) rfl rfl hpG rfl)) rfl ?_
    refine gC rfl rfl (fun hC => ungdA (k := 29) rfl (binI rfl rfl rfl)) rfl ?_
    refine s0 (pickAndA rfl rfl rfl) rfl ?_
    refine nil ?_
    refine hK17 _ ?_
    clear hK17 K17
    refine condE hE rfl (fun hc19 hE => ?_) (fun hc19 hE => ?_)
    ·try dsimp only at hc19
     have hf19 := of_decide_eq_true (and_left hc19)
     refine AWp.skip ?_
     refine hK16 _ ?_
     clear hK16 K16
     refine seqK fun K20 hK20 => ?_
     refine block ?_
     refine seqK fun K21 hK21 => ?_
     refine AWp.draw rfl ?_
     refine DOps.s0 moveA rfl ?_
     refine DOps.s0 (loadV (TK rfl) rfl rfl rfl) rfl ?_
     refine DOps.s0 moveA rfl ?_
     refine DOps.s0 moveA rfl ?_
     obtain ⟨x22, gx22, hE⟩ := bindO_some hE
     refine DOps.s0 (idxMn (f := TValue.c) (n := s11_13) (TK rfl) rfl (TK rfl) rfl rfl rfl gx22) rfl ?_
     refine DOps.s0 (loadV (TK rfl) rfl rfl rfl) rfl ?_
     refine DOps.s0 moveA rfl ?_
     obtain ⟨x23, gx23, hE⟩ := bindO_some hE
     refine DOps.s0 (addM rfl rfl gx23) rfl ?_
     obtain ⟨x24, gx24, hE⟩ := bindO_some hE
     refine DOps.sH (callH rfl rfl (ih_71 gx24 _ hpG)) rfl ?_
     refine DOps.heq (h' := ((H.set c0 (some (.cells (R12_work.c x24.2)))).set tk10_6 (some (.tok 5 y15_l1.FItems.l.length)))) (by first | rfl | (rw [Heap.set_set]; rfl) | (funext n_; simp only [Heap.set]; (repeat' split) <;> first | rfl | (exfalso; simp_all; done) | (simp_all; done))) ?_
     refine DOps.sB (TK rfl) rfl rfl ?_ (by repeat (first | exact Snoc.nil | apply Snoc.cons))
     refine DOps.sLn (storeLFA (TK rfl) rfl rfl rfl rfl rfl) ?_
     refine DOps.nil (by decide +kernel) ?_
     refine hK21 _ ?_
     clear hK21 K21
     refine freezeA 12 _ rfl (Keeps.c (k := 0) (by conv => lhs; whnf) (by rfl) (Keeps.c (k := 3) (by conv => lhs; whnf) (by rfl) (Keeps.c (k := 5) (by conv => lhs; whnf) (by rfl) (Keeps.c (k := 8) (by conv => lhs; whnf) (by rfl) (Keeps.c (k := 9) (by conv => lhs; whnf) (by rfl) (Keeps.c (k := 10) (by conv => lhs; whnf) (by rfl) (Keeps.c (k := 11) (by conv => lhs; whnf) (by rfl) Keeps.nil))))))) ?_
     refine region ?_
     refine s0 (fieldL (TK rfl) rfl rfl (TK rfl) rfl rfl) rfl ?_
     refine s0 (loadL (TK rfl) rfl rfl rfl rfl) rfl ?_
     refine s0 (loadV (TK rfl) rfl rfl rfl) rfl ?_
     refine s0 (buildSlice (TK rfl) rfl (TK rfl) rfl rfl rfl rfl rfl rfl) rfl ?_
     obtain ⟨x25, gx25, hE⟩ := bindO_some hE
     refine sH (appM (f := TValue.c) (TK rfl) rfl (TK rfl) (TK rfl) ⟨_, rfl⟩ rfl rfl (by decide) rfl rfl rfl rfl hpG rfl gx25) rfl ?_
     refine AOps.heq (h' := ((H.set c0 (some (.cells (R12_work.c x24.2)))).set tk10_6 (some (.tok 5 x25.l.length)))) (by first | rfl | (rw [Heap.set_set]; rfl) | (funext n_; simp only [Heap.set]; (repeat' split) <;> first | rfl | (exfalso; simp_all; done) | (simp_all; done))) ?_
     refine s0 (fieldL (TK rfl) rfl rfl (TK rfl) rfl rfl) rfl ?_
     refine sLn (storeL1 (TK rfl) rfl rfl rfl rfl (by repeat (first | exact SetAt.zero | apply SetAt.succ)) (by repeat (first | exact SetAt.zero | apply SetAt.succ))) ?_
     refine nil ?_
     refine hK20 _ ?_
     clear hK20 K20
     refine region ?_
     refine s0 moveA rfl ?_
     refine s0 (addIA rfl rfl) rfl ?_
     refine s0 assignA rfl ?_
     refine nil ?_
     exact hK12 _ (n12, (s11_13 + 1), x24.2, (TValue.mk y15_l1.FKind y15_l1.FInt y15_l1.FText x25.nl x25.l y15_l1.FKeys)) Weak.toA hE (Nat.lt_succ_self _)
    refine AWp.exit ?_
    exact hK7 _ (y14_c0, y15_l1) Weak.toA hE
 rintro ⟨y8_c0, y9_l1⟩ hE
 try dsimp only at hE
 unfold r12_work_list_j7 at hE
 refine seqK fun K10 hK10 => ?_
 refine AWp.relocal 1 _ rfl (fun j w cs hh hx => untok_cell 3 hx rfl) ?_
 refine AWp.relocal 1 (TValue.c y9_l1) rfl (fun j w cs hh hx => by rw [TValue.cu_eq]; exact hx) ?_
 refine region ?_
 refine s0 (loadL (TK rfl) rfl rfl rfl rfl) rfl ?_
 refine sLn (storeLFA (TK rfl) rfl rfl rfl rfl rfl) ?_
 refine nil ?_
 refine hK10 _ ?_
 clear hK10 K10
 refine AWp.ret ?_
 repeat (first | refine xBlock_ret ?_ | refine xThen_ret ?_)
 obtain rfl := Option.some.inj hE
 refine retQ.retF (H.set c0 (some (.cells (R12_work.c y8_c0)))) rfl ⟨rfl, rfl⟩ ?_
 intro id_ o_ he_
 have e_tk10_6 : id_ ≠ tk10_6 := fun e_ => by subst e_; simp_all [Heap.set]
 rw [← he_]
 simp only [Heap.set] at he_ ⊢
 (repeat' split) <;> simp_all
theorem r12_work_object_step (n : Nat) (ih_71 : ∀ {a0 : R12_work} {a1 : TRef} {a2 : TValue} {a3 : Int}  {c0 : Nat} {r : (TValue × R12_work)}, r12_work_coerce_n n a0 a1 a2 a3 = some r → ∀ (H : Heap) (hc0 : H c0 = some (.cells (R12_work.c a0))), ACalls Tryz.prog 71 [.d (.ptr c0 0), .agg (TRef.c a1), .agg (TValue.c a2), .d (.int .i64 a3)] H fun v h' => v = .a (.agg (TValue.c r.1)) ∧ h' = (H.set c0 (some (.cells (R12_work.c r.2))))) (ih_100 : ∀ {a0 : R12_work} {a1 : TRef} {a2 : TValue} {a3 : Int}  {c0 : Nat} {r : (TValue × R12_work)}, r12_work_list_n n a0 a1 a2 a3 = some r → ∀ (H : Heap) (hc0 : H c0 = some (.cells (R12_work.c a0))), ACalls Tryz.prog 100 [.d (.ptr c0 0), .agg (TRef.c a1), .agg (TValue.c a2), .d (.int .i64 a3)] H fun v h' => v = .a (.agg (TValue.c r.1)) ∧ h' = (H.set c0 (some (.cells (R12_work.c r.2))))) (ih_103 : ∀ {a0 : R12_work} {a1 : TDef} {a2 : TValue} {a3 : Int}  {c0 : Nat} {r : (TValue × R12_work)}, r12_work_object_n n a0 a1 a2 a3 = some r → ∀ (H : Heap) (hc0 : H c0 = some (.cells (R12_work.c a0))), ACalls Tryz.prog 103 [.d (.ptr c0 0), .agg (TDef.c a1), .agg (TValue.c a2), .d (.int .i64 a3)] H fun v h' => v = .a (.agg (TValue.c r.1)) ∧ h' = (H.set c0 (some (.cells (R12_work.c r.2))))) (ih_119 : ∀ {a0 : R12_work} {a1 : TRef} {a2 : TValue} {a3 : Int}  {c0 : Nat} {r : (TValue × R12_work)}, Z66_n n a0 a1 a2 a3 = some r → ∀ (H : Heap) (hc0 : H c0 = some (.cells (R12_work.c a0))), ACalls Tryz.prog 119 [.d (.ptr c0 0), .agg (TRef.c a1), .agg (TValue.c a2), .d (.int .i64 a3)] H fun v h' => v = .a (.agg (TValue.c r.1)) ∧ h' = (H.set c0 (some (.cells (R12_work.c r.2))))) : ∀ {a0 : R12_work} {a1 : TDef} {a2 : TValue} {a3 : Int}  {c0 : Nat} {r : (TValue × R12_work)}, r12_work_object_n (n + 1) a0 a1 a2 a3 = some r → ∀ (H : Heap) (hc0 : H c0 = some (.cells (R12_work.c a0))), ACalls Tryz.prog 103 [.d (.ptr c0 0), .agg (TDef.c a1), .agg (TValue.c a2), .d (.int .i64 a3)] H fun v h' => v = .a (.agg (TValue.c r.1)) ∧ h' = (H.set c0 (some (.cells (R12_work.c r.2)))) := by
 intro a0 a1 a2 a3  c0 r hE H hc0
 rw [r12_work_object_n] at hE
 refine ACalls.of_wp (fn := Tryz.f103) (c := _) Tryz.tab_ok (fun _ _ => Tryz.call103 _ _) Tryz.func103 rfl (n := 123) rfl (rs := [.cell 8 31]) rfl rfl ?_
 refine AWp.heqA (h' := (H.set c0 (some (.cells (R12_work.c a0))))) (by funext n_; simp only [Heap.set]; (repeat' split) <;> simp_all) ?_
 refine seqK fun K1 hK1 => ?_
 refine region ?_
 refine s0 (boxV rfl) rfl ?_
 refine s0 (boxV rfl) rfl ?_
 refine sL (allocLA (TK rfl) rfl) rfl ?_
 refine nil ?_
 refine hK1 _ ?_
 clear hK1 K1
 refine seqK fun K2 hK2 => ?_
 refine seqK fun K3 hK3 => ?_
 refine region ?_
 refine s0 (fieldVA (TK rfl) rfl rfl (TK rfl) rfl rfl) rfl ?_
 refine s0 (loadV (TK rfl) rfl rfl rfl) rfl ?_
 refine s0 (binI rfl rfl rfl) rfl ?_
 refine nil ?_
 refine hK3 _ ?_
 clear hK3 K3
 refine condE hE rfl (fun hc4 hE => ?_) (fun hc4 hE => ?_)
 ·refine seqK fun K5 hK5 => ?_
  refine region ?_
  refine s0 moveA rfl ?_
  obtain ⟨x6, gx6, hE⟩ := bindO_some hE
  refine sH (callH rfl rfl (Z63_walk gx6 _ hpG)) rfl ?_
  refine AOps.heq (h' := (H.set c0 (some (.cells (R12_work.c x6))))) (by first | rfl | (rw [Heap.set_set]; rfl) | (funext n_; simp only [Heap.set]; (repeat' split) <;> first | rfl | (exfalso; simp_all; done) | (simp_all; done))) ?_
  refine nil ?_
  refine hK5 _ ?_
  clear hK5 K5
  refine seqK fun K7 hK7 => ?_
  refine region ?_
  refine s0 (build Tryz.tab_ok rfl rfl rfl rfl rfl rfl) rfl ?_
  refine sLn (storeLFA (TK rfl) rfl rfl rfl rfl rfl) ?_
  refine nil ?_
  refine hK7 _ ?_
  clear hK7 K7
  refine AWp.ret ?_
  repeat (first | refine xBlock_ret ?_ | refine xThen_ret ?_)
  obtain rfl := Option.some.inj hE
  refine retQ.retF (H.set c0 (some (.cells (R12_work.c x6)))) rfl ⟨rfl, rfl⟩ ?_
  exact (fun _ _ h => h)
 refine AWp.skip ?_
 refine hK2 _ ?_
 clear hK2 K2
 refine seqJH (KeepsT.A (k := 0) (KeepsT.A (k := 3) (KeepsT.A (k := 5) (KeepsT.A (k := 6) (KeepsT.A (k := 8) KeepsT.nil))))) (fun (z : R12_work) => []) (fun z => (H.set c0 (some (.cells (R12_work.c z))))) (fun z => r12_work_object_j8 a1 a2 a3 (Z66_n n) (r12_work_coerce_n n) z = some r) ?_ ?_
 ·intro K8 hK8
  refine seqK fun K57 hK57 => ?_
  refine region ?_
  refine s0 assignA rfl ?_
  refine nil ?_
  refine hK57 _ ?_
  clear hK57 K57
  refine block ?_
  refine loopH (KeepsT.A (k := 0) (KeepsT.A (k := 3) (KeepsT.A (k := 5) (KeepsT.A (k := 6) (KeepsT.A (k := 8) KeepsT.nil))))) (fun (z : Nat × Nat × R12_work) => [(9, .a (.d (.int .i64 ((z.2.1 : Nat) : Int))))]) (fun z => (H.set c0 (some (.cells (R12_work.c z.2.2))))) (fun z => z.1) (fun z => r12_work_object_l58 a1 a2 a3 (Z66_n n) (r12_work_coerce_n n) z.1 z.2.1 z.2.2 = some r) ((a2.FKeys.l.length + 1), 0, a0) hE Weak.toA ?_
  rintro ⟨n58, s9_59, y60_c0⟩ hE K58 hK58
  try dsimp only at hE
  cases n58 with
  | zero => cases hE
  | succ n58 =>
    rw [r12_work_object_l58] at hE
    refine seqK fun K61 hK61 => ?_
    refine seqK fun K62 hK62 => ?_
    refine region ?_
    refine s0 moveA rfl ?_
    refine s0 (fieldVA (TK rfl) rfl rfl (TK rfl) rfl rfl) rfl ?_
    refine s0 (loadV (TK rfl) rfl rfl rfl) rfl ?_
    refine sLen (f := strE) (s := a2.FKeys) (TK rfl) rfl rfl rfl rfl fun hL63 => ?_
    refine s0 (binI rfl rfl rfl) rfl ?_
    refine nil ?_
    refine hK62 _ ?_
    clear hK62 K62
    refine condE hE rfl (fun hc64 hE => ?_) (fun hc64 hE => ?_)
    ·try dsimp only at hc64
     have hf64 := of_decide_eq_true hc64
     refine AWp.skip ?_
     refine hK61 _ ?_
     clear hK61 K61
     refine seqJH (KeepsT.A (k := 0) (KeepsT.A (k := 3) (KeepsT.A (k := 5) (KeepsT.A (k := 6) (KeepsT.A (k := 8) (KeepsT.A (k := 9) KeepsT.nil)))))) (fun (z : R12_work) => []) (fun z => (H.set c0 (some (.cells (R12_work.c z))))) (fun z => r12_work_object_j65 s9_59 ((r12_work_object_l58 a1 a2 a3 (Z66_n n) (r12_work_coerce_n n) n58)) z = some r) ?_ ?_
     ·intro K65 hK65
      refine block ?_
      refine seqK fun K67 hK67 => ?_
      refine AWp.draw rfl ?_
      refine DOps.s0 (fieldVA (TK rfl) rfl rfl (TK rfl) rfl rfl) rfl ?_
      refine DOps.s0 (loadV (TK rfl) rfl rfl rfl) rfl ?_
      refine DOps.s0 (fieldVA (TK rfl) rfl rfl (TK rfl) rfl rfl) rfl ?_
      refine DOps.s0 (loadV (TK rfl) rfl rfl rfl) rfl ?_
      refine DOps.s0 moveA rfl ?_
      obtain ⟨x68, gx68, hE⟩ := bindO_some hE
      refine DOps.s0 (idxMn (f := strE) (n := s9_59) (TK rfl) rfl (TK rfl) rfl rfl rfl gx68) rfl ?_
      refine DOps.s0 (loadV (TK rfl) rfl rfl rfl) rfl ?_
      obtain ⟨x69, gx69, hE⟩ := bindO_some hE
      refine DOps.s0 (callP rfl rfl (fun H => Z54_walk gx69 H)) rfl ?_
      refine DOps.s0 moveA rfl ?_
      refine DOps.s0 (extract rfl rfl) rfl ?_
      refine DOps.s0 (extract rfl rfl) rfl ?_
      refine DOps.sB (TK rfl) rfl rfl ?_ (by repeat (first | exact Snoc.nil | apply Snoc.cons))
      refine DOps.sLn (storeLFA (TK rfl) rfl rfl rfl rfl rfl) ?_
      refine DOps.s0 assignA rfl ?_
      refine DOps.nil (by decide +kernel) ?_
      refine hK67 _ ?_
      clear hK67 K67
      refine freezeA 10 _ rfl (Keeps.c (k := 0) (by conv => lhs; whnf) (by rfl) (Keeps.c (k := 3) (by conv => lhs; whnf) (by rfl) (Keeps.c (k := 5) (by conv => lhs; whnf) (by rfl) (Keeps.c (k := 6) (by conv => lhs; whnf) (by rfl) (Keeps.c (k := 8) (by conv => lhs; whnf) (by rfl) (Keeps.c (k := 9) (by conv => lhs; whnf) (by rfl) (Keeps.c (k := 11) (by conv => lhs; whnf) (by rfl) Keeps.nil))))))) ?_
      refine seqK fun K70 hK70 => ?_
      refine region ?_
      refine s0 moveA rfl ?_
      refine s0 (notB rfl) rfl ?_
      refine nil ?_
      refine hK70 _ ?_
      clear hK70 K70
      refine condE hE rfl (fun hc71 hE => ?_) (fun hc71 hE => ?_)
      ·refine region ?_
       refine s0 moveA rfl ?_
       obtain ⟨x72, gx72, hE⟩ := bindO_some hE
       refine sH (callH rfl rfl (Z63_walk gx72 _ hpG)) rfl ?_
       refine AOps.heq (h' := (H.set c0 (some (.cells (R12_work.c x72))))) (by first | rfl | (rw [Heap.set_set]; rfl) | (funext n_; simp only [Heap.set]; (repeat' split) <;> first | rfl | (exfalso; simp_all; done) | (simp_all; done))) ?_
       refine nil ?_
       exact hK65 _ x72 Weak.toA hE
      refine AWp.skip ?_
      exact hK65 _ y60_c0 Weak.toA hE
     rintro y66_c0 hE
     try dsimp only at hE
     unfold r12_work_object_j65 at hE
     refine region ?_
     refine s0 moveA rfl ?_
     refine s0 (addIA rfl rfl) rfl ?_
     refine s0 assignA rfl ?_
     refine nil ?_
     exact hK58 _ (n58, (s9_59 + 1), y66_c0) Weak.toA hE (Nat.lt_succ_self _)
    refine AWp.exit ?_
    exact hK8 _ y60_c0 Weak.toA hE
 rintro y9_c0 hE
 try dsimp only at hE
 unfold r12_work_object_j8 at hE
 refine seqK fun K10 hK10 => ?_
 refine region ?_
 refine s0 (build Tryz.tab_ok rfl rfl rfl rfl rfl rfl) rfl ?_
 refine sL (allocLA (TK rfl) rfl) rfl ?_
 refine AOps.tok 5 fun tk12_11 htk12_11 => ?_
 obtain ⟨ne_tk12_11_c0, htk12_11⟩ := Heap.set_fresh htk12_11
 refine AOps.relocal 1 _ rfl (fun j w cs hh hx => tok_cell 3 5 5 hh (t := tk12_11) hpG hx rfl) ?_
 refine AOps.tok 1 fun tk12_12 htk12_12 => ?_
 obtain ⟨ne_tk12_12_tk12_11, htk12_12⟩ := Heap.set_fresh htk12_12
 obtain ⟨ne_tk12_12_c0, htk12_12⟩ := Heap.set_fresh htk12_12
 refine AOps.relocal 1 _ rfl (fun j w cs hh hx => tok_cell 4 1 1 hh (t := tk12_12) hpG hx rfl) ?_
 refine sLn (storeLFA (TK rfl) rfl rfl rfl rfl rfl) ?_
 refine AOps.relocal 1 _ rfl (fun j w cs hh hx => tok_cell 3 5 5 hh (t := tk12_11) hpG hx rfl) ?_
 refine AOps.relocal 1 _ rfl (fun j w cs hh hx => tok_cell 4 1 1 hh (t := tk12_12) hpG hx rfl) ?_
 refine nil ?_
 refine hK10 _ ?_
 clear hK10 K10
 refine seqJ (KeepsT.A (k := 8) (KeepsT.A (k := 12) KeepsT.nil)) (fun (z : R12_work × TValue) => []) (fun z => [TValue.c TValue.zero, ((intE .i64) z.2.FKind ++ (intE .i64) z.2.FInt ++ strE z.2.FText ++ [Sl.d 5 TValue.c (some tk12_11) z.2.FItems] ++ [Sl.d 1 strE (some tk12_12) z.2.FKeys])]) (fun z => (((H.set c0 (some (.cells (R12_work.c z.1)))).set tk12_11 (some (.tok 5 z.2.FItems.l.length))).set tk12_12 (some (.tok 1 z.2.FKeys.l.length)))) (fun z => r12_work_object_j13 z.1 z.2 = some r) ?_ ?_
 ·intro K13 hK13
  refine seqK fun K17 hK17 => ?_
  refine region ?_
  refine s0 assignA rfl ?_
  refine nil ?_
  refine hK17 _ ?_
  clear hK17 K17
  refine block ?_
  refine loopO (KeepsT.A (k := 0) (KeepsT.A (k := 3) (KeepsT.A (k := 5) (KeepsT.A (k := 6) (KeepsT.A (k := 8) (KeepsT.A (k := 12) KeepsT.nil)))))) (fun (z : Nat × Nat × R12_work × TValue) => [(13, .a (.d (.int .i64 ((z.2.1 : Nat) : Int))))]) (fun z => [TValue.c TValue.zero, ((intE .i64) z.2.2.2.FKind ++ (intE .i64) z.2.2.2.FInt ++ strE z.2.2.2.FText ++ [Sl.d 5 TValue.c (some tk12_11) z.2.2.2.FItems] ++ [Sl.d 1 strE (some tk12_12) z.2.2.2.FKeys])]) (fun z => (((H.set c0 (some (.cells (R12_work.c z.2.2.1)))).set tk12_11 (some (.tok 5 z.2.2.2.FItems.l.length))).set tk12_12 (some (.tok 1 z.2.2.2.FKeys.l.length)))) (fun z => z.1) (fun z => r12_work_object_l18 a1 a2 a3 (Z66_n n) (r12_work_coerce_n n) z.1 z.2.1 z.2.2.1 z.2.2.2 = some r) ((a1.FInputs.l.length + 1), 0, y9_c0, (TValue.mk (6 : Int) (0 : Int) ([] : Bs) true ([]) (Sl.nil : Sl Bs))) hE Weak.toA ?_
  rintro ⟨n18, s13_19, y20_c0, y21_l1⟩ hE K18 hK18
  try dsimp only at hE
  cases n18 with
  | zero => cases hE
  | succ n18 =>
    rw [r12_work_object_l18] at hE
    refine seqK fun K22 hK22 => ?_
    refine seqK fun K23 hK23 => ?_
    refine region ?_
    refine s0 moveA rfl ?_
    refine s0 (fieldVA (TK rfl) rfl rfl (TK rfl) rfl rfl) rfl ?_
    refine s0 (loadV (TK rfl) rfl rfl rfl) rfl ?_
    refine sLen (f := TInput.c) (s := a1.FInputs) (TK rfl) rfl rfl rfl rfl fun hL24 => ?_
    refine s0 (binI rfl rfl rfl) rfl ?_
    refine s0 moveA rfl ?_
    refine gC rfl rfl (fun hC => moveA) rfl ?_
    refine gC rfl rfl (fun hC => ungdA (k := 53) rfl (nilP rfl)) rfl ?_
    refine gC rfl rfl (fun hC => ungdA (k := 54) rfl (fieldP (TK rfl) rfl rfl (TK rfl) rfl rfl)) rfl ?_
    refine gC rfl rfl (fun hC => ungdA (k := 55) rfl (loadP (TK rfl) rfl rfl hpG rfl)) rfl ?_
    refine gC rfl rfl (fun hC => ungdA (k := 56) rfl (binI rfl rfl rfl)) rfl ?_
    refine s0 (pickAndA rfl rfl rfl) rfl ?_
    refine nil ?_
    refine hK23 _ ?_
    clear hK23 K23
    refine condE hE rfl (fun hc25 hE => ?_) (fun hc25 hE => ?_)
    ·try dsimp only at hc25
     have hf25 := of_decide_eq_true (and_left hc25)
     refine AWp.skip ?_
     refine hK22 _ ?_
     clear hK22 K22
     refine seqJ (KeepsT.A (k := 0) (KeepsT.A (k := 3) (KeepsT.A (k := 5) (KeepsT.A (k := 6) (KeepsT.A (k := 8) (KeepsT.A (k := 12) (KeepsT.A (k := 13) KeepsT.nil))))))) (fun (z : R12_work × TValue) => []) (fun z => [TValue.c TValue.zero, ((intE .i64) z.2.FKind ++ (intE .i64) z.2.FInt ++ strE z.2.FText ++ [Sl.d 5 TValue.c (some tk12_11) z.2.FItems] ++ [Sl.d 1 strE (some tk12_12) z.2.FKeys])]) (fun z => (((H.set c0 (some (.cells (R12_work.c z.1)))).set tk12_11 (some (.tok 5 z.2.FItems.l.length))).set tk12_12 (some (.tok 1 z.2.FKeys.l.length)))) (fun z => r12_work_object_j26 s13_19 ((r12_work_object_l18 a1 a2 a3 (Z66_n n) (r12_work_coerce_n n) n18)) z.1 z.2 = some r) ?_ ?_
     ·intro K26 hK26
      refine block ?_
      refine seqK fun K29 hK29 => ?_
      refine region ?_
      refine s0 (fieldVA (TK rfl) rfl rfl (TK rfl) rfl rfl) rfl ?_
      refine s0 (loadV (TK rfl) rfl rfl rfl) rfl ?_
      refine s0 moveA rfl ?_
      obtain ⟨x30, gx30, hE⟩ := bindO_some hE
      refine s0 (idxMn (f := TInput.c) (n := s13_19) (TK rfl) rfl (TK rfl) rfl rfl rfl gx30) rfl ?_
      refine s0 (loadV (TK rfl) rfl rfl rfl) rfl ?_
      refine sL (allocLA (TK rfl) rfl) rfl ?_
      refine sLn (storeLFA (TK rfl) rfl rfl rfl rfl rfl) ?_
      refine nil ?_
      refine hK29 _ ?_
      clear hK29 K29
      refine freezeA 14 _ rfl (Keeps.c (k := 0) (by conv => lhs; whnf) (by rfl) (Keeps.c (k := 3) (by conv => lhs; whnf) (by rfl) (Keeps.c (k := 5) (by conv => lhs; whnf) (by rfl) (Keeps.c (k := 6) (by conv => lhs; whnf) (by rfl) (Keeps.c (k := 8) (by conv => lhs; whnf) (by rfl) (Keeps.c (k := 12) (by conv => lhs; whnf) (by rfl) (Keeps.c (k := 13) (by conv => lhs; whnf) (by rfl) Keeps.nil))))))) ?_
      refine seqK fun K31 hK31 => ?_
      refine seqK fun K32 hK32 => ?_
      refine region ?_
      refine s0 (fieldVA (TK rfl) rfl rfl (TK rfl) rfl rfl) rfl ?_
      refine s0 (loadV (TK rfl) rfl rfl rfl) rfl ?_
      refine s0 moveA rfl ?_
      obtain ⟨x33, gx33, hE⟩ := bindO_some hE
      refine s0 (callP rfl rfl (fun H => Z60_walk gx33 H)) rfl ?_
      refine nil ?_
      refine hK32 _ ?_
      clear hK32 K32
      refine condE hE rfl (fun hc34 hE => ?_) (fun hc34 hE => ?_)
      ·refine AWp.exit ?_
       exact hK26 _ (y20_c0, y21_l1) Weak.toA hE
      refine AWp.skip ?_
      refine hK31 _ ?_
      clear hK31 K31
      refine seqK fun K35 hK35 => ?_
      refine region ?_
      refine s0 (loadV (TK rfl) rfl rfl rfl) rfl ?_
      refine s0 (fieldVA (TK rfl) rfl rfl (TK rfl) rfl rfl) rfl ?_
      refine s0 (loadV (TK rfl) rfl rfl rfl) rfl ?_
      obtain ⟨x36, gx36, hE⟩ := bindO_some hE
      refine s0 (callP rfl rfl (fun H => Z26_walk gx36 H)) rfl ?_
      refine s0 moveA rfl ?_
      refine s0 (extract rfl rfl) rfl ?_
      refine s0 (extract rfl rfl) rfl ?_
      refine sL (allocLA (TK rfl) rfl) rfl ?_
      refine sLn (storeLFA (TK rfl) rfl rfl rfl rfl rfl) ?_
      refine s0 assignA rfl ?_
      refine nil ?_
      refine hK35 _ ?_
      clear hK35 K35
      refine freezeA 15 _ rfl (Keeps.c (k := 0) (by conv => lhs; whnf) (by rfl) (Keeps.c (k := 3) (by conv => lhs; whnf) (by rfl) (Keeps.c (k := 5) (by conv => lhs; whnf) (by rfl) (Keeps.c (k := 6) (by conv => lhs; whnf) (by rfl) (Keeps.c (k := 8) (by conv => lhs; whnf) (by rfl) (Keeps.c (k := 12) (by conv => lhs; whnf) (by rfl) (Keeps.c (k := 13) (by conv => lhs; whnf) (by rfl) (Keeps.c (k := 14) (by conv => lhs; whnf) (by rfl) (Keeps.c (k := 16) (by conv => lhs; whnf) (by rfl) Keeps.nil))))))))) ?_
      refine seqK fun K37 hK37 => ?_
      refine region ?_
      refine sL (allocLA (TK rfl) rfl) rfl ?_
      refine nil ?_
      refine hK37 _ ?_
      clear hK37 K37
      refine seqJ (KeepsT.A (k := 0) (KeepsT.A (k := 3) (KeepsT.A (k := 5) (KeepsT.A (k := 6) (KeepsT.A (k := 8) (KeepsT.A (k := 12) (KeepsT.A (k := 13) (KeepsT.A (k := 14) (KeepsT.A (k := 17) KeepsT.nil))))))))) (fun (z : R12_work × TValue) => []) (fun z => [TValue.c TValue.zero, ((intE .i64) y21_l1.FKind ++ (intE .i64) y21_l1.FInt ++ strE y21_l1.FText ++ [Sl.d 5 TValue.c (some tk12_11) y21_l1.FItems] ++ [Sl.d 1 strE (some tk12_12) y21_l1.FKeys]), TValue.c z.2]) (fun z => (((H.set c0 (some (.cells (R12_work.c z.1)))).set tk12_11 (some (.tok 5 y21_l1.FItems.l.length))).set tk12_12 (some (.tok 1 y21_l1.FKeys.l.length)))) (fun z => r12_work_object_j38 s13_19 y21_l1 x30 ((r12_work_object_l18 a1 a2 a3 (Z66_n n) (r12_work_coerce_n n) n18)) z.1 z.2 = some r) ?_ ?_
      ·intro K38 hK38
       refine block ?_
       refine seqK fun K44 hK44 => ?_
       refine region ?_
       refine s0 moveA rfl ?_
       refine s0 moveA rfl ?_
       refine gC rfl rfl (fun hC => moveA) rfl ?_
       refine gC rfl rfl (fun hC => loadV (TK rfl) rfl rfl rfl) rfl ?_
       obtain ⟨x45, gx45, hE⟩ := guardO_some hE
       refine gC rfl rfl (fun hC => ungdA (k := 80) rfl (ungdA (k := 81) rfl (callR rfl rfl (Z64_walk (gx45 hC) _ hpG)))) rfl ?_
       refine gC rfl rfl (fun hC => ungdA (k := 82) rfl (notB rfl)) rfl ?_
       refine s0 (pickAndA rfl rfl rfl) rfl ?_
       refine s0 assignA rfl ?_
       refine nil ?_
       refine hK44 _ ?_
       clear hK44 K44
       refine condE hE rfl (fun hc46 hE => ?_) (fun hc46 hE => ?_)
       ·refine region ?_
        refine s0 moveA rfl ?_
        refine s0 (fieldVA (TK rfl) rfl rfl (TK rfl) rfl rfl) rfl ?_
        refine s0 (loadV (TK rfl) rfl rfl rfl) rfl ?_
        refine s0 (loadV (TK rfl) rfl rfl rfl) rfl ?_
        refine s0 moveA rfl ?_
        obtain ⟨x47, gx47, hE⟩ := bindO_some hE
        refine s0 (addM rfl rfl gx47) rfl ?_
        obtain ⟨x48, gx48, hE⟩ := bindO_some hE
        refine sH (callH rfl rfl (ih_71 gx48 _ hpG)) rfl ?_
        refine AOps.heq (h' := (((H.set c0 (some (.cells (R12_work.c x48.2)))).set tk12_11 (some (.tok 5 y21_l1.FItems.l.length))).set tk12_12 (some (.tok 1 y21_l1.FKeys.l.length)))) (by first | rfl | (rw [Heap.set_set]; rfl) | (funext n_; simp only [Heap.set]; (repeat' split) <;> first | rfl | (exfalso; simp_all; done) | (simp_all; done))) ?_
        refine sLn (storeLFA (TK rfl) rfl rfl rfl rfl rfl) ?_
        refine nil ?_
        exact hK38 _ (x48.2, x48.1) Weak.toA hE
       refine seqK fun K49 hK49 => ?_
       refine region ?_
       refine s0 (fieldVA (TK rfl) rfl rfl (TK rfl) rfl rfl) rfl ?_
       refine s0 (loadV (TK rfl) rfl rfl rfl) rfl ?_
       refine s0 assignA rfl ?_
       refine nil ?_
       refine hK49 _ ?_
       clear hK49 K49
       refine condE hE rfl (fun hc50 hE => ?_) (fun hc50 hE => ?_)
       ·refine region ?_
        refine s0 moveA rfl ?_
        refine s0 (fieldVA (TK rfl) rfl rfl (TK rfl) rfl rfl) rfl ?_
        refine s0 (loadV (TK rfl) rfl rfl rfl) rfl ?_
        refine s0 (fieldVA (TK rfl) rfl rfl (TK rfl) rfl rfl) rfl ?_
        refine s0 (loadV (TK rfl) rfl rfl rfl) rfl ?_
        refine s0 moveA rfl ?_
        obtain ⟨x51, gx51, hE⟩ := bindO_some hE
        refine s0 (addM rfl rfl gx51) rfl ?_
        obtain ⟨x52, gx52, hE⟩ := bindO_some hE
        refine sH (callH rfl rfl (ih_119 gx52 _ hpG)) rfl ?_
        refine AOps.heq (h' := (((H.set c0 (some (.cells (R12_work.c x52.2)))).set tk12_11 (some (.tok 5 y21_l1.FItems.l.length))).set tk12_12 (some (.tok 1 y21_l1.FKeys.l.length)))) (by first | rfl | (rw [Heap.set_set]; rfl) | (funext n_; simp only [Heap.set]; (repeat' split) <;> first | rfl | (exfalso; simp_all; done) | (simp_all; done))) ?_
        refine sLn (storeLFA (TK rfl) rfl rfl rfl rfl rfl) ?_
        refine nil ?_
        exact hK38 _ (x52.2, x52.1) Weak.toA hE
       refine seqK fun K53 hK53 => ?_
       refine region ?_
       refine s0 (fieldVA (TK rfl) rfl rfl (TK rfl) rfl rfl) rfl ?_
       refine s0 (loadV (TK rfl) rfl rfl rfl) rfl ?_
       obtain ⟨x54, gx54, hE⟩ := bindO_some hE
       refine s0 (callP rfl rfl (fun H => Z38_walk gx54 H)) rfl ?_
       refine s0 assignA rfl ?_
       refine nil ?_
       refine hK53 _ ?_
       clear hK53 K53
       refine condE hE rfl (fun hc55 hE => ?_) (fun hc55 hE => ?_)
       ·refine region ?_
        refine s0 moveA rfl ?_
        obtain ⟨x56, gx56, hE⟩ := bindO_some hE
        refine sH (callH rfl rfl (Z63_walk gx56 _ hpG)) rfl ?_
        refine AOps.heq (h' := (((H.set c0 (some (.cells (R12_work.c x56)))).set tk12_11 (some (.tok 5 y21_l1.FItems.l.length))).set tk12_12 (some (.tok 1 y21_l1.FKeys.l.length)))) (by first | rfl | (rw [Heap.set_set]; rfl) | (funext n_; simp only [Heap.set]; (repeat' split) <;> first | rfl | (exfalso; simp_all; done) | (simp_all; done))) ?_
        refine nil ?_
        exact hK38 _ (x56, TValue.zero) Weak.toA hE
       refine AWp.exit ?_
       exact hK26 _ (y20_c0, y21_l1) Weak.toA hE
      rintro ⟨y39_c0, y40_l2⟩ hE
      try dsimp only at hE
      unfold r12_work_object_j38 at hE
      refine seqK fun K41 hK41 => ?_
      refine region ?_
      refine s0 (fieldL (TK rfl) rfl rfl (TK rfl) rfl rfl) rfl ?_
      refine s0 (loadL (TK rfl) rfl rfl rfl rfl) rfl ?_
      refine s0 (fieldVA (TK rfl) rfl rfl (TK rfl) rfl rfl) rfl ?_
      refine s0 (loadV (TK rfl) rfl rfl rfl) rfl ?_
      refine s0 (buildSlice (TK rfl) rfl (TK rfl) rfl rfl rfl rfl rfl rfl) rfl ?_
      obtain ⟨x42, gx42, hE⟩ := bindO_some hE
      refine sH (appM (f := strE) (TK rfl) rfl (TK rfl) (TK rfl) ⟨_, rfl⟩ rfl rfl (by decide) rfl rfl rfl rfl hpG rfl gx42) rfl ?_
      refine AOps.heq (h' := (((H.set c0 (some (.cells (R12_work.c y39_c0)))).set tk12_11 (some (.tok 5 y21_l1.FItems.l.length))).set tk12_12 (some (.tok 1 x42.l.length)))) (by first | rfl | (rw [Heap.set_set]; rfl) | (funext n_; simp only [Heap.set]; (repeat' split) <;> first | rfl | (exfalso; simp_all; done) | (simp_all; done))) ?_
      refine s0 (fieldL (TK rfl) rfl rfl (TK rfl) rfl rfl) rfl ?_
      refine sLn (storeL1 (TK rfl) rfl rfl rfl rfl (by repeat (first | exact SetAt.zero | apply SetAt.succ)) (by repeat (first | exact SetAt.zero | apply SetAt.succ))) ?_
      refine nil ?_
      refine hK41 _ ?_
      clear hK41 K41
      refine region ?_
      refine s0 (fieldL (TK rfl) rfl rfl (TK rfl) rfl rfl) rfl ?_
      refine s0 (loadL (TK rfl) rfl rfl rfl rfl) rfl ?_
      refine s0 (loadL (TK rfl) rfl rfl rfl rfl) rfl ?_
      refine s0 (buildSlice (TK rfl) rfl (TK rfl) rfl rfl rfl rfl rfl rfl) rfl ?_
      obtain ⟨x43, gx43, hE⟩ := bindO_some hE
      refine sH (appM (f := TValue.c) (TK rfl) rfl (TK rfl) (TK rfl) ⟨_, rfl⟩ rfl rfl (by decide) rfl rfl rfl rfl hpG rfl gx43) rfl ?_
      refine AOps.heq (h' := (((H.set c0 (some (.cells (R12_work.c y39_c0)))).set tk12_11 (some (.tok 5 x43.l.length))).set tk12_12 (some (.tok 1 x42.l.length)))) (by first | rfl | (rw [Heap.set_set]; rfl) | (funext n_; simp only [Heap.set]; (repeat' split) <;> first | rfl | (exfalso; simp_all; done) | (simp_all; done))) ?_
      refine s0 (fieldL (TK rfl) rfl rfl (TK rfl) rfl rfl) rfl ?_
      refine sLn (storeL1 (TK rfl) rfl rfl rfl rfl (by repeat (first | exact SetAt.zero | apply SetAt.succ)) (by repeat (first | exact SetAt.zero | apply SetAt.succ))) ?_
      refine nil ?_
      exact hK26 _ (y39_c0, (TValue.mk y21_l1.FKind y21_l1.FInt y21_l1.FText x43.nl x43.l x42)) Weak.toA hE
     rintro ⟨y27_c0, y28_l1⟩ hE
     try dsimp only at hE
     unfold r12_work_object_j26 at hE
     refine region ?_
     refine s0 moveA rfl ?_
     refine s0 (addIA rfl rfl) rfl ?_
     refine s0 assignA rfl ?_
     refine nil ?_
     exact hK18 _ (n18, (s13_19 + 1), y27_c0, y28_l1) Weak.toA hE (Nat.lt_succ_self _)
    refine AWp.exit ?_
    exact hK13 _ (y20_c0, y21_l1) Weak.toA hE
 rintro ⟨y14_c0, y15_l1⟩ hE
 try dsimp only at hE
 unfold r12_work_object_j13 at hE
 refine seqK fun K16 hK16 => ?_
 refine AWp.relocal 1 _ rfl (fun j w cs hh hx => untok_cell 3 hx rfl) ?_
 refine AWp.relocal 1 _ rfl (fun j w cs hh hx => untok_cell 4 hx rfl) ?_
 refine AWp.relocal 1 (TValue.c y15_l1) rfl (fun j w cs hh hx => by rw [TValue.cu_eq]; exact hx) ?_
 refine region ?_
 refine s0 (loadL (TK rfl) rfl rfl rfl rfl) rfl ?_
 refine sLn (storeLFA (TK rfl) rfl rfl rfl rfl rfl) ?_
 refine nil ?_
 refine hK16 _ ?_
 clear hK16 K16
 refine AWp.ret ?_
 repeat (first | refine xBlock_ret ?_ | refine xThen_ret ?_)
 obtain rfl := Option.some.inj hE
 refine retQ.retF (H.set c0 (some (.cells (R12_work.c y14_c0)))) rfl ⟨rfl, rfl⟩ ?_
 intro id_ o_ he_
 have e_tk12_11 : id_ ≠ tk12_11 := fun e_ => by subst e_; simp_all [Heap.set]
 have e_tk12_12 : id_ ≠ tk12_12 := fun e_ => by subst e_; simp_all [Heap.set]
 rw [← he_]
 simp only [Heap.set] at he_ ⊢
 (repeat' split) <;> simp_all
theorem Z66_step (n : Nat) (ih_71 : ∀ {a0 : R12_work} {a1 : TRef} {a2 : TValue} {a3 : Int}  {c0 : Nat} {r : (TValue × R12_work)}, r12_work_coerce_n n a0 a1 a2 a3 = some r → ∀ (H : Heap) (hc0 : H c0 = some (.cells (R12_work.c a0))), ACalls Tryz.prog 71 [.d (.ptr c0 0), .agg (TRef.c a1), .agg (TValue.c a2), .d (.int .i64 a3)] H fun v h' => v = .a (.agg (TValue.c r.1)) ∧ h' = (H.set c0 (some (.cells (R12_work.c r.2))))) (ih_100 : ∀ {a0 : R12_work} {a1 : TRef} {a2 : TValue} {a3 : Int}  {c0 : Nat} {r : (TValue × R12_work)}, r12_work_list_n n a0 a1 a2 a3 = some r → ∀ (H : Heap) (hc0 : H c0 = some (.cells (R12_work.c a0))), ACalls Tryz.prog 100 [.d (.ptr c0 0), .agg (TRef.c a1), .agg (TValue.c a2), .d (.int .i64 a3)] H fun v h' => v = .a (.agg (TValue.c r.1)) ∧ h' = (H.set c0 (some (.cells (R12_work.c r.2))))) (ih_103 : ∀ {a0 : R12_work} {a1 : TDef} {a2 : TValue} {a3 : Int}  {c0 : Nat} {r : (TValue × R12_work)}, r12_work_object_n n a0 a1 a2 a3 = some r → ∀ (H : Heap) (hc0 : H c0 = some (.cells (R12_work.c a0))), ACalls Tryz.prog 103 [.d (.ptr c0 0), .agg (TDef.c a1), .agg (TValue.c a2), .d (.int .i64 a3)] H fun v h' => v = .a (.agg (TValue.c r.1)) ∧ h' = (H.set c0 (some (.cells (R12_work.c r.2))))) (ih_119 : ∀ {a0 : R12_work} {a1 : TRef} {a2 : TValue} {a3 : Int}  {c0 : Nat} {r : (TValue × R12_work)}, Z66_n n a0 a1 a2 a3 = some r → ∀ (H : Heap) (hc0 : H c0 = some (.cells (R12_work.c a0))), ACalls Tryz.prog 119 [.d (.ptr c0 0), .agg (TRef.c a1), .agg (TValue.c a2), .d (.int .i64 a3)] H fun v h' => v = .a (.agg (TValue.c r.1)) ∧ h' = (H.set c0 (some (.cells (R12_work.c r.2))))) : ∀ {a0 : R12_work} {a1 : TRef} {a2 : TValue} {a3 : Int}  {c0 : Nat} {r : (TValue × R12_work)}, Z66_n (n + 1) a0 a1 a2 a3 = some r → ∀ (H : Heap) (hc0 : H c0 = some (.cells (R12_work.c a0))), ACalls Tryz.prog 119 [.d (.ptr c0 0), .agg (TRef.c a1), .agg (TValue.c a2), .d (.int .i64 a3)] H fun v h' => v = .a (.agg (TValue.c r.1)) ∧ h' = (H.set c0 (some (.cells (R12_work.c r.2)))) := by
 intro a0 a1 a2 a3  c0 r hE H hc0
 rw [Z66_n] at hE
 refine ACalls.of_wp (fn := Tryz.f119) (c := _) Tryz.tab_ok (fun _ _ => Tryz.call119 _ _) Tryz.func119 rfl (n := 41) rfl (rs := [.cell 8 31]) rfl rfl ?_
 refine AWp.heqA (h' := (H.set c0 (some (.cells (R12_work.c a0))))) (by funext n_; simp only [Heap.set]; (repeat' split) <;> simp_all) ?_
 refine seqK fun K1 hK1 => ?_
 refine region ?_
 refine s0 (boxV rfl) rfl ?_
 refine s0 (boxV rfl) rfl ?_
 refine sL (allocLA (TK rfl) rfl) rfl ?_
 refine nil ?_
 refine hK1 _ ?_
 clear hK1 K1
 refine seqK fun K2 hK2 => ?_
 refine AWp.draw rfl ?_
 refine DOps.s0 moveA rfl ?_
 refine DOps.s0 (nilP rfl) rfl ?_
 refine DOps.s0 (fieldP (TK rfl) rfl rfl (TK rfl) rfl rfl) rfl ?_
 refine DOps.s0 (loadP (TK rfl) rfl rfl hpG rfl) rfl ?_
 refine DOps.s0 moveA rfl ?_
 refine DOps.s0 (nilP rfl) rfl ?_
 refine DOps.s0 (fieldP (TK rfl) rfl rfl (TK rfl) rfl rfl) rfl ?_
 refine DOps.s0 (loadP (TK rfl) rfl rfl hpG rfl) rfl ?_
 refine DOps.sB (TK rfl) rfl rfl ?_ (by repeat (first | exact Snoc.nil | apply Snoc.cons))
 refine DOps.sLn (storeLFA (TK rfl) rfl rfl rfl rfl rfl) ?_
 refine DOps.s0 assignA rfl ?_
 refine DOps.nil (by decide +kernel) ?_
 refine hK2 _ ?_
 clear hK2 K2
 refine freezeA 9 _ rfl (Keeps.c (k := 0) (by conv => lhs; whnf) (by rfl) (Keeps.c (k := 3) (by conv => lhs; whnf) (by rfl) (Keeps.c (k := 5) (by conv => lhs; whnf) (by rfl) (Keeps.c (k := 6) (by conv => lhs; whnf) (by rfl) (Keeps.c (k := 8) (by conv => lhs; whnf) (by rfl) (Keeps.c (k := 10) (by conv => lhs; whnf) (by rfl) Keeps.nil)))))) ?_
 refine seqK fun K3 hK3 => ?_
 refine region ?_
 refine s0 moveA rfl ?_
 refine s0 moveA rfl ?_
 refine s0 (build Tryz.tab_ok rfl rfl rfl rfl rfl rfl) rfl ?_
 refine s0 (nilP rfl) rfl ?_
 refine s0 (fieldP (TK rfl) rfl rfl (TK rfl) rfl rfl) rfl ?_
 refine sHn (storeP' (TK rfl) rfl rfl hpG rfl (Nat.le_of_ble_eq_true rfl) rfl rfl) rfl rfl ?_
 refine AOps.heq (h' := (H.set c0 (some (.cells (R12_work.c (R12_work.mk a0.Fd (TValue.mk (0 : Int) (0 : Int) ([] : Bs) true ([]) (Sl.nil : Sl Bs)) a0.Flit a0.Fcount a0.Ferr)))))) (by first | rfl | (rw [Heap.set_set]; rfl) | (funext n_; simp only [Heap.set]; (repeat' split) <;> first | rfl | (exfalso; simp_all; done) | (simp_all; done))) ?_
 refine s0 (nilP rfl) rfl ?_
 refine s0 (fieldP (TK rfl) rfl rfl (TK rfl) rfl rfl) rfl ?_
 refine sHn (storeP1 (TK rfl) rfl rfl hpG rfl (by repeat (first | exact SetAt.zero | apply SetAt.succ))) rfl rfl ?_
 refine AOps.heq (h' := (H.set c0 (some (.cells (R12_work.c (R12_work.mk a0.Fd (TValue.mk (0 : Int) (0 : Int) ([] : Bs) true ([]) (Sl.nil : Sl Bs)) true a0.Fcount a0.Ferr)))))) (by first | rfl | (rw [Heap.set_set]; rfl) | (funext n_; simp only [Heap.set]; (repeat' split) <;> first | rfl | (exfalso; simp_all; done) | (simp_all; done))) ?_
 refine nil ?_
 refine hK3 _ ?_
 clear hK3 K3
 refine seqK fun K4 hK4 => ?_
 refine region ?_
 refine s0 moveA rfl ?_
 refine s0 (loadV (TK rfl) rfl rfl rfl) rfl ?_
 refine s0 (loadV (TK rfl) rfl rfl rfl) rfl ?_
 refine s0 moveA rfl ?_
 obtain ⟨x5, gx5, hE⟩ := bindO_some hE
 refine sH (callH rfl rfl (ih_71 gx5 _ hpG)) rfl ?_
 refine AOps.heq (h' := (H.set c0 (some (.cells (R12_work.c x5.2))))) (by first | rfl | (rw [Heap.set_set]; rfl) | (funext n_; simp only [Heap.set]; (repeat' split) <;> first | rfl | (exfalso; simp_all; done) | (simp_all; done))) ?_
 refine sL (allocLA (TK rfl) rfl) rfl ?_
 refine sLn (storeLFA (TK rfl) rfl rfl rfl rfl rfl) ?_
 refine nil ?_
 refine hK4 _ ?_
 clear hK4 K4
 refine freezeA 11 _ rfl (Keeps.c (k := 0) (by conv => lhs; whnf) (by rfl) (Keeps.c (k := 8) (by conv => lhs; whnf) (by rfl) (Keeps.c (k := 9) (by conv => lhs; whnf) (by rfl) (Keeps.c (k := 10) (by conv => lhs; whnf) (by rfl) Keeps.nil)))) ?_
 refine seqK fun K6 hK6 => ?_
 refine region ?_
 refine s0 moveA rfl ?_
 refine s0 moveA rfl ?_
 refine s0 (loadV (TK rfl) rfl rfl rfl) rfl ?_
 refine s0 moveA rfl ?_
 refine s0 (nilP rfl) rfl ?_
 refine s0 (fieldP (TK rfl) rfl rfl (TK rfl) rfl rfl) rfl ?_
 refine sHn (storeP' (TK rfl) rfl rfl hpG rfl (Nat.le_of_ble_eq_true rfl) rfl rfl) rfl rfl ?_
 refine AOps.heq (h' := (H.set c0 (some (.cells (R12_work.c (R12_work.mk x5.2.Fd a0.Fvars x5.2.Flit x5.2.Fcount x5.2.Ferr)))))) (by first | rfl | (rw [Heap.set_set]; rfl) | (funext n_; simp only [Heap.set]; (repeat' split) <;> first | rfl | (exfalso; simp_all; done) | (simp_all; done))) ?_
 refine s0 (nilP rfl) rfl ?_
 refine s0 (fieldP (TK rfl) rfl rfl (TK rfl) rfl rfl) rfl ?_
 refine sHn (storeP1 (TK rfl) rfl rfl hpG rfl (by repeat (first | exact SetAt.zero | apply SetAt.succ))) rfl rfl ?_
 refine AOps.heq (h' := (H.set c0 (some (.cells (R12_work.c (R12_work.mk x5.2.Fd a0.Fvars a0.Flit x5.2.Fcount x5.2.Ferr)))))) (by first | rfl | (rw [Heap.set_set]; rfl) | (funext n_; simp only [Heap.set]; (repeat' split) <;> first | rfl | (exfalso; simp_all; done) | (simp_all; done))) ?_
 refine nil ?_
 refine hK6 _ ?_
 clear hK6 K6
 refine seqK fun K7 hK7 => ?_
 refine region ?_
 refine s0 (loadV (TK rfl) rfl rfl rfl) rfl ?_
 refine sLn (storeLFA (TK rfl) rfl rfl rfl rfl rfl) ?_
 refine nil ?_
 refine hK7 _ ?_
 clear hK7 K7
 refine AWp.ret ?_
 repeat (first | refine xBlock_ret ?_ | refine xThen_ret ?_)
 obtain rfl := Option.some.inj hE
 refine retQ.retF (H.set c0 (some (.cells (R12_work.c (R12_work.mk x5.2.Fd a0.Fvars a0.Flit x5.2.Fcount x5.2.Ferr))))) rfl ⟨rfl, rfl⟩ ?_
 exact (fun _ _ h => h)
theorem r12_work_coerce_all : ∀ (n : Nat), (∀ {a0 : R12_work} {a1 : TRef} {a2 : TValue} {a3 : Int}  {c0 : Nat} {r : (TValue × R12_work)}, r12_work_coerce_n n a0 a1 a2 a3 = some r → ∀ (H : Heap) (hc0 : H c0 = some (.cells (R12_work.c a0))), ACalls Tryz.prog 71 [.d (.ptr c0 0), .agg (TRef.c a1), .agg (TValue.c a2), .d (.int .i64 a3)] H fun v h' => v = .a (.agg (TValue.c r.1)) ∧ h' = (H.set c0 (some (.cells (R12_work.c r.2))))) ∧ (∀ {a0 : R12_work} {a1 : TRef} {a2 : TValue} {a3 : Int}  {c0 : Nat} {r : (TValue × R12_work)}, r12_work_list_n n a0 a1 a2 a3 = some r → ∀ (H : Heap) (hc0 : H c0 = some (.cells (R12_work.c a0))), ACalls Tryz.prog 100 [.d (.ptr c0 0), .agg (TRef.c a1), .agg (TValue.c a2), .d (.int .i64 a3)] H fun v h' => v = .a (.agg (TValue.c r.1)) ∧ h' = (H.set c0 (some (.cells (R12_work.c r.2))))) ∧ (∀ {a0 : R12_work} {a1 : TDef} {a2 : TValue} {a3 : Int}  {c0 : Nat} {r : (TValue × R12_work)}, r12_work_object_n n a0 a1 a2 a3 = some r → ∀ (H : Heap) (hc0 : H c0 = some (.cells (R12_work.c a0))), ACalls Tryz.prog 103 [.d (.ptr c0 0), .agg (TDef.c a1), .agg (TValue.c a2), .d (.int .i64 a3)] H fun v h' => v = .a (.agg (TValue.c r.1)) ∧ h' = (H.set c0 (some (.cells (R12_work.c r.2))))) ∧ (∀ {a0 : R12_work} {a1 : TRef} {a2 : TValue} {a3 : Int}  {c0 : Nat} {r : (TValue × R12_work)}, Z66_n n a0 a1 a2 a3 = some r → ∀ (H : Heap) (hc0 : H c0 = some (.cells (R12_work.c a0))), ACalls Tryz.prog 119 [.d (.ptr c0 0), .agg (TRef.c a1), .agg (TValue.c a2), .d (.int .i64 a3)] H fun v h' => v = .a (.agg (TValue.c r.1)) ∧ h' = (H.set c0 (some (.cells (R12_work.c r.2)))))
 | 0 => ⟨fun hE => by first | cases hE | (rw [r12_work_coerce_n] at hE; cases hE), fun hE => by first | cases hE | (rw [r12_work_list_n] at hE; cases hE), fun hE => by first | cases hE | (rw [r12_work_object_n] at hE; cases hE), fun hE => by first | cases hE | (rw [Z66_n] at hE; cases hE)⟩
 | n + 1 => ⟨r12_work_coerce_step n (r12_work_coerce_all n).1 (r12_work_coerce_all n).2.1 (r12_work_coerce_all n).2.2.1 (r12_work_coerce_all n).2.2.2, r12_work_list_step n (r12_work_coerce_all n).1 (r12_work_coerce_all n).2.1 (r12_work_coerce_all n).2.2.1 (r12_work_coerce_all n).2.2.2, r12_work_object_step n (r12_work_coerce_all n).1 (r12_work_coerce_all n).2.1 (r12_work_coerce_all n).2.2.1 (r12_work_coerce_all n).2.2.2, Z66_step n (r12_work_coerce_all n).1 (r12_work_coerce_all n).2.1 (r12_work_coerce_all n).2.2.1 (r12_work_coerce_all n).2.2.2⟩
def r12_work_coerce (a0 : R12_work) (a1 : TRef) (a2 : TValue) (a3 : Int) : Option (TValue × R12_work) := r12_work_coerce_n F0 a0 a1 a2 a3
theorem r12_work_coerce_walk {a0 : R12_work} {a1 : TRef} {a2 : TValue} {a3 : Int}  {c0 : Nat} {r : (TValue × R12_work)} (hE : r12_work_coerce a0 a1 a2 a3 = some r) (H : Heap) (hc0 : H c0 = some (.cells (R12_work.c a0))) : ACalls Tryz.prog 71 [.d (.ptr c0 0), .agg (TRef.c a1), .agg (TValue.c a2), .d (.int .i64 a3)] H fun v h' => v = .a (.agg (TValue.c r.1)) ∧ h' = (H.set c0 (some (.cells (R12_work.c r.2)))) := (r12_work_coerce_all F0).1 hE H hc0
end Go.Proofs
