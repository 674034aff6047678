import Derived.Test.YtmjbloiidajknaaGreatDoorV1
set_option maxRecDepth 100000
set_option maxHeartbeats 2000000
set_option linter.unusedVariables false
set_option linter.unusedSimpArgs false
namespace Go.Proofs
open Go Go.Ab
open AOps Cert AWp
variable {lou : Lou}
def Z47_j2  (s1_3 : Int) : Option Int := some s1_3
def Z47_j13 (a0 : Bs) (s1_6 : Int) (x12 : UInt8) (k_next_5 : Int → Option Int) (s14_14 : Bool) : Option Int := bif s14_14 then ((addC s1_6 (1 : Int)).bind fun x16 => k_next_5 x16) else (bif (decide (((x12.toNat : Nat) : Int) = (35 : Int))) then ((cutC a0 (some s1_6) none).bind fun x20 => (Z35 x20 ([10, 13] : Bs)).bind fun x21 => bif (decide ((0 : Int) ≤ x21)) then ((addC s1_6 x21).bind fun x24 => k_next_5 x24) else (k_next_5 ((a0.length : Nat) : Int))) else (some s1_6))
def Z47_l5 (a0 : Bs)  : Nat → Int → Option Int
 | 0, _ => none
 | n5 + 1, s1_6 => bif (decide (s1_6 < ((a0.length : Nat) : Int))) then ((idxC a0 s1_6).bind fun x12 => bif (decide (((x12.toNat : Nat) : Int) = (32 : Int))) then (Z47_j13 a0 s1_6 x12 ((Z47_l5 a0 n5)) (decide (((x12.toNat : Nat) : Int) = (32 : Int)))) else (bif (decide (((x12.toNat : Nat) : Int) = (9 : Int))) then (Z47_j13 a0 s1_6 x12 ((Z47_l5 a0 n5)) (decide (((x12.toNat : Nat) : Int) = (9 : Int)))) else (bif (decide (((x12.toNat : Nat) : Int) = (10 : Int))) then (Z47_j13 a0 s1_6 x12 ((Z47_l5 a0 n5)) (decide (((x12.toNat : Nat) : Int) = (10 : Int)))) else (bif (decide (((x12.toNat : Nat) : Int) = (13 : Int))) then (Z47_j13 a0 s1_6 x12 ((Z47_l5 a0 n5)) (decide (((x12.toNat : Nat) : Int) = (13 : Int)))) else (Z47_j13 a0 s1_6 x12 ((Z47_l5 a0 n5)) (decide (((x12.toNat : Nat) : Int) = (44 : Int)))))))) else (Z47_j2   s1_6)
def Z47 (a0 : Bs) (a1 : Int) : Option Int := Z47_l5 a0 F0 a1
theorem Z47_walk {a0 : Bs} {a1 : Int}   {r : Int} (hE : Z47 a0 a1 = some r) (H : Heap)  : ACalls Tryz.prog 54 [.d (.str a0), .d (.int .i64 a1)] H fun v h' => v = .a (.d (.int .i64 r)) ∧ h' = H := by
 unfold Z47 at hE
 refine ACalls.of_wp (fn := Tryz.f54) (c := _) Tryz.tab_ok (fun _ _ => Tryz.call54 _ _) Tryz.func54 rfl (n := 36) rfl (rs := [.tmp 4]) rfl rfl ?_
 refine seqK fun K1 hK1 => ?_
 refine region ?_
 refine s0 assignA rfl ?_
 refine nil ?_
 refine hK1 _ ?_
 clear hK1 K1
 refine seqJH KeepsT.nil (fun (z : Int) => [(1, .a (.d (.int .i64 z)))]) (fun z => H) (fun z => Z47_j2 z = some r) ?_ ?_
 ·intro K2 hK2
  refine block ?_
  refine loopH (KeepsT.A (k := 0) KeepsT.nil) (fun (z : Nat × Int) => [(1, .a (.d (.int .i64 z.2)))]) (fun z => H) (fun z => z.1) (fun z => Z47_l5 a0 z.1 z.2 = some r) (F0, a1) hE Weak.toA ?_
  rintro ⟨n5, s1_6⟩ hE K5 hK5
  try dsimp only at hE
  cases n5 with
  | zero => cases hE
  | succ n5 =>
    rw [Z47_l5] at hE
    refine seqK fun K7 hK7 => ?_
    refine seqK fun K8 hK8 => ?_
    refine region ?_
    refine s0 moveA rfl ?_
    refine s0 moveA rfl ?_
    refine sLenS (TK rfl) rfl rfl rfl rfl fun hL9 => ?_
    refine s0 (binI rfl rfl rfl) rfl ?_
    refine nil ?_
    refine hK8 _ ?_
    clear hK8 K8
    refine condE hE rfl (fun hc10 hE => ?_) (fun hc10 hE => ?_)
    ·refine AWp.skip ?_
     refine hK7 _ ?_
     clear hK7 K7
     refine block ?_
     refine seqK fun K11 hK11 => ?_
     refine region ?_
     refine s0 moveA rfl ?_
     refine s0 moveA rfl ?_
     obtain ⟨x12, gx12, hE⟩ := bindO_some hE
     refine s0 (idxS (TK rfl) rfl rfl rfl gx12) rfl ?_
     refine nil ?_
     refine hK11 _ ?_
     clear hK11 K11
     refine block ?_
     refine seqJH (KeepsT.A (k := 0) (KeepsT.A (k := 1) (KeepsT.A (k := 12) KeepsT.nil))) (fun (z : Bool) => [(14, .a (.d (.bool z)))]) (fun z => H) (fun z => Z47_j13 a0 s1_6 x12 ((Z47_l5 a0 n5)) z = some r) ?_ ?_
     ·intro K13 hK13
      refine seqK fun K27 hK27 => ?_
      refine region ?_
      refine s0 (binI rfl rfl rfl) rfl ?_
      refine s0 assignA rfl ?_
      refine nil ?_
      refine hK27 _ ?_
      clear hK27 K27
      refine condE hE rfl (fun hc28 hE => ?_) (fun hc28 hE => ?_)
      ·refine AWp.skip ?_
       exact hK13 _ (decide (((x12.toNat : Nat) : Int) = (32 : Int))) Weak.toA hE
      refine seqK fun K29 hK29 => ?_
      refine region ?_
      refine s0 (binI rfl rfl rfl) rfl ?_
      refine s0 assignA rfl ?_
      refine nil ?_
      refine hK29 _ ?_
      clear hK29 K29
      refine condE hE rfl (fun hc30 hE => ?_) (fun hc30 hE => ?_)
      ·refine AWp.skip ?_
       exact hK13 _ (decide (((x12.toNat : Nat) : Int) = (9 : Int))) Weak.toA hE
      refine seqK fun K31 hK31 => ?_
      refine region ?_
      refine s0 (binI rfl rfl rfl) rfl ?_
      refine s0 assignA rfl ?_
      refine nil ?_
      refine hK31 _ ?_
      clear hK31 K31
      refine condE hE rfl (fun hc32 hE => ?_) (fun hc32 hE => ?_)
      ·refine AWp.skip ?_
       exact hK13 _ (decide (((x12.toNat : Nat) : Int) = (10 : Int))) Weak.toA hE
      refine seqK fun K33 hK33 => ?_
      refine region ?_
      refine s0 (binI rfl rfl rfl) rfl ?_
      refine s0 assignA rfl ?_
      refine nil ?_
      refine hK33 _ ?_
      clear hK33 K33
      refine condE hE rfl (fun hc34 hE => ?_) (fun hc34 hE => ?_)
      ·refine AWp.skip ?_
       exact hK13 _ (decide (((x12.toNat : Nat) : Int) = (13 : Int))) Weak.toA hE
      refine region ?_
      refine s0 (binI rfl rfl rfl) rfl ?_
      refine s0 assignA rfl ?_
      refine nil ?_
      exact hK13 _ (decide (((x12.toNat : Nat) : Int) = (44 : Int))) Weak.toA hE
     rintro s14_14 hE
     try dsimp only at hE
     unfold Z47_j13 at hE
     refine condE hE rfl (fun hc15 hE => ?_) (fun hc15 hE => ?_)
     ·refine region ?_
      refine s0 moveA rfl ?_
      obtain ⟨x16, gx16, hE⟩ := bindO_some hE
      refine s0 (addM rfl rfl gx16) rfl ?_
      refine s0 assignA rfl ?_
      refine nil ?_
      exact hK5 _ (n5, x16) Weak.toA hE (Nat.lt_succ_self _)
     refine seqK fun K17 hK17 => ?_
     refine region ?_
     refine s0 (binI rfl rfl rfl) rfl ?_
     refine s0 assignA rfl ?_
     refine nil ?_
     refine hK17 _ ?_
     clear hK17 K17
     refine condE hE rfl (fun hc18 hE => ?_) (fun hc18 hE => ?_)
     ·refine seqK fun K19 hK19 => ?_
      refine region ?_
      refine s0 moveA rfl ?_
      refine s0 moveA rfl ?_
      obtain ⟨x20, gx20, hE⟩ := bindO_some hE
      refine s0 (cutM (l := (some s1_6)) (r := none) (TK rfl) rfl rfl rfl trivial (by simp) gx20) rfl ?_
      obtain ⟨x21, gx21, hE⟩ := bindO_some hE
      refine s0 (callP rfl rfl (fun H => Z35_walk gx21 H)) rfl ?_
      refine s0 assignA rfl ?_
      refine nil ?_
      refine hK19 _ ?_
      clear hK19 K19
      refine seqK fun K22 hK22 => ?_
      refine region ?_
      refine s0 moveA rfl ?_
      refine s0 (binI rfl rfl rfl) rfl ?_
      refine nil ?_
      refine hK22 _ ?_
      clear hK22 K22
      refine condE hE rfl (fun hc23 hE => ?_) (fun hc23 hE => ?_)
      ·refine region ?_
       refine s0 moveA rfl ?_
       refine s0 moveA rfl ?_
       obtain ⟨x24, gx24, hE⟩ := bindO_some hE
       refine s0 (addM rfl rfl gx24) rfl ?_
       refine s0 assignA rfl ?_
       refine nil ?_
       exact hK5 _ (n5, x24) Weak.toA hE (Nat.lt_succ_self _)
      refine region ?_
      refine s0 moveA rfl ?_
      refine sLenS (TK rfl) rfl rfl rfl rfl fun hL25 => ?_
      refine s0 assignA rfl ?_
      refine nil ?_
      exact hK5 _ (n5, ((a0.length : Nat) : Int)) Weak.toA hE (Nat.lt_succ_self _)
     refine seqK fun K26 hK26 => ?_
     refine region ?_
     refine s0 moveA rfl ?_
     refine s0 assignA rfl ?_
     refine nil ?_
     refine hK26 _ ?_
     clear hK26 K26
     refine AWp.ret ?_
     repeat (first | refine xBlock_ret ?_ | refine xThen_ret ?_)
     obtain rfl := Option.some.inj hE
     refine retQ.retF H rfl ⟨rfl, rfl⟩ ?_
     exact (fun _ _ h => h)
    refine AWp.exit ?_
    exact hK2 _ s1_6 Weak.toA hE
 rintro s1_3 hE
 try dsimp only at hE
 unfold Z47_j2 at hE
 refine seqK fun K4 hK4 => ?_
 refine region ?_
 refine s0 moveA rfl ?_
 refine s0 assignA rfl ?_
 refine nil ?_
 refine hK4 _ ?_
 clear hK4 K4
 refine AWp.ret ?_
 repeat (first | refine xBlock_ret ?_ | refine xThen_ret ?_)
 obtain rfl := Option.some.inj hE
 refine retQ.retF H rfl ⟨rfl, rfl⟩ ?_
 exact (fun _ _ h => h)
def Tryz.lay78_ren : Go.Shelf.Ren := ⟨fun | 152 => 78 | 137 => 87 | 119 => 90 | 224 => 91 | 225 => 92 | 217 => 96 | 266 => 103 | n => n, fun | 9 => 9 | 21 => 21 | 3 => 3 | 4 => 4 | 5 => 5 | 0 => 0 | 46 => 98 | n => n, fun | n => n⟩
theorem Tryz.lay78 : Go.Proofs.Lays.n152 Tryz.prog Tryz.lay78_ren := {
 mixed := by kernel_rfl
 f119 := Tryz.func90.trans (congrArg some (by kernel_rfl))
 f137 := Tryz.func87.trans (congrArg some (by kernel_rfl))
 f152 := Tryz.func78.trans (congrArg some (by kernel_rfl))
 f217 := Tryz.func96.trans (congrArg some (by kernel_rfl))
 f224 := Tryz.func91.trans (congrArg some (by kernel_rfl))
 f225 := Tryz.func92.trans (congrArg some (by kernel_rfl))
 f266 := Tryz.func103.trans (congrArg some (by kernel_rfl))
 t0 := Tryz.underlying0
 a0 := Tryz.isAgg0
 z0 := Tryz.sizeOf0
 v0 := Tryz.zeroValue0
 t3 := Tryz.underlying3
 a3 := Tryz.isAgg3
 z3 := Tryz.sizeOf3
 v3 := Tryz.zeroValue3
 t4 := Tryz.underlying4
 a4 := Tryz.isAgg4
 z4 := Tryz.sizeOf4
 v4 := Tryz.zeroValue4
 t5 := Tryz.underlying5
 a5 := Tryz.isAgg5
 z5 := Tryz.sizeOf5
 v5 := Tryz.zeroValue5
 t9 := Tryz.underlying9
 a9 := Tryz.isAgg9
 z9 := Tryz.sizeOf9
 v9 := Tryz.zeroValue9
 t21 := Tryz.underlying21
 a21 := Tryz.isAgg21
 z21 := Tryz.sizeOf21
 v21 := Tryz.zeroValue21
 t46 := Tryz.underlying98
 a46 := Tryz.isAgg98
 z46 := Tryz.sizeOf98
 v46 := Tryz.zeroValue98 }
def Z37 (s : Bs) (r : Int) : Option Int := idxRuneC s r
theorem Z37_walk {a0 : Bs} {a1 : Int} {r : Int} (hE : Z37 a0 a1 = some r) (H : Heap) : ACalls Tryz.prog 78 [.d (.str a0), .d (.int .i32 a1)] H fun v h' => v = .a (.d (.int .i64 r)) ∧ h' = H := idxRune_calls Tryz.lay78 hE rfl
def Z33 (a0 : Bs) (a1 : Int) : Option Bool := (Z37 a0 a1).bind fun x3 => some (decide ((0 : Int) ≤ x3))
theorem Z33_walk {a0 : Bs} {a1 : Int}   {r : Bool} (hE : Z33 a0 a1 = some r) (H : Heap)  : ACalls Tryz.prog 62 [.d (.str a0), .d (.int .i32 a1)] H fun v h' => v = .a (.d (.bool r)) ∧ h' = H := by
 unfold Z33 at hE
 refine ACalls.of_wp (fn := Tryz.f62) (c := _) Tryz.tab_ok (fun _ _ => Tryz.call62 _ _) Tryz.func62 rfl (n := 9) rfl (rs := [.tmp 4]) rfl rfl ?_
 refine seqK fun K1 hK1 => ?_
 refine region ?_
 refine s0 assignA rfl ?_
 refine nil ?_
 refine hK1 _ ?_
 clear hK1 K1
 refine seqK fun K2 hK2 => ?_
 refine region ?_
 refine s0 moveA rfl ?_
 refine s0 moveA rfl ?_
 obtain ⟨x3, gx3, hE⟩ := bindO_some hE
 refine s0 (callP rfl rfl (fun H => Z37_walk gx3 H)) rfl ?_
 refine s0 (binI rfl rfl rfl) rfl ?_
 refine s0 assignA rfl ?_
 refine nil ?_
 refine hK2 _ ?_
 clear hK2 K2
 refine AWp.ret ?_
 repeat (first | refine xBlock_ret ?_ | refine xThen_ret ?_)
 obtain rfl := Option.some.inj hE
 refine retQ.retF H rfl ⟨rfl, rfl⟩ ?_
 exact (fun _ _ h => h)
def Z0 (a0 : Bs) (a1 : Bs) : Option Bool := guardO ((decide (((a1.length : Nat) : Int) ≤ ((a0.length : Nat) : Int)))) (cutC a0 none (some ((a1.length : Nat) : Int))) ([] : Bs) fun x5 => some ((decide (((a1.length : Nat) : Int) ≤ ((a0.length : Nat) : Int))) && ((x5 == a1)))
theorem Z0_walk {a0 : Bs} {a1 : Bs}   {r : Bool} (hE : Z0 a0 a1 = some r) (H : Heap)  : ACalls Tryz.prog 82 [.d (.str a0), .d (.str a1)] H fun v h' => v = .a (.d (.bool r)) ∧ h' = H := by
 unfold Z0 at hE
 refine ACalls.of_wp (fn := Tryz.f82) (c := _) Tryz.tab_ok (fun _ _ => Tryz.call82 _ _) Tryz.func82 rfl (n := 18) rfl (rs := [.tmp 4]) rfl rfl ?_
 refine seqK fun K1 hK1 => ?_
 refine region ?_
 refine s0 assignA rfl ?_
 refine nil ?_
 refine hK1 _ ?_
 clear hK1 K1
 refine seqK fun K2 hK2 => ?_
 refine region ?_
 refine s0 moveA rfl ?_
 refine sLenS (TK rfl) rfl rfl rfl rfl fun hL3 => ?_
 refine s0 moveA rfl ?_
 refine sLenS (TK rfl) rfl rfl rfl rfl fun hL4 => ?_
 refine s0 (binI rfl rfl rfl) rfl ?_
 refine s0 moveA rfl ?_
 refine gC rfl rfl (fun hC => moveA) rfl ?_
 refine gC rfl rfl (fun hC => moveA) rfl ?_
 refine gC rfl rfl (fun hC => ungdA (k := 12) rfl (lenS (TK rfl) rfl rfl rfl)) rfl ?_
 obtain ⟨x5, gx5, hE⟩ := guardO_some hE
 refine gC rfl rfl (fun hC => ungdA (k := 11) rfl (ungdA (k := 13) rfl (cutM (l := none) (r := (some ((a1.length : Nat) : Int))) (TK rfl) rfl rfl trivial rfl (by simp) (gx5 hC)))) rfl ?_
 refine gC rfl rfl (fun hC => moveA) rfl ?_
 refine gC rfl rfl (fun hC => ungdA (k := 14) rfl (ungdA (k := 15) rfl (binS rfl rfl rfl))) rfl ?_
 refine s0 (pickAndA rfl rfl rfl) rfl ?_
 refine s0 assignA rfl ?_
 refine nil ?_
 refine hK2 _ ?_
 clear hK2 K2
 refine AWp.ret ?_
 repeat (first | refine xBlock_ret ?_ | refine xThen_ret ?_)
 obtain rfl := Option.some.inj hE
 refine retQ.retF H rfl ⟨rfl, rfl⟩ ?_
 exact (fun _ _ h => h)
def Z34 (a0 : Bs) (a1 : Bs) : Option Bool := (Z0 a0 a1).bind fun x3 => some x3
theorem Z34_walk {a0 : Bs} {a1 : Bs}   {r : Bool} (hE : Z34 a0 a1 = some r) (H : Heap)  : ACalls Tryz.prog 63 [.d (.str a0), .d (.str a1)] H fun v h' => v = .a (.d (.bool r)) ∧ h' = H := by
 unfold Z34 at hE
 refine ACalls.of_wp (fn := Tryz.f63) (c := _) Tryz.tab_ok (fun _ _ => Tryz.call63 _ _) Tryz.func63 rfl (n := 8) rfl (rs := [.tmp 4]) rfl rfl ?_
 refine seqK fun K1 hK1 => ?_
 refine region ?_
 refine s0 assignA rfl ?_
 refine nil ?_
 refine hK1 _ ?_
 clear hK1 K1
 refine seqK fun K2 hK2 => ?_
 refine region ?_
 refine s0 moveA rfl ?_
 refine s0 moveA rfl ?_
 obtain ⟨x3, gx3, hE⟩ := bindO_some hE
 refine s0 (callP rfl rfl (fun H => Z0_walk gx3 H)) rfl ?_
 refine s0 assignA rfl ?_
 refine nil ?_
 refine hK2 _ ?_
 clear hK2 K2
 refine AWp.ret ?_
 repeat (first | refine xBlock_ret ?_ | refine xThen_ret ?_)
 obtain rfl := Option.some.inj hE
 refine retQ.retF H rfl ⟨rfl, rfl⟩ ?_
 exact (fun _ _ h => h)
def Z48_j2  (s1_3 : Int) : Option Int := some s1_3
def Z48_l5 (a0 : Bs) (a2 : (Int → Option Bool))  : Nat → Int → Option Int
 | 0, _ => none
 | n5 + 1, s1_6 => guardO ((decide (s1_6 < ((a0.length : Nat) : Int)))) (idxC a0 s1_6) (0 : UInt8) fun x10 => guardO ((decide (s1_6 < ((a0.length : Nat) : Int)))) (a2 (IntKind.wrap .i32 ((x10.toNat : Nat) : Int))) false fun x11 => bif ((decide (s1_6 < ((a0.length : Nat) : Int))) && x11) then ((addC s1_6 (1 : Int)).bind fun x13 => (Z48_l5 a0 a2 n5) x13) else (Z48_j2   s1_6)
def Z48 (a0 : Bs) (a1 : Int) (a2 : (Int → Option Bool)) : Option Int := Z48_l5 a0 a2 F0 a1
theorem Z48_walk {a0 : Bs} {a1 : Int} {a2 : (Int → Option Bool)} {cl2 : List D} {k2 : Nat} {r : Int} (hE : Z48 a0 a1 a2 = some r) (H : Heap) (hf2 : ∀ x0 r, a2 x0 = some r → ∀ H, ACalls Tryz.prog k2 ([.d (.int .i32 x0)] ++ cl2.map A.d) H fun v h' => v = .a (.d (.bool r)) ∧ h' = H) : ACalls Tryz.prog 64 [.d (.str a0), .d (.int .i64 a1), .d (.func k2 cl2)] H fun v h' => v = .a (.d (.int .i64 r)) ∧ h' = H := by
 unfold Z48 at hE
 refine ACalls.of_wp (fn := Tryz.f64) (c := _) Tryz.tab_ok (fun _ _ => Tryz.call64 _ _) Tryz.func64 rfl (n := 22) rfl (rs := [.tmp 6]) rfl rfl ?_
 refine seqK fun K1 hK1 => ?_
 refine region ?_
 refine s0 assignA rfl ?_
 refine nil ?_
 refine hK1 _ ?_
 clear hK1 K1
 refine seqJH KeepsT.nil (fun (z : Int) => [(1, .a (.d (.int .i64 z)))]) (fun z => H) (fun z => Z48_j2 z = some r) ?_ ?_
 ·intro K2 hK2
  refine block ?_
  refine loopH (KeepsT.A (k := 0) (KeepsT.A (k := 2) KeepsT.nil)) (fun (z : Nat × Int) => [(1, .a (.d (.int .i64 z.2)))]) (fun z => H) (fun z => z.1) (fun z => Z48_l5 a0 a2 z.1 z.2 = some r) (F0, a1) hE Weak.toA ?_
  rintro ⟨n5, s1_6⟩ hE K5 hK5
  try dsimp only at hE
  cases n5 with
  | zero => cases hE
  | succ n5 =>
    rw [Z48_l5] at hE
    refine seqK fun K7 hK7 => ?_
    refine seqK fun K8 hK8 => ?_
    refine region ?_
    refine s0 moveA rfl ?_
    refine s0 moveA rfl ?_
    refine sLenS (TK rfl) rfl rfl rfl rfl fun hL9 => ?_
    refine s0 (binI rfl rfl rfl) rfl ?_
    refine s0 moveA rfl ?_
    refine gC rfl rfl (fun hC => moveA) rfl ?_
    refine gC rfl rfl (fun hC => moveA) rfl ?_
    refine gC rfl rfl (fun hC => moveA) rfl ?_
    obtain ⟨x10, gx10, hE⟩ := guardO_some hE
    refine gC rfl rfl (fun hC => ungdA (k := 13) rfl (ungdA (k := 14) rfl (idxS (TK rfl) rfl rfl rfl (gx10 hC)))) rfl ?_
    refine gC rfl rfl (fun hC => ungdA (k := 15) rfl (convI (TK rfl) (TK rfl) rfl rfl)) rfl ?_
    obtain ⟨x11, gx11, hE⟩ := guardO_some hE
    refine gC rfl rfl (fun hC => ungdA (k := 12) rfl (ungdA (k := 16) rfl (callP rfl rfl (hf2 _ _ (gx11 hC))))) rfl ?_
    refine s0 (pickAndA rfl rfl rfl) rfl ?_
    refine nil ?_
    refine hK8 _ ?_
    clear hK8 K8
    refine condE hE rfl (fun hc12 hE => ?_) (fun hc12 hE => ?_)
    ·refine AWp.skip ?_
     refine hK7 _ ?_
     clear hK7 K7
     refine block ?_
     refine region ?_
     refine s0 moveA rfl ?_
     obtain ⟨x13, gx13, hE⟩ := bindO_some hE
     refine s0 (addM rfl rfl gx13) rfl ?_
     refine s0 assignA rfl ?_
     refine nil ?_
     exact hK5 _ (n5, x13) Weak.toA hE (Nat.lt_succ_self _)
    refine AWp.exit ?_
    exact hK2 _ s1_6 Weak.toA hE
 rintro s1_3 hE
 try dsimp only at hE
 unfold Z48_j2 at hE
 refine seqK fun K4 hK4 => ?_
 refine region ?_
 refine s0 moveA rfl ?_
 refine s0 assignA rfl ?_
 refine nil ?_
 refine hK4 _ ?_
 clear hK4 K4
 refine AWp.ret ?_
 repeat (first | refine xBlock_ret ?_ | refine xThen_ret ?_)
 obtain rfl := Option.some.inj hE
 refine retQ.retF H rfl ⟨rfl, rfl⟩ ?_
 exact (fun _ _ h => h)
def Z44 (a0 : Int) : Option Bool := some (((((decide ((97 : Int) ≤ a0)) && (decide (a0 ≤ (122 : Int)))) || ((decide ((65 : Int) ≤ a0)) && (decide (a0 ≤ (90 : Int))))) || ((decide ((48 : Int) ≤ a0)) && (decide (a0 ≤ (57 : Int))))) || (decide (a0 = (95 : Int))))
theorem Z44_walk {a0 : Int}   {r : Bool} (hE : Z44 a0 = some r) (H : Heap)  : ACalls Tryz.prog 65 [.d (.int .i32 a0)] H fun v h' => v = .a (.d (.bool r)) ∧ h' = H := by
 unfold Z44 at hE
 refine ACalls.of_wp (fn := Tryz.f65) (c := _) Tryz.tab_ok (fun _ _ => Tryz.call65 _ _) Tryz.func65 rfl (n := 29) rfl (rs := [.tmp 2]) rfl rfl ?_
 refine seqK fun K1 hK1 => ?_
 refine region ?_
 refine s0 assignA rfl ?_
 refine nil ?_
 refine hK1 _ ?_
 clear hK1 K1
 refine seqK fun K2 hK2 => ?_
 refine region ?_
 refine s0 moveA rfl ?_
 refine s0 (binI rfl rfl rfl) rfl ?_
 refine s0 moveA rfl ?_
 refine gC rfl rfl (fun hC => moveA) rfl ?_
 refine gC rfl rfl (fun hC => ungdA (k := 6) rfl (binI rfl rfl rfl)) rfl ?_
 refine s0 (pickAndA rfl rfl rfl) rfl ?_
 refine s0 moveA rfl ?_
 refine gC rfl rfl (fun hC => moveA) rfl ?_
 refine gC rfl rfl (fun hC => ungdA (k := 10) rfl (binI rfl rfl rfl)) rfl ?_
 refine gC rfl rfl (fun hC => ungdA (k := 11) rfl moveA) rfl ?_
 refine gC rfl rfl (fun hC => moveA) rfl ?_
 refine gC rfl rfl (fun hC => ungdA (k := 13) rfl (binI rfl rfl rfl)) rfl ?_
 refine gC rfl rfl (fun hC => ungdA (k := 12) rfl (pickAndA rfl rfl rfl)) rfl ?_
 refine s0 (pickOrA rfl rfl rfl) rfl ?_
 refine s0 moveA rfl ?_
 refine gC rfl rfl (fun hC => moveA) rfl ?_
 refine gC rfl rfl (fun hC => ungdA (k := 18) rfl (binI rfl rfl rfl)) rfl ?_
 refine gC rfl rfl (fun hC => ungdA (k := 19) rfl moveA) rfl ?_
 refine gC rfl rfl (fun hC => moveA) rfl ?_
 refine gC rfl rfl (fun hC => ungdA (k := 21) rfl (binI rfl rfl rfl)) rfl ?_
 refine gC rfl rfl (fun hC => ungdA (k := 20) rfl (pickAndA rfl rfl rfl)) rfl ?_
 refine s0 (pickOrA rfl rfl rfl) rfl ?_
 refine s0 moveA rfl ?_
 refine gC rfl rfl (fun hC => moveA) rfl ?_
 refine gC rfl rfl (fun hC => ungdA (k := 26) rfl (binI rfl rfl rfl)) rfl ?_
 refine s0 (pickOrA rfl rfl rfl) rfl ?_
 refine s0 assignA rfl ?_
 refine nil ?_
 refine hK2 _ ?_
 clear hK2 K2
 refine AWp.ret ?_
 repeat (first | refine xBlock_ret ?_ | refine xThen_ret ?_)
 obtain rfl := Option.some.inj hE
 refine retQ.retF H rfl ⟨rfl, rfl⟩ ?_
 exact (fun _ _ h => h)
def Z1 (a0 : Bs) (a1 : Bs) : Option Bs := (Z0 a0 a1).bind fun x4 => bif x4 then ((cutC a0 (some ((a1.length : Nat) : Int)) none).bind fun x8 => some x8) else (some a0)
theorem Z1_walk {a0 : Bs} {a1 : Bs}   {r : Bs} (hE : Z1 a0 a1 = some r) (H : Heap)  : ACalls Tryz.prog 93 [.d (.str a0), .d (.str a1)] H fun v h' => v = .a (.d (.str r)) ∧ h' = H := by
 unfold Z1 at hE
 refine ACalls.of_wp (fn := Tryz.f93) (c := _) Tryz.tab_ok (fun _ _ => Tryz.call93 _ _) Tryz.func93 rfl (n := 13) rfl (rs := [.tmp 4]) rfl rfl ?_
 refine seqK fun K1 hK1 => ?_
 refine region ?_
 refine s0 assignA rfl ?_
 refine nil ?_
 refine hK1 _ ?_
 clear hK1 K1
 refine seqK fun K2 hK2 => ?_
 refine seqK fun K3 hK3 => ?_
 refine region ?_
 refine s0 moveA rfl ?_
 refine s0 moveA rfl ?_
 obtain ⟨x4, gx4, hE⟩ := bindO_some hE
 refine s0 (callP rfl rfl (fun H => Z0_walk gx4 H)) rfl ?_
 refine nil ?_
 refine hK3 _ ?_
 clear hK3 K3
 refine condE hE rfl (fun hc5 hE => ?_) (fun hc5 hE => ?_)
 ·refine seqK fun K6 hK6 => ?_
  refine region ?_
  refine s0 moveA rfl ?_
  refine s0 moveA rfl ?_
  refine sLenS (TK rfl) rfl rfl rfl rfl fun hL7 => ?_
  obtain ⟨x8, gx8, hE⟩ := bindO_some hE
  refine s0 (cutM (l := (some ((a1.length : Nat) : Int))) (r := none) (TK rfl) rfl rfl rfl trivial (by simp) gx8) rfl ?_
  refine s0 assignA rfl ?_
  refine nil ?_
  refine hK6 _ ?_
  clear hK6 K6
  refine AWp.ret ?_
  repeat (first | refine xBlock_ret ?_ | refine xThen_ret ?_)
  obtain rfl := Option.some.inj hE
  refine retQ.retF H rfl ⟨rfl, rfl⟩ ?_
  exact (fun _ _ h => h)
 refine AWp.skip ?_
 refine hK2 _ ?_
 clear hK2 K2
 refine seqK fun K9 hK9 => ?_
 refine region ?_
 refine s0 moveA rfl ?_
 refine s0 assignA rfl ?_
 refine nil ?_
 refine hK9 _ ?_
 clear hK9 K9
 refine AWp.ret ?_
 repeat (first | refine xBlock_ret ?_ | refine xThen_ret ?_)
 obtain rfl := Option.some.inj hE
 refine retQ.retF H rfl ⟨rfl, rfl⟩ ?_
 exact (fun _ _ h => h)
def Z38 (a0 : Bs) (a1 : Bs) : Option Bs := (Z1 a0 a1).bind fun x3 => some x3
theorem Z38_walk {a0 : Bs} {a1 : Bs}   {r : Bs} (hE : Z38 a0 a1 = some r) (H : Heap)  : ACalls Tryz.prog 83 [.d (.str a0), .d (.str a1)] H fun v h' => v = .a (.d (.str r)) ∧ h' = H := by
 unfold Z38 at hE
 refine ACalls.of_wp (fn := Tryz.f83) (c := _) Tryz.tab_ok (fun _ _ => Tryz.call83 _ _) Tryz.func83 rfl (n := 8) rfl (rs := [.tmp 4]) rfl rfl ?_
 refine seqK fun K1 hK1 => ?_
 refine region ?_
 refine s0 assignA rfl ?_
 refine nil ?_
 refine hK1 _ ?_
 clear hK1 K1
 refine seqK fun K2 hK2 => ?_
 refine region ?_
 refine s0 moveA rfl ?_
 refine s0 moveA rfl ?_
 obtain ⟨x3, gx3, hE⟩ := bindO_some hE
 refine s0 (callP rfl rfl (fun H => Z1_walk gx3 H)) rfl ?_
 refine s0 assignA rfl ?_
 refine nil ?_
 refine hK2 _ ?_
 clear hK2 K2
 refine AWp.ret ?_
 repeat (first | refine xBlock_ret ?_ | refine xThen_ret ?_)
 obtain rfl := Option.some.inj hE
 refine retQ.retF H rfl ⟨rfl, rfl⟩ ?_
 exact (fun _ _ h => h)
def Z29 (a0 : Bs) : Option (Int × Unit) := none
theorem Z29_walk {a0 : Bs}   {r : (Int × Unit)} (hE : Z29 a0 = some r) (H : Heap)  : ACalls Tryz.prog 84 [.d (.str a0)] H fun v h' => v = .tup [.d (.int .i64 r.1), .d (.nilIface)] ∧ h' = H := by cases hE
def Z40_j9 (a0 : Bs)   : Option (Int × Int) := (Z29 a0).bind fun x11 => none
def Z40_l16 (a0 : Bs) (x3 : Bs)  : Nat → Nat → Option (Int × Int)
 | 0, _ => none
 | n16 + 1, s29_17 => bif (decide (((s29_17 : Nat) : Int) < ((x3.length : Nat) : Int))) then ((x3[s29_17]?).bind fun x24 => guardO (!(decide (((x24.toNat : Nat) : Int) < (48 : Int)))) (x3[s29_17]?) (0 : UInt8) fun x25 => bif ((decide (((x24.toNat : Nat) : Int) < (48 : Int))) || (decide ((57 : Int) < ((x25.toNat : Nat) : Int)))) then (some ((0 : Int), (3 : Int))) else ((Z40_l16 a0 x3 n16) (s29_17 + 1))) else (Z40_j9 a0  )
def Z40 (a0 : Bs) : Option (Int × Int) := (Z38 a0 ([45] : Bs)).bind fun x3 => guardO (!((x3 == ([] : Bs)))) (x3[0]?) (0 : UInt8) fun x6 => bif (((x3 == ([] : Bs))) || ((decide (((x6.toNat : Nat) : Int) = (48 : Int))) && ((decide ((1 : Int) < ((x3.length : Nat) : Int))) || (decide ((1 : Int) < ((a0.length : Nat) : Int)))))) then (some ((0 : Int), (3 : Int))) else (Z40_l16 a0 x3 (x3.length + 1) 0)
theorem Z40_walk {a0 : Bs}   {r : (Int × Int)} (hE : Z40 a0 = some r) (H : Heap)  : ACalls Tryz.prog 66 [.d (.str a0)] H fun v h' => v = .tup [.d (.int .i64 r.1), .d (.int .i64 r.2)] ∧ h' = H := by
 unfold Z40 at hE
 refine ACalls.of_wp (fn := Tryz.f66) (c := _) Tryz.tab_ok (fun _ _ => Tryz.call66 _ _) Tryz.func66 rfl (n := 51) rfl (rs := [.tmp 2, .tmp 3]) rfl rfl ?_
 refine seqK fun K1 hK1 => ?_
 refine region ?_
 refine s0 assignA rfl ?_
 refine s0 assignA rfl ?_
 refine nil ?_
 refine hK1 _ ?_
 clear hK1 K1
 refine seqK fun K2 hK2 => ?_
 refine region ?_
 refine s0 moveA rfl ?_
 obtain ⟨x3, gx3, hE⟩ := bindO_some hE
 refine s0 (callP rfl rfl (fun H => Z38_walk gx3 H)) rfl ?_
 refine s0 assignA rfl ?_
 refine nil ?_
 refine hK2 _ ?_
 clear hK2 K2
 refine seqK fun K4 hK4 => ?_
 refine seqK fun K5 hK5 => ?_
 refine region ?_
 refine s0 moveA rfl ?_
 refine s0 (binS rfl rfl rfl) rfl ?_
 refine s0 moveA rfl ?_
 refine gC rfl rfl (fun hC => moveA) rfl ?_
 obtain ⟨x6, gx6, hE⟩ := guardO_some hE
 refine gC rfl rfl (fun hC => ungdA (k := 13) rfl (idxSn (n := 0) (TK rfl) rfl rfl rfl (gx6 hC))) rfl ?_
 refine gC rfl rfl (fun hC => ungdA (k := 14) rfl (binI rfl rfl rfl)) rfl ?_
 refine gC rfl rfl (fun hC => ungdA (k := 15) rfl moveA) rfl ?_
 refine gC rfl rfl (fun hC => moveA) rfl ?_
 refine gC rfl rfl (fun hC => ungdA (k := 17) rfl (lenS (TK rfl) rfl rfl rfl)) rfl ?_
 refine gC rfl rfl (fun hC => ungdA (k := 18) rfl (binI rfl rfl rfl)) rfl ?_
 refine gC rfl rfl (fun hC => ungdA (k := 19) rfl moveA) rfl ?_
 refine gC rfl rfl (fun hC => moveA) rfl ?_
 refine gC rfl rfl (fun hC => ungdA (k := 21) rfl (lenS (TK rfl) rfl rfl rfl)) rfl ?_
 refine gC rfl rfl (fun hC => ungdA (k := 22) rfl (binI rfl rfl rfl)) rfl ?_
 refine gC rfl rfl (fun hC => ungdA (k := 20) rfl (pickOrA rfl rfl rfl)) rfl ?_
 refine gC rfl rfl (fun hC => ungdA (k := 16) rfl (pickAndA rfl rfl rfl)) rfl ?_
 refine s0 (pickOrA rfl rfl rfl) rfl ?_
 refine nil ?_
 refine hK5 _ ?_
 clear hK5 K5
 refine condE hE rfl (fun hc7 hE => ?_) (fun hc7 hE => ?_)
 ·refine seqK fun K8 hK8 => ?_
  refine region ?_
  refine s0 assignA rfl ?_
  refine s0 assignA rfl ?_
  refine nil ?_
  refine hK8 _ ?_
  clear hK8 K8
  refine AWp.ret ?_
  repeat (first | refine xBlock_ret ?_ | refine xThen_ret ?_)
  obtain rfl := Option.some.inj hE
  refine retQ.retF H rfl ⟨rfl, rfl⟩ ?_
  exact (fun _ _ h => h)
 refine AWp.skip ?_
 refine hK4 _ ?_
 clear hK4 K4
 refine seqJH (KeepsT.A (k := 0) KeepsT.nil) (fun (z : Unit) => []) (fun z => H) (fun z => Z40_j9 a0  = some r) ?_ ?_
 ·intro K9 hK9
  refine seqK fun K14 hK14 => ?_
  refine region ?_
  refine s0 moveA rfl ?_
  refine sLenS (TK rfl) rfl rfl rfl rfl fun hL15 => ?_
  refine s0 moveA rfl ?_
  refine nil ?_
  refine hK14 _ ?_
  clear hK14 K14
  refine block ?_
  refine loopH (KeepsT.A (k := 0) (KeepsT.A (k := 4) (KeepsT.A (k := 28) KeepsT.nil))) (fun (z : Nat × Nat) => [(29, .a (.d (.int .i64 ((z.2 : Nat) : Int))))]) (fun z => H) (fun z => z.1) (fun z => Z40_l16 a0 x3 z.1 z.2 = some r) ((x3.length + 1), 0) hE Weak.toA ?_
  rintro ⟨n16, s29_17⟩ hE K16 hK16
  try dsimp only at hE
  cases n16 with
  | zero => cases hE
  | succ n16 =>
    rw [Z40_l16] at hE
    refine seqK fun K18 hK18 => ?_
    refine region ?_
    refine s0 (binI rfl rfl rfl) rfl ?_
    refine nil ?_
    refine hK18 _ ?_
    clear hK18 K18
    refine seqK fun K19 hK19 => ?_
    refine condE hE rfl (fun hc20 hE => ?_) (fun hc20 hE => ?_)
    ·try dsimp only at hc20
     have hf20 := of_decide_eq_true hc20
     refine AWp.skip ?_
     refine hK19 _ ?_
     clear hK19 K19
     refine seqK fun K21 hK21 => ?_
     refine block ?_
     refine seqK fun K22 hK22 => ?_
     refine region ?_
     refine s0 moveA rfl ?_
     refine s0 assignA rfl ?_
     refine nil ?_
     refine hK22 _ ?_
     clear hK22 K22
     refine seqK fun K23 hK23 => ?_
     refine region ?_
     refine s0 moveA rfl ?_
     refine s0 moveA rfl ?_
     obtain ⟨x24, gx24, hE⟩ := bindO_some hE
     refine s0 (idxSn (n := s29_17) (TK rfl) rfl rfl rfl gx24) rfl ?_
     refine s0 (binI rfl rfl rfl) rfl ?_
     refine s0 moveA rfl ?_
     refine gC rfl rfl (fun hC => moveA) rfl ?_
     refine gC rfl rfl (fun hC => moveA) rfl ?_
     obtain ⟨x25, gx25, hE⟩ := guardO_some hE
     refine gC rfl rfl (fun hC => ungdA (k := 37) rfl (ungdA (k := 38) rfl (idxSn (n := s29_17) (TK rfl) rfl rfl rfl (gx25 hC)))) rfl ?_
     refine gC rfl rfl (fun hC => ungdA (k := 39) rfl (binI rfl rfl rfl)) rfl ?_
     refine s0 (pickOrA rfl rfl rfl) rfl ?_
     refine nil ?_
     refine hK23 _ ?_
     clear hK23 K23
     refine condE hE rfl (fun hc26 hE => ?_) (fun hc26 hE => ?_)
     ·refine seqK fun K27 hK27 => ?_
      refine region ?_
      refine s0 assignA rfl ?_
      refine s0 assignA rfl ?_
      refine nil ?_
      refine hK27 _ ?_
      clear hK27 K27
      refine AWp.ret ?_
      repeat (first | refine xBlock_ret ?_ | refine xThen_ret ?_)
      obtain rfl := Option.some.inj hE
      refine retQ.retF H rfl ⟨rfl, rfl⟩ ?_
      exact (fun _ _ h => h)
     refine AWp.skip ?_
     refine hK21 _ ?_
     clear hK21 K21
     refine region ?_
     refine s0 (addIA rfl rfl) rfl ?_
     refine s0 moveA rfl ?_
     refine nil ?_
     exact hK16 _ (n16, (s29_17 + 1)) Weak.toA hE (Nat.lt_succ_self _)
    refine AWp.exit ?_
    exact hK9 _ () Weak.toA hE
 rintro _ hE
 try dsimp only at hE
 unfold Z40_j9 at hE
 refine seqK fun K10 hK10 => ?_
 refine region ?_
 refine s0 moveA rfl ?_
 obtain ⟨x11, gx11, hE⟩ := bindO_some hE
 refine s0 (callP rfl rfl (fun H => Z29_walk gx11 H)) rfl ?_
 refine s0 moveA rfl ?_
 refine s0 (extract rfl rfl) rfl ?_
 refine s0 (extract rfl rfl) rfl ?_
 refine s0 assignA rfl ?_
 refine s0 assignA rfl ?_
 refine nil ?_
 refine hK10 _ ?_
 clear hK10 K10
 refine seqK fun K12 hK12 => ?_
 refine seqK fun K13 hK13 => ?_
 refine region ?_
 refine s0 moveA rfl ?_
 cases hE
def Z45 (a0 : Bs) (a1 : Int) : Option Int := none
theorem Z45_walk {a0 : Bs} {a1 : Int}   {r : Int} (hE : Z45 a0 a1 = some r) (H : Heap)  : ACalls Tryz.prog 67 [.d (.str a0), .d (.int .i64 a1)] H fun v h' => v = .a (.d (.int .i64 r)) ∧ h' = H := by
 unfold Z45 at hE
 refine ACalls.of_wp (fn := Tryz.f67) (c := _) Tryz.tab_ok (fun _ _ => Tryz.call67 _ _) Tryz.func67 rfl (n := 18) rfl (rs := [.tmp 4]) rfl rfl ?_
 refine seqK fun K1 hK1 => ?_
 refine region ?_
 refine s0 assignA rfl ?_
 refine nil ?_
 refine hK1 _ ?_
 clear hK1 K1
 refine seqK fun K2 hK2 => ?_
 refine region ?_
 cases hE
def Tryz.lay59_ren : Go.Shelf.Ren := ⟨fun | 240 => 59 | 276 => 77 | n => n, fun | 0 => 0 | 4 => 4 | 9 => 9 | 20 => 20 | 70 => 54 | 72 => 57 | 164 => 83 | 37 => 55 | n => n, fun | n => n⟩
theorem Tryz.lay59 : Go.Proofs.Lays.n240 Tryz.prog Tryz.lay59_ren := {
 mixed := by kernel_rfl
 f240 := Tryz.func59.trans (congrArg some (by kernel_rfl))
 f276 := Tryz.func77.trans (congrArg some (by kernel_rfl))
 t0 := Tryz.underlying0
 a0 := Tryz.isAgg0
 z0 := Tryz.sizeOf0
 v0 := Tryz.zeroValue0
 t4 := Tryz.underlying4
 a4 := Tryz.isAgg4
 z4 := Tryz.sizeOf4
 v4 := Tryz.zeroValue4
 t9 := Tryz.underlying9
 a9 := Tryz.isAgg9
 z9 := Tryz.sizeOf9
 v9 := Tryz.zeroValue9
 t20 := Tryz.underlying20
 a20 := Tryz.isAgg20
 z20 := Tryz.sizeOf20
 v20 := Tryz.zeroValue20
 t70 := Tryz.underlying54
 a70 := Tryz.isAgg54
 z70 := Tryz.sizeOf54
 v70 := Tryz.zeroValue54
 t72 := Tryz.underlying57
 a72 := Tryz.isAgg57
 z72 := Tryz.sizeOf57
 v72 := Tryz.zeroValue57
 t164 := Tryz.underlying83
 a164 := Tryz.isAgg83
 z164 := Tryz.sizeOf83
 v164 := Tryz.zeroValue83 }
def Z32 (a0 : Strings_Builder) : Option Strings_Builder := some ⟨true, a0.Fbuf⟩
theorem Z32_walk {a0 : Strings_Builder} {c0 : Nat} {c0_1 : Nat} {r : Strings_Builder} (hE : Z32 a0 = some r) (H : Heap) (hc0 : H c0 = some (.tcells 57 (Strings_Builder.cg c0 (some c0_1) a0))) (ht0_1 : H c0_1 = some (.tok 1 a0.Fbuf.l.length (some 5))) : ACalls Tryz.prog 59 [.d (.ptr c0 0)] H fun v h' => v = .tup [] ∧ h' = ((H.set c0_1 (some (.tok 1 r.Fbuf.l.length (some 5)))).set c0 (some (.tcells 57 (Strings_Builder.cg c0 (some c0_1) r)))) := by
 obtain rfl := Option.some.inj hE
 refine (bld_check (T := 57) Tryz.lay59 ⟨by kernel_rfl, by kernel_rfl⟩ rfl rfl hc0).mono fun v h' e => ⟨e.1, ?_⟩
 rw [e.2]
 show _ = Heap.set (Heap.set H c0_1 _) _ _
 rw [Heap.set_self H c0_1 _ ht0_1]
def Z31 (a0 : Strings_Builder) (a1 : Int) : Option (Unit × Strings_Builder) := (Z32 a0).bind fun x3 => (appC 1 x3.Fbuf (⟨false, [a1]⟩ : Sl Int)).bind fun x5 => some ((), (Strings_Builder.mk x3.Faddr x5))
theorem Z31_walk {a0 : Strings_Builder} {a1 : Int}  {c0 : Nat} {c0_1 : Nat} {r : (Unit × Strings_Builder)} (hE : Z31 a0 a1 = some r) (H : Heap) (hc0 : H c0 = some (.tcells 57 (Strings_Builder.cg c0 (some c0_1) a0))) (ht0_1 : H c0_1 = some (.tok 1 a0.Fbuf.l.length (some 5))) : ACalls Tryz.prog 48 [.d (.ptr c0 0), .d (.int .u8 a1)] H fun v h' => v = .a (.d (.nilIface)) ∧ h' = ((H.set c0_1 (some (.tok 1 r.2.Fbuf.l.length (some 5)))).set c0 (some (.tcells 57 (Strings_Builder.cg c0 (some c0_1) r.2)))) := by
 unfold Z31 at hE
 refine ACalls.of_wp (fn := Tryz.f48) (c := _) Tryz.tab_ok (fun _ _ => Tryz.call48 _ _) Tryz.func48 rfl (n := 17) rfl (rs := [.tmp 4]) rfl rfl ?_
 have ne_c0_c0_1 : c0 ≠ c0_1 := fun e_ => by subst e_; simp_all
 refine AWp.heqA (h' := ((H.set c0_1 (some (.tok 1 a0.Fbuf.l.length (some 5)))).set c0 (some (.tcells 57 (Strings_Builder.cg c0 (some c0_1) a0))))) (by funext n_; simp only [Heap.set]; (repeat' split) <;> simp_all) ?_
 refine seqK fun K1 hK1 => ?_
 refine region ?_
 refine s0 assignA rfl ?_
 refine nil ?_
 refine hK1 _ ?_
 clear hK1 K1
 refine seqK fun K2 hK2 => ?_
 refine region ?_
 refine s0 moveA rfl ?_
 obtain ⟨x3, gx3, hE⟩ := bindO_some hE
 refine sH (callH rfl rfl (Z32_walk gx3 _ hpG hpG)) rfl ?_
 refine AOps.heq (h' := ((H.set c0_1 (some (.tok 1 x3.Fbuf.l.length (some 5)))).set c0 (some (.tcells 57 (Strings_Builder.cg c0 (some c0_1) x3))))) (by first | rfl | (rw [Heap.set_set]; rfl) | (funext n_; simp only [Heap.set]; (repeat' split) <;> first | rfl | (exfalso; simp_all; done) | (simp_all; done))) ?_
 refine nil ?_
 refine hK2 _ ?_
 clear hK2 K2
 refine seqK fun K4 hK4 => ?_
 refine region ?_
 refine s0 moveA rfl ?_
 refine s0 moveA rfl ?_
 refine s0 (nilP rfl) rfl ?_
 refine s0 (fieldP (TK rfl) rfl rfl (TK rfl) rfl rfl) rfl ?_
 refine s0 (loadPT (TK rfl) rfl rfl hpG rfl) rfl ?_
 refine s0 moveA rfl ?_
 refine s0 (buildSlice (TK rfl) rfl (TK rfl) rfl rfl rfl rfl rfl rfl) rfl ?_
 obtain ⟨x5, gx5, hE⟩ := bindO_some hE
 refine sH (appMT (TK rfl) rfl (TK rfl) (TK rfl) ⟨_, rfl⟩ rfl rfl (by decide) rfl rfl rfl rfl hpG rfl rfl gx5) rfl ?_
 refine AOps.heq (h' := ((H.set c0_1 (some (.tok 1 x5.l.length (some 5)))).set c0 (some (.tcells 57 (Strings_Builder.cg c0 (some c0_1) x3))))) (by first | rfl | (rw [Heap.set_set]; rfl) | (funext n_; simp only [Heap.set]; (repeat' split) <;> first | rfl | (exfalso; simp_all; done) | (simp_all; done))) ?_
 refine s0 (nilP rfl) rfl ?_
 refine s0 (fieldP (TK rfl) rfl rfl (TK rfl) rfl rfl) rfl ?_
 refine sHn (storePT (TK rfl) rfl rfl hpG rfl (by repeat (first | exact SetAt.zero | apply SetAt.succ))) rfl rfl ?_
 refine AOps.heq (h' := ((H.set c0_1 (some (.tok 1 x5.l.length (some 5)))).set c0 (some (.tcells 57 (Strings_Builder.cg c0 (some c0_1) (Strings_Builder.mk x3.Faddr x5)))))) (by first | rfl | (rw [Heap.set_set]; rfl) | (funext n_; simp only [Heap.set]; (repeat' split) <;> first | rfl | (exfalso; simp_all; done) | (simp_all; done))) ?_
 refine nil ?_
 refine hK4 _ ?_
 clear hK4 K4
 refine seqK fun K6 hK6 => ?_
 refine region ?_
 refine s0 assignA rfl ?_
 refine nil ?_
 refine hK6 _ ?_
 clear hK6 K6
 refine AWp.ret ?_
 repeat (first | refine xBlock_ret ?_ | refine xThen_ret ?_)
 obtain rfl := Option.some.inj hE
 refine retQ.retF ((H.set c0_1 (some (.tok 1 x5.l.length (some 5)))).set c0 (some (.tcells 57 (Strings_Builder.cg c0 (some c0_1) (Strings_Builder.mk x3.Faddr x5))))) rfl ⟨rfl, rfl⟩ ?_
 exact (fun _ _ h => h)
def Tryz.lay49_ren : Go.Shelf.Ren := ⟨fun | 169 => 49 | n => n, fun | 70 => 54 | 9 => 9 | 0 => 0 | 72 => 57 | 37 => 55 | 127 => 72 | 3 => 3 | 5 => 5 | n => n, fun | n => n⟩
theorem Tryz.lay49 : Go.Proofs.Lays.n169 Tryz.prog Tryz.lay49_ren := {
 mixed := by kernel_rfl
 f169 := Tryz.func49.trans (congrArg some (by kernel_rfl))
 t0 := Tryz.underlying0
 a0 := Tryz.isAgg0
 z0 := Tryz.sizeOf0
 v0 := Tryz.zeroValue0
 t3 := Tryz.underlying3
 a3 := Tryz.isAgg3
 z3 := Tryz.sizeOf3
 v3 := Tryz.zeroValue3
 t9 := Tryz.underlying9
 a9 := Tryz.isAgg9
 z9 := Tryz.sizeOf9
 v9 := Tryz.zeroValue9
 t37 := Tryz.underlying55
 a37 := Tryz.isAgg55
 z37 := Tryz.sizeOf55
 v37 := Tryz.zeroValue55
 t70 := Tryz.underlying54
 a70 := Tryz.isAgg54
 z70 := Tryz.sizeOf54
 v70 := Tryz.zeroValue54
 t72 := Tryz.underlying57
 a72 := Tryz.isAgg57
 z72 := Tryz.sizeOf57
 v72 := Tryz.zeroValue57
 t127 := Tryz.underlying72
 a127 := Tryz.isAgg72
 z127 := Tryz.sizeOf72
 v127 := Tryz.zeroValue72 }
theorem Tryz.extra49 : Builder.Extra Tryz.prog Tryz.lay49_ren where
 sizeBuilder := by kernel_rfl
 liesBuilder := by kernel_rfl
 t5 := Tryz.underlying5
 a5 := Tryz.isAgg5
 z5 := Tryz.sizeOf5
 v5 := Tryz.zeroValue5
 infoByte := by kernel_rfl
 cellsByte := by kernel_rfl
 sizeByte := by kernel_rfl
 neB5 := by decide
def Z30 (a0 : Strings_Builder) : Option Bs := bldStr a0
theorem Z30_walk {a0 : Strings_Builder} {c0 t0 : Nat} {r : Bs} (hE : Z30 a0 = some r) (H : Heap) (hc0 : H c0 = some (.tcells 57 (Strings_Builder.cg c0 (some t0) a0))) (ht0 : H t0 = some (.tok 1 a0.Fbuf.l.length (some 5))) : ACalls Tryz.prog 49 [.d (.ptr c0 0)] H fun v h' => v = .a (.d (.str r)) ∧ h' = (H.set t0 none).set c0 none := bld_string Tryz.lay49 Tryz.extra49 rfl rfl rfl hE hc0 ht0
end Go.Proofs

namespace Go.Proofs
open Go Go.Ab
open AOps Cert AWp
variable {lou : Lou}
def Z42_j2   : Option (Int × Bool) := some ((0 : Int), false)
def Z42_j5 (a0 : Int)  (s5_6 : Bool) : Option (Int × Bool) := bif s5_6 then (some (a0, true)) else (bif (decide (a0 = (98 : Int))) then (some ((8 : Int), true)) else (bif (decide (a0 = (102 : Int))) then (some ((12 : Int), true)) else (bif (decide (a0 = (110 : Int))) then (some ((10 : Int), true)) else (bif (decide (a0 = (114 : Int))) then (some ((13 : Int), true)) else (bif (decide (a0 = (116 : Int))) then (some ((9 : Int), true)) else (Z42_j2   ))))))
def Z42 (a0 : Int) : Option (Int × Bool) := bif (decide (a0 = (34 : Int))) then (Z42_j5 a0  (decide (a0 = (34 : Int)))) else (bif (decide (a0 = (92 : Int))) then (Z42_j5 a0  (decide (a0 = (92 : Int)))) else (Z42_j5 a0  (decide (a0 = (47 : Int)))))
theorem Z42_walk {a0 : Int}   {r : (Int × Bool)} (hE : Z42 a0 = some r) (H : Heap)  : ACalls Tryz.prog 86 [.d (.int .u8 a0)] H fun v h' => v = .tup [.d (.int .u8 r.1), .d (.bool r.2)] ∧ h' = H := by
 unfold Z42 at hE
 refine ACalls.of_wp (fn := Tryz.f86) (c := _) Tryz.tab_ok (fun _ _ => Tryz.call86 _ _) Tryz.func86 rfl (n := 20) rfl (rs := [.tmp 2, .tmp 3]) rfl rfl ?_
 refine seqK fun K1 hK1 => ?_
 refine region ?_
 refine s0 assignA rfl ?_
 refine s0 assignA rfl ?_
 refine nil ?_
 refine hK1 _ ?_
 clear hK1 K1
 refine seqJH KeepsT.nil (fun (z : Unit) => []) (fun z => H) (fun z => Z42_j2  = some r) ?_ ?_
 ·intro K2 hK2
  refine seqK fun K4 hK4 => ?_
  refine region ?_
  refine s0 moveA rfl ?_
  refine nil ?_
  refine hK4 _ ?_
  clear hK4 K4
  refine block ?_
  refine seqJH (KeepsT.A (k := 0) (KeepsT.A (k := 4) KeepsT.nil)) (fun (z : Bool) => [(5, .a (.d (.bool z)))]) (fun z => H) (fun z => Z42_j5 a0 z = some r) ?_ ?_
  ·intro K5 hK5
   refine seqK fun K24 hK24 => ?_
   refine region ?_
   refine s0 (binI rfl rfl rfl) rfl ?_
   refine s0 assignA rfl ?_
   refine nil ?_
   refine hK24 _ ?_
   clear hK24 K24
   refine condE hE rfl (fun hc25 hE => ?_) (fun hc25 hE => ?_)
   ·refine AWp.skip ?_
    exact hK5 _ (decide (a0 = (34 : Int))) Weak.toA hE
   refine seqK fun K26 hK26 => ?_
   refine region ?_
   refine s0 (binI rfl rfl rfl) rfl ?_
   refine s0 assignA rfl ?_
   refine nil ?_
   refine hK26 _ ?_
   clear hK26 K26
   refine condE hE rfl (fun hc27 hE => ?_) (fun hc27 hE => ?_)
   ·refine AWp.skip ?_
    exact hK5 _ (decide (a0 = (92 : Int))) Weak.toA hE
   refine region ?_
   refine s0 (binI rfl rfl rfl) rfl ?_
   refine s0 assignA rfl ?_
   refine nil ?_
   exact hK5 _ (decide (a0 = (47 : Int))) Weak.toA hE
  rintro s5_6 hE
  try dsimp only at hE
  unfold Z42_j5 at hE
  refine condE hE rfl (fun hc7 hE => ?_) (fun hc7 hE => ?_)
  ·refine seqK fun K8 hK8 => ?_
   refine region ?_
   refine s0 moveA rfl ?_
   refine s0 assignA rfl ?_
   refine s0 assignA rfl ?_
   refine nil ?_
   refine hK8 _ ?_
   clear hK8 K8
   refine AWp.ret ?_
   repeat (first | refine xBlock_ret ?_ | refine xThen_ret ?_)
   obtain rfl := Option.some.inj hE
   refine retQ.retF H rfl ⟨rfl, rfl⟩ ?_
   exact (fun _ _ h => h)
  refine seqK fun K9 hK9 => ?_
  refine region ?_
  refine s0 (binI rfl rfl rfl) rfl ?_
  refine s0 assignA rfl ?_
  refine nil ?_
  refine hK9 _ ?_
  clear hK9 K9
  refine condE hE rfl (fun hc10 hE => ?_) (fun hc10 hE => ?_)
  ·refine seqK fun K11 hK11 => ?_
   refine region ?_
   refine s0 assignA rfl ?_
   refine s0 assignA rfl ?_
   refine nil ?_
   refine hK11 _ ?_
   clear hK11 K11
   refine AWp.ret ?_
   repeat (first | refine xBlock_ret ?_ | refine xThen_ret ?_)
   obtain rfl := Option.some.inj hE
   refine retQ.retF H rfl ⟨rfl, rfl⟩ ?_
   exact (fun _ _ h => h)
  refine seqK fun K12 hK12 => ?_
  refine region ?_
  refine s0 (binI rfl rfl rfl) rfl ?_
  refine s0 assignA rfl ?_
  refine nil ?_
  refine hK12 _ ?_
  clear hK12 K12
  refine condE hE rfl (fun hc13 hE => ?_) (fun hc13 hE => ?_)
  ·refine seqK fun K14 hK14 => ?_
   refine region ?_
   refine s0 assignA rfl ?_
   refine s0 assignA rfl ?_
   refine nil ?_
   refine hK14 _ ?_
   clear hK14 K14
   refine AWp.ret ?_
   repeat (first | refine xBlock_ret ?_ | refine xThen_ret ?_)
   obtain rfl := Option.some.inj hE
   refine retQ.retF H rfl ⟨rfl, rfl⟩ ?_
   exact (fun _ _ h => h)
  refine seqK fun K15 hK15 => ?_
  refine region ?_
  refine s0 (binI rfl rfl rfl) rfl ?_
  refine s0 assignA rfl ?_
  refine nil ?_
  refine hK15 _ ?_
  clear hK15 K15
  refine condE hE rfl (fun hc16 hE => ?_) (fun hc16 hE => ?_)
  ·refine seqK fun K17 hK17 => ?_
   refine region ?_
   refine s0 assignA rfl ?_
   refine s0 assignA rfl ?_
   refine nil ?_
   refine hK17 _ ?_
   clear hK17 K17
   refine AWp.ret ?_
   repeat (first | refine xBlock_ret ?_ | refine xThen_ret ?_)
   obtain rfl := Option.some.inj hE
   refine retQ.retF H rfl ⟨rfl, rfl⟩ ?_
   exact (fun _ _ h => h)
  refine seqK fun K18 hK18 => ?_
  refine region ?_
  refine s0 (binI rfl rfl rfl) rfl ?_
  refine s0 assignA rfl ?_
  refine nil ?_
  refine hK18 _ ?_
  clear hK18 K18
  refine condE hE rfl (fun hc19 hE => ?_) (fun hc19 hE => ?_)
  ·refine seqK fun K20 hK20 => ?_
   refine region ?_
   refine s0 assignA rfl ?_
   refine s0 assignA rfl ?_
   refine nil ?_
   refine hK20 _ ?_
   clear hK20 K20
   refine AWp.ret ?_
   repeat (first | refine xBlock_ret ?_ | refine xThen_ret ?_)
   obtain rfl := Option.some.inj hE
   refine retQ.retF H rfl ⟨rfl, rfl⟩ ?_
   exact (fun _ _ h => h)
  refine seqK fun K21 hK21 => ?_
  refine region ?_
  refine s0 (binI rfl rfl rfl) rfl ?_
  refine s0 assignA rfl ?_
  refine nil ?_
  refine hK21 _ ?_
  clear hK21 K21
  refine condE hE rfl (fun hc22 hE => ?_) (fun hc22 hE => ?_)
  ·refine seqK fun K23 hK23 => ?_
   refine region ?_
   refine s0 assignA rfl ?_
   refine s0 assignA rfl ?_
   refine nil ?_
   refine hK23 _ ?_
   clear hK23 K23
   refine AWp.ret ?_
   repeat (first | refine xBlock_ret ?_ | refine xThen_ret ?_)
   obtain rfl := Option.some.inj hE
   refine retQ.retF H rfl ⟨rfl, rfl⟩ ?_
   exact (fun _ _ h => h)
  refine AWp.skip ?_
  exact hK2 _ () Weak.toA hE
 rintro _ hE
 try dsimp only at hE
 unfold Z42_j2 at hE
 refine seqK fun K3 hK3 => ?_
 refine region ?_
 refine s0 assignA rfl ?_
 refine s0 assignA rfl ?_
 refine nil ?_
 refine hK3 _ ?_
 clear hK3 K3
 refine AWp.ret ?_
 repeat (first | refine xBlock_ret ?_ | refine xThen_ret ?_)
 obtain rfl := Option.some.inj hE
 refine retQ.retF H rfl ⟨rfl, rfl⟩ ?_
 exact (fun _ _ h => h)
def Z36 (s : Bs) (c : Int) : Option Int := some (Lib.indexByte s c.toNat.toUInt8)
def Z41_j17  (y18_id4_15 : Strings_Builder) : Option (Bs × Int) := (Z30 y18_id4_15).bind fun x20 => some (x20, (0 : Int))
def Z41_j29 (k_next_22 : Int → Strings_Builder → Option (Bs × Int)) (s5_30 : Int) (y31_id4_15 : Strings_Builder) : Option (Bs × Int) := (addC s5_30 (1 : Int)).bind fun x32 => k_next_22 x32 y31_id4_15
def Z41_j66 (y24_id4_15 : Strings_Builder) (x45 : Int) (k_next_22 : Int → Strings_Builder → Option (Bs × Int)) (s9_67 : Int) : Option (Bs × Int) := bif (decide ((255 : Int) < s9_67)) then (some (([] : Bs), (3 : Int))) else ((Z31 y24_id4_15 (IntKind.wrap .u8 s9_67)).bind fun x73 => (addC x45 (4 : Int)).bind fun x74 => Z41_j29  k_next_22 x74 x73.2)
def Z41_l22 (x13 : Bs)  : Nat → Int → Strings_Builder → Option (Bs × Int)
 | 0, _, _ => none
 | n22 + 1, s5_23, y24_id4_15 => bif (decide (s5_23 < ((x13.length : Nat) : Int))) then ((idxC x13 s5_23).bind fun x34 => bif (((decide (((x34.toNat : Nat) : Int) < (32 : Int))) || (decide ((126 : Int) < ((x34.toNat : Nat) : Int)))) || (decide (((x34.toNat : Nat) : Int) = (34 : Int)))) then (some (([] : Bs), (3 : Int))) else (bif (!decide (((x34.toNat : Nat) : Int) = (92 : Int))) then ((Z31 y24_id4_15 ((x34.toNat : Nat) : Int)).bind fun x43 => Z41_j29  ((Z41_l22 x13 n22)) s5_23 x43.2) else ((addC s5_23 (1 : Int)).bind fun x45 => bif (decide (x45 = ((x13.length : Nat) : Int))) then (some (([] : Bs), (3 : Int))) else ((idxC x13 x45).bind fun x53 => (Z42 ((x53.toNat : Nat) : Int)).bind fun x54 => bif x54.2 then ((Z31 y24_id4_15 x54.1).bind fun x58 => Z41_j29  ((Z41_l22 x13 n22)) x45 x58.2) else ((idxC x13 x45).bind fun x61 => guardO (!(!decide (((x61.toNat : Nat) : Int) = (117 : Int)))) (addC x45 (4 : Int)) (0 : Int) fun x62 => bif ((!decide (((x61.toNat : Nat) : Int) = (117 : Int))) || (decide (((x13.length : Nat) : Int) ≤ x62))) then (some (([] : Bs), (3 : Int))) else ((addC x45 (1 : Int)).bind fun x76 => (addC x45 (5 : Int)).bind fun x77 => (cutC x13 (some x76) (some x77)).bind fun x78 => none)))))) else (Z41_j17   y24_id4_15)
def Z41 (a0 : Bs) : Option (Bs × Int) := guardO (!(decide (((a0.length : Nat) : Int) < (2 : Int)))) (a0[0]?) (0 : UInt8) fun x5 => guardO (!((decide (((a0.length : Nat) : Int) < (2 : Int))) || (!decide (((x5.toNat : Nat) : Int) = (34 : Int))))) (subC ((a0.length : Nat) : Int) (1 : Int)) (0 : Int) fun x6 => guardO (!((decide (((a0.length : Nat) : Int) < (2 : Int))) || (!decide (((x5.toNat : Nat) : Int) = (34 : Int))))) (idxC a0 x6) (0 : UInt8) fun x7 => bif (((decide (((a0.length : Nat) : Int) < (2 : Int))) || (!decide (((x5.toNat : Nat) : Int) = (34 : Int)))) || (!decide (((x7.toNat : Nat) : Int) = (34 : Int)))) then (some (([] : Bs), (3 : Int))) else ((subC ((a0.length : Nat) : Int) (1 : Int)).bind fun x12 => (cutC a0 (some (1 : Int)) (some x12)).bind fun x13 => Z41_l22 x13 F0 (0 : Int) Strings_Builder.zero)
theorem Z41_walk {a0 : Bs}   {r : (Bs × Int)} (hE : Z41 a0 = some r) (H : Heap)  : ACalls Tryz.prog 68 [.d (.str a0)] H fun v h' => v = .tup [.d (.str r.1), .d (.int .i64 r.2)] ∧ h' = H := by
 unfold Z41 at hE
 refine ACalls.of_wp (fn := Tryz.f68) (c := _) Tryz.tab_ok (fun _ _ => Tryz.call68 _ _) Tryz.func68 rfl (n := 126) rfl (rs := [.tmp 2, .tmp 3]) rfl rfl ?_
 refine seqK fun K1 hK1 => ?_
 refine region ?_
 refine s0 assignA rfl ?_
 refine s0 assignA rfl ?_
 refine nil ?_
 refine hK1 _ ?_
 clear hK1 K1
 refine seqK fun K2 hK2 => ?_
 refine seqK fun K3 hK3 => ?_
 refine region ?_
 refine s0 moveA rfl ?_
 refine sLenS (TK rfl) rfl rfl rfl rfl fun hL4 => ?_
 refine s0 (binI rfl rfl rfl) rfl ?_
 refine s0 moveA rfl ?_
 refine gC rfl rfl (fun hC => moveA) rfl ?_
 obtain ⟨x5, gx5, hE⟩ := guardO_some hE
 refine gC rfl rfl (fun hC => ungdA (k := 17) rfl (idxSn (n := 0) (TK rfl) rfl rfl rfl (gx5 hC))) rfl ?_
 refine gC rfl rfl (fun hC => ungdA (k := 18) rfl (binI rfl rfl rfl)) rfl ?_
 refine s0 (pickOrA rfl rfl rfl) rfl ?_
 refine s0 moveA rfl ?_
 refine gC rfl rfl (fun hC => moveA) rfl ?_
 refine gC rfl rfl (fun hC => moveA) rfl ?_
 refine gC rfl rfl (fun hC => ungdA (k := 23) rfl (lenS (TK rfl) rfl rfl rfl)) rfl ?_
 obtain ⟨x6, gx6, hE⟩ := guardO_some hE
 refine gC rfl rfl (fun hC => ungdA (k := 24) rfl (subM rfl rfl (gx6 hC))) rfl ?_
 obtain ⟨x7, gx7, hE⟩ := guardO_some hE
 refine gC rfl rfl (fun hC => ungdA (k := 22) rfl (ungdA (k := 25) rfl (idxS (TK rfl) rfl rfl rfl (gx7 hC)))) rfl ?_
 refine gC rfl rfl (fun hC => ungdA (k := 26) rfl (binI rfl rfl rfl)) rfl ?_
 refine s0 (pickOrA rfl rfl rfl) rfl ?_
 refine nil ?_
 refine hK3 _ ?_
 clear hK3 K3
 refine condE hE rfl (fun hc8 hE => ?_) (fun hc8 hE => ?_)
 ·refine seqK fun K9 hK9 => ?_
  refine region ?_
  refine s0 assignA rfl ?_
  refine s0 assignA rfl ?_
  refine nil ?_
  refine hK9 _ ?_
  clear hK9 K9
  refine AWp.ret ?_
  repeat (first | refine xBlock_ret ?_ | refine xThen_ret ?_)
  obtain rfl := Option.some.inj hE
  refine retQ.retF H rfl ⟨rfl, rfl⟩ ?_
  exact (fun _ _ h => h)
 refine AWp.skip ?_
 refine hK2 _ ?_
 clear hK2 K2
 refine seqK fun K10 hK10 => ?_
 refine region ?_
 refine s0 moveA rfl ?_
 refine s0 moveA rfl ?_
 refine sLenS (TK rfl) rfl rfl rfl rfl fun hL11 => ?_
 obtain ⟨x12, gx12, hE⟩ := bindO_some hE
 refine s0 (subM rfl rfl gx12) rfl ?_
 obtain ⟨x13, gx13, hE⟩ := bindO_some hE
 refine s0 (cutM (l := (some (1 : Int))) (r := (some x12)) (TK rfl) rfl rfl rfl rfl (by simp) gx13) rfl ?_
 refine s0 assignA rfl ?_
 refine nil ?_
 refine hK10 _ ?_
 clear hK10 K10
 refine seqK fun K14 hK14 => ?_
 refine region ?_
 refine AOps.tokE 1 5 fun tk4_16 htk4_16 => ?_
 refine sE (StepE.allocT (TK rfl) rfl) rfl (fun _ _ _ ⟨id4_15, hid4_15, e1, e2, e3⟩ => ?_); subst e1 e2 e3
 obtain ⟨ne_id4_15_tk4_16, hid4_15⟩ := Heap.set_fresh hid4_15
 refine AOps.recellT id4_15 _ hpG (fun j w cs hh hx => tok_cell 1 1 1 hh (t := tk4_16) hpG hx rfl) ?_
 refine AOps.heq (h' := ((H.set tk4_16 (some (.tok 1 0 (some 5)))).set id4_15 (some (.tcells 57 (Strings_Builder.cg id4_15 (some tk4_16) Strings_Builder.zero))))) (by first | rfl | (rw [Heap.set_set]; rfl) | (funext n_; simp only [Heap.set]; (repeat' split) <;> first | rfl | (exfalso; simp_all; done) | (simp_all; done))) ?_
 refine nil ?_
 refine hK14 _ ?_
 clear hK14 K14
 refine seqJH (KeepsT.A (k := 4) KeepsT.nil) (fun (z : Strings_Builder) => []) (fun z => ((H.set tk4_16 (some (.tok 1 z.Fbuf.l.length (some 5)))).set id4_15 (some (.tcells 57 (Strings_Builder.cg id4_15 (some tk4_16) z))))) (fun z => Z41_j17 z = some r) ?_ ?_
 ·intro K17 hK17
  refine seqK fun K21 hK21 => ?_
  refine region ?_
  refine s0 assignA rfl ?_
  refine nil ?_
  refine hK21 _ ?_
  clear hK21 K21
  refine block ?_
  refine loopH (KeepsT.A (k := 0) (KeepsT.A (k := 4) KeepsT.nil)) (fun (z : Nat × Int × Strings_Builder) => [(5, .a (.d (.int .i64 z.2.1)))]) (fun z => ((H.set tk4_16 (some (.tok 1 z.2.2.Fbuf.l.length (some 5)))).set id4_15 (some (.tcells 57 (Strings_Builder.cg id4_15 (some tk4_16) z.2.2))))) (fun z => z.1) (fun z => Z41_l22 x13 z.1 z.2.1 z.2.2 = some r) (F0, (0 : Int), Strings_Builder.zero) hE Weak.toA ?_
  rintro ⟨n22, s5_23, y24_id4_15⟩ hE K22 hK22
  try dsimp only at hE
  cases n22 with
  | zero => cases hE
  | succ n22 =>
    rw [Z41_l22] at hE
    refine seqK fun K25 hK25 => ?_
    refine seqK fun K26 hK26 => ?_
    refine region ?_
    refine s0 moveA rfl ?_
    refine s0 moveA rfl ?_
    refine sLenS (TK rfl) rfl rfl rfl rfl fun hL27 => ?_
    refine s0 (binI rfl rfl rfl) rfl ?_
    refine nil ?_
    refine hK26 _ ?_
    clear hK26 K26
    refine condE hE rfl (fun hc28 hE => ?_) (fun hc28 hE => ?_)
    ·refine AWp.skip ?_
     refine hK25 _ ?_
     clear hK25 K25
     refine seqJH (KeepsT.A (k := 0) (KeepsT.A (k := 4) KeepsT.nil)) (fun (z : Int × Strings_Builder) => [(5, .a (.d (.int .i64 z.1)))]) (fun z => ((H.set tk4_16 (some (.tok 1 z.2.Fbuf.l.length (some 5)))).set id4_15 (some (.tcells 57 (Strings_Builder.cg id4_15 (some tk4_16) z.2))))) (fun z => Z41_j29  ((Z41_l22 x13 n22)) z.1 z.2 = some r) ?_ ?_
     ·intro K29 hK29
      refine block ?_
      refine seqK fun K33 hK33 => ?_
      refine region ?_
      refine s0 moveA rfl ?_
      refine s0 moveA rfl ?_
      obtain ⟨x34, gx34, hE⟩ := bindO_some hE
      refine s0 (idxS (TK rfl) rfl rfl rfl gx34) rfl ?_
      refine s0 assignA rfl ?_
      refine nil ?_
      refine hK33 _ ?_
      clear hK33 K33
      refine seqK fun K35 hK35 => ?_
      refine seqK fun K36 hK36 => ?_
      refine region ?_
      refine s0 moveA rfl ?_
      refine s0 (binI rfl rfl rfl) rfl ?_
      refine s0 moveA rfl ?_
      refine gC rfl rfl (fun hC => moveA) rfl ?_
      refine gC rfl rfl (fun hC => ungdA (k := 46) rfl (binI rfl rfl rfl)) rfl ?_
      refine s0 (pickOrA rfl rfl rfl) rfl ?_
      refine s0 moveA rfl ?_
      refine gC rfl rfl (fun hC => moveA) rfl ?_
      refine gC rfl rfl (fun hC => ungdA (k := 50) rfl (binI rfl rfl rfl)) rfl ?_
      refine s0 (pickOrA rfl rfl rfl) rfl ?_
      refine nil ?_
      refine hK36 _ ?_
      clear hK36 K36
      refine condE hE rfl (fun hc37 hE => ?_) (fun hc37 hE => ?_)
      ·refine seqK fun K38 hK38 => ?_
       refine region ?_
       refine s0 assignA rfl ?_
       refine s0 assignA rfl ?_
       refine nil ?_
       refine hK38 _ ?_
       clear hK38 K38
       refine AWp.ret ?_
       repeat (first | refine xBlock_ret ?_ | refine xThen_ret ?_)
       obtain rfl := Option.some.inj hE
       refine retQ.retF H rfl ⟨rfl, rfl⟩ ?_
       intro id_ o_ he_
       have e_tk4_16 : id_ ≠ tk4_16 := fun e_ => by subst e_; simp_all [Heap.set]
       have e_id4_15 : id_ ≠ id4_15 := fun e_ => by subst e_; simp_all [Heap.set]
       rw [← he_]
       simp only [Heap.set] at he_ ⊢
       (repeat' split) <;> simp_all
      refine AWp.skip ?_
      refine hK35 _ ?_
      clear hK35 K35
      refine seqK fun K39 hK39 => ?_
      refine seqK fun K40 hK40 => ?_
      refine region ?_
      refine s0 moveA rfl ?_
      refine s0 (binI rfl rfl rfl) rfl ?_
      refine nil ?_
      refine hK40 _ ?_
      clear hK40 K40
      refine condE hE rfl (fun hc41 hE => ?_) (fun hc41 hE => ?_)
      ·refine seqK fun K42 hK42 => ?_
       refine region ?_
       refine s0 moveA rfl ?_
       obtain ⟨x43, gx43, hE⟩ := bindO_some hE
       refine sH (callH rfl rfl (Z31_walk gx43 _ hpG hpG)) rfl ?_
       refine AOps.heq (h' := ((H.set tk4_16 (some (.tok 1 x43.2.Fbuf.l.length (some 5)))).set id4_15 (some (.tcells 57 (Strings_Builder.cg id4_15 (some tk4_16) x43.2))))) (by first | rfl | (rw [Heap.set_set]; rfl) | (funext n_; simp only [Heap.set]; (repeat' split) <;> first | rfl | (exfalso; simp_all; done) | (simp_all; done))) ?_
       refine nil ?_
       refine hK42 _ ?_
       clear hK42 K42
       refine AWp.exit ?_
       exact hK29 _ (s5_23, x43.2) Weak.toA hE
      refine AWp.skip ?_
      refine hK39 _ ?_
      clear hK39 K39
      refine seqK fun K44 hK44 => ?_
      refine region ?_
      refine s0 moveA rfl ?_
      obtain ⟨x45, gx45, hE⟩ := bindO_some hE
      refine s0 (addM rfl rfl gx45) rfl ?_
      refine s0 assignA rfl ?_
      refine nil ?_
      refine hK44 _ ?_
      clear hK44 K44
      refine seqK fun K46 hK46 => ?_
      refine seqK fun K47 hK47 => ?_
      refine region ?_
      refine s0 moveA rfl ?_
      refine s0 moveA rfl ?_
      refine sLenS (TK rfl) rfl rfl rfl rfl fun hL48 => ?_
      refine s0 (binI rfl rfl rfl) rfl ?_
      refine nil ?_
      refine hK47 _ ?_
      clear hK47 K47
      refine condE hE rfl (fun hc49 hE => ?_) (fun hc49 hE => ?_)
      ·refine seqK fun K50 hK50 => ?_
       refine region ?_
       refine s0 assignA rfl ?_
       refine s0 assignA rfl ?_
       refine nil ?_
       refine hK50 _ ?_
       clear hK50 K50
       refine AWp.ret ?_
       repeat (first | refine xBlock_ret ?_ | refine xThen_ret ?_)
       obtain rfl := Option.some.inj hE
       refine retQ.retF H rfl ⟨rfl, rfl⟩ ?_
       intro id_ o_ he_
       have e_tk4_16 : id_ ≠ tk4_16 := fun e_ => by subst e_; simp_all [Heap.set]
       have e_id4_15 : id_ ≠ id4_15 := fun e_ => by subst e_; simp_all [Heap.set]
       rw [← he_]
       simp only [Heap.set] at he_ ⊢
       (repeat' split) <;> simp_all
      refine AWp.skip ?_
      refine hK46 _ ?_
      clear hK46 K46
      refine seqK fun K51 hK51 => ?_
      refine seqK fun K52 hK52 => ?_
      refine region ?_
      refine s0 moveA rfl ?_
      refine s0 moveA rfl ?_
      obtain ⟨x53, gx53, hE⟩ := bindO_some hE
      refine s0 (idxS (TK rfl) rfl rfl rfl gx53) rfl ?_
      obtain ⟨x54, gx54, hE⟩ := bindO_some hE
      refine s0 (callP rfl rfl (fun H => Z42_walk gx54 H)) rfl ?_
      refine s0 moveA rfl ?_
      refine s0 (extract rfl rfl) rfl ?_
      refine s0 (extract rfl rfl) rfl ?_
      refine s0 assignA rfl ?_
      refine s0 assignA rfl ?_
      refine nil ?_
      refine hK52 _ ?_
      clear hK52 K52
      refine seqK fun K55 hK55 => ?_
      refine region ?_
      refine s0 moveA rfl ?_
      refine nil ?_
      refine hK55 _ ?_
      clear hK55 K55
      refine condE hE rfl (fun hc56 hE => ?_) (fun hc56 hE => ?_)
      ·refine seqK fun K57 hK57 => ?_
       refine region ?_
       refine s0 moveA rfl ?_
       obtain ⟨x58, gx58, hE⟩ := bindO_some hE
       refine sH (callH rfl rfl (Z31_walk gx58 _ hpG hpG)) rfl ?_
       refine AOps.heq (h' := ((H.set tk4_16 (some (.tok 1 x58.2.Fbuf.l.length (some 5)))).set id4_15 (some (.tcells 57 (Strings_Builder.cg id4_15 (some tk4_16) x58.2))))) (by first | rfl | (rw [Heap.set_set]; rfl) | (funext n_; simp only [Heap.set]; (repeat' split) <;> first | rfl | (exfalso; simp_all; done) | (simp_all; done))) ?_
       refine nil ?_
       refine hK57 _ ?_
       clear hK57 K57
       refine AWp.exit ?_
       exact hK29 _ (x45, x58.2) Weak.toA hE
      refine AWp.skip ?_
      refine hK51 _ ?_
      clear hK51 K51
      refine seqK fun K59 hK59 => ?_
      refine seqK fun K60 hK60 => ?_
      refine region ?_
      refine s0 moveA rfl ?_
      refine s0 moveA rfl ?_
      obtain ⟨x61, gx61, hE⟩ := bindO_some hE
      refine s0 (idxS (TK rfl) rfl rfl rfl gx61) rfl ?_
      refine s0 (binI rfl rfl rfl) rfl ?_
      refine s0 moveA rfl ?_
      refine gC rfl rfl (fun hC => moveA) rfl ?_
      obtain ⟨x62, gx62, hE⟩ := guardO_some hE
      refine gC rfl rfl (fun hC => ungdA (k := 78) rfl (addM rfl rfl (gx62 hC))) rfl ?_
      refine gC rfl rfl (fun hC => moveA) rfl ?_
      refine gC rfl rfl (fun hC => ungdA (k := 80) rfl (lenS (TK rfl) rfl rfl rfl)) rfl ?_
      refine gC rfl rfl (fun hC => ungdA (k := 79) rfl (ungdA (k := 81) rfl (binI rfl rfl rfl))) rfl ?_
      refine s0 (pickOrA rfl rfl rfl) rfl ?_
      refine nil ?_
      refine hK60 _ ?_
      clear hK60 K60
      refine condE hE rfl (fun hc63 hE => ?_) (fun hc63 hE => ?_)
      ·refine seqK fun K64 hK64 => ?_
       refine region ?_
       refine s0 assignA rfl ?_
       refine s0 assignA rfl ?_
       refine nil ?_
       refine hK64 _ ?_
       clear hK64 K64
       refine AWp.ret ?_
       repeat (first | refine xBlock_ret ?_ | refine xThen_ret ?_)
       obtain rfl := Option.some.inj hE
       refine retQ.retF H rfl ⟨rfl, rfl⟩ ?_
       intro id_ o_ he_
       have e_tk4_16 : id_ ≠ tk4_16 := fun e_ => by subst e_; simp_all [Heap.set]
       have e_id4_15 : id_ ≠ id4_15 := fun e_ => by subst e_; simp_all [Heap.set]
       rw [← he_]
       simp only [Heap.set] at he_ ⊢
       (repeat' split) <;> simp_all
      refine AWp.skip ?_
      refine hK59 _ ?_
      clear hK59 K59
      refine seqK fun K65 hK65 => ?_
      refine region ?_
      refine s0 assignA rfl ?_
      refine nil ?_
      refine hK65 _ ?_
      clear hK65 K65
      refine seqJH (KeepsT.A (k := 0) (KeepsT.A (k := 4) (KeepsT.A (k := 5) KeepsT.nil))) (fun (z : Int) => [(9, .a (.d (.int .i64 z)))]) (fun z => ((H.set tk4_16 (some (.tok 1 y24_id4_15.Fbuf.l.length (some 5)))).set id4_15 (some (.tcells 57 (Strings_Builder.cg id4_15 (some tk4_16) y24_id4_15))))) (fun z => Z41_j66 y24_id4_15 x45 ((Z41_l22 x13 n22)) z = some r) ?_ ?_
      ·intro K66 hK66
       refine seqK fun K75 hK75 => ?_
       refine region ?_
       refine s0 moveA rfl ?_
       refine s0 moveA rfl ?_
       obtain ⟨x76, gx76, hE⟩ := bindO_some hE
       refine s0 (addM rfl rfl gx76) rfl ?_
       refine s0 moveA rfl ?_
       obtain ⟨x77, gx77, hE⟩ := bindO_some hE
       refine s0 (addM rfl rfl gx77) rfl ?_
       obtain ⟨x78, gx78, hE⟩ := bindO_some hE
       refine s0 (cutM (l := (some x76)) (r := (some x77)) (TK rfl) rfl rfl rfl rfl (by simp) gx78) rfl ?_
       cases hE
      rintro s9_67 hE
      try dsimp only at hE
      unfold Z41_j66 at hE
      refine seqK fun K68 hK68 => ?_
      refine seqK fun K69 hK69 => ?_
      refine region ?_
      refine s0 moveA rfl ?_
      refine s0 (binI rfl rfl rfl) rfl ?_
      refine nil ?_
      refine hK69 _ ?_
      clear hK69 K69
      refine condE hE rfl (fun hc70 hE => ?_) (fun hc70 hE => ?_)
      ·refine seqK fun K71 hK71 => ?_
       refine region ?_
       refine s0 assignA rfl ?_
       refine s0 assignA rfl ?_
       refine nil ?_
       refine hK71 _ ?_
       clear hK71 K71
       refine AWp.ret ?_
       repeat (first | refine xBlock_ret ?_ | refine xThen_ret ?_)
       obtain rfl := Option.some.inj hE
       refine retQ.retF H rfl ⟨rfl, rfl⟩ ?_
       intro id_ o_ he_
       have e_tk4_16 : id_ ≠ tk4_16 := fun e_ => by subst e_; simp_all [Heap.set]
       have e_id4_15 : id_ ≠ id4_15 := fun e_ => by subst e_; simp_all [Heap.set]
       rw [← he_]
       simp only [Heap.set] at he_ ⊢
       (repeat' split) <;> simp_all
      refine AWp.skip ?_
      refine hK68 _ ?_
      clear hK68 K68
      refine seqK fun K72 hK72 => ?_
      refine region ?_
      refine s0 moveA rfl ?_
      refine s0 (convI (TK rfl) (TK rfl) rfl rfl) rfl ?_
      obtain ⟨x73, gx73, hE⟩ := bindO_some hE
      refine sH (callH rfl rfl (Z31_walk gx73 _ hpG hpG)) rfl ?_
      refine AOps.heq (h' := ((H.set tk4_16 (some (.tok 1 x73.2.Fbuf.l.length (some 5)))).set id4_15 (some (.tcells 57 (Strings_Builder.cg id4_15 (some tk4_16) x73.2))))) (by first | rfl | (rw [Heap.set_set]; rfl) | (funext n_; simp only [Heap.set]; (repeat' split) <;> first | rfl | (exfalso; simp_all; done) | (simp_all; done))) ?_
      refine nil ?_
      refine hK72 _ ?_
      clear hK72 K72
      refine region ?_
      refine s0 moveA rfl ?_
      obtain ⟨x74, gx74, hE⟩ := bindO_some hE
      refine s0 (addM rfl rfl gx74) rfl ?_
      refine s0 assignA rfl ?_
      refine nil ?_
      exact hK29 _ (x74, x73.2) Weak.toA hE
     rintro ⟨s5_30, y31_id4_15⟩ hE
     try dsimp only at hE
     unfold Z41_j29 at hE
     refine region ?_
     refine s0 moveA rfl ?_
     obtain ⟨x32, gx32, hE⟩ := bindO_some hE
     refine s0 (addM rfl rfl gx32) rfl ?_
     refine s0 assignA rfl ?_
     refine nil ?_
     exact hK22 _ (n22, x32, y31_id4_15) Weak.toA hE (Nat.lt_succ_self _)
    refine AWp.exit ?_
    exact hK17 _ y24_id4_15 Weak.toA hE
 rintro y18_id4_15 hE
 try dsimp only at hE
 unfold Z41_j17 at hE
 refine seqK fun K19 hK19 => ?_
 refine region ?_
 obtain ⟨x20, gx20, hE⟩ := bindO_some hE
 refine sH (callH rfl rfl (Z30_walk gx20 _ hpG hpG)) rfl ?_
 refine AOps.heq (h' := H) (by first | rfl | (rw [Heap.set_set]; rfl) | (funext n_; simp only [Heap.set]; (repeat' split) <;> first | rfl | (exfalso; simp_all; done) | (simp_all; done))) ?_
 refine s0 assignA rfl ?_
 refine s0 assignA rfl ?_
 refine nil ?_
 refine hK19 _ ?_
 clear hK19 K19
 refine AWp.ret ?_
 repeat (first | refine xBlock_ret ?_ | refine xThen_ret ?_)
 obtain rfl := Option.some.inj hE
 refine retQ.retF H rfl ⟨rfl, rfl⟩ ?_
 exact (fun _ _ h => h)
end Go.Proofs

namespace Go.Proofs
open Go Go.Ab
open AOps Cert AWp
variable {lou : Lou}
def Z46 (a0 : Bs) (a1 : Int) : Option (Token_Token × Int × Int) := (idxC a0 a1).bind fun x3 => (Z33 ([33, 36, 38, 40, 41, 58, 61, 64, 91, 93, 123, 124, 125] : Bs) (IntKind.wrap .i32 ((x3.toNat : Nat) : Int))).bind fun x6 => bif x6 then ((addC a1 (1 : Int)).bind fun x9 => (cutC a0 (some a1) (some x9)).bind fun x10 => (addC a1 (1 : Int)).bind fun x11 => some ((Token_Token.mk (1 : Int) x10 a1), x11, (0 : Int))) else (bif (decide ((IntKind.wrap .i32 ((x3.toNat : Nat) : Int)) = (46 : Int))) then ((cutC a0 (some a1) none).bind fun x16 => (Z34 x16 ([46, 46, 46] : Bs)).bind fun x17 => bif (!x17) then (some ((Token_Token.mk (0 : Int) ([] : Bs) (0 : Int)), (0 : Int), (3 : Int))) else ((addC a1 (3 : Int)).bind fun x21 => some ((Token_Token.mk (1 : Int) ([46, 46, 46] : Bs) a1), x21, (0 : Int)))) else (bif ((decide ((IntKind.wrap .i32 ((x3.toNat : Nat) : Int)) = (45 : Int))) || ((decide ((48 : Int) ≤ (IntKind.wrap .i32 ((x3.toNat : Nat) : Int)))) && (decide ((IntKind.wrap .i32 ((x3.toNat : Nat) : Int)) ≤ (57 : Int))))) then ((addC a1 (1 : Int)).bind fun x25 => (Z48 a0 x25 Z44).bind fun x26 => (cutC a0 (some a1) (some x26)).bind fun x28 => (Z40 x28).bind fun x29 => (cutC a0 (some a1) (some x26)).bind fun x31 => some ((Token_Token.mk (3 : Int) x31 a1), x26, x29.2)) else ((Z44 (IntKind.wrap .i32 ((x3.toNat : Nat) : Int))).bind fun x33 => bif x33 then ((Z48 a0 a1 Z44).bind fun x36 => (subC x36 a1).bind fun x39 => bif (decide ((64 : Int) < x39)) then (some ((Token_Token.mk (0 : Int) ([] : Bs) (0 : Int)), (0 : Int), (3 : Int))) else ((cutC a0 (some a1) (some x36)).bind fun x43 => some ((Token_Token.mk (2 : Int) x43 a1), x36, (0 : Int)))) else (bif (decide ((IntKind.wrap .i32 ((x3.toNat : Nat) : Int)) = (34 : Int))) then ((Z45 a0 a1).bind fun x47 => bif (decide (x47 < (0 : Int))) then (some ((Token_Token.mk (0 : Int) ([] : Bs) (0 : Int)), (0 : Int), (3 : Int))) else ((cutC a0 (some a1) (some x47)).bind fun x53 => (Z41 x53).bind fun x54 => some ((Token_Token.mk (4 : Int) x54.1 a1), x47, x54.2))) else (some ((Token_Token.mk (0 : Int) ([] : Bs) (0 : Int)), (0 : Int), (3 : Int)))))))
theorem Z46_walk {a0 : Bs} {a1 : Int}   {r : (Token_Token × Int × Int)} (hE : Z46 a0 a1 = some r) (H : Heap)  : ACalls Tryz.prog 55 [.d (.str a0), .d (.int .i64 a1)] H fun v h' => v = .tup [.agg (Token_Token.c r.1), .d (.int .i64 r.2.1), .d (.int .i64 r.2.2)] ∧ h' = H := by
 unfold Z46 at hE
 refine ACalls.of_wp (fn := Tryz.f55) (c := _) Tryz.tab_ok (fun _ _ => Tryz.call55 _ _) Tryz.func55 rfl (n := 116) rfl (rs := [.cell 4 47, .tmp 5, .tmp 6]) rfl rfl ?_
 refine seqK fun K1 hK1 => ?_
 refine region ?_
 refine sL (allocLA (TK rfl) rfl) rfl ?_
 refine s0 assignA rfl ?_
 refine s0 assignA rfl ?_
 refine nil ?_
 refine hK1 _ ?_
 clear hK1 K1
 refine seqK fun K2 hK2 => ?_
 refine region ?_
 refine s0 moveA rfl ?_
 refine s0 moveA rfl ?_
 obtain ⟨x3, gx3, hE⟩ := bindO_some hE
 refine s0 (idxS (TK rfl) rfl rfl rfl gx3) rfl ?_
 refine s0 (convI (TK rfl) (TK rfl) rfl rfl) rfl ?_
 refine s0 assignA rfl ?_
 refine nil ?_
 refine hK2 _ ?_
 clear hK2 K2
 refine seqK fun K4 hK4 => ?_
 refine block ?_
 refine seqK fun K5 hK5 => ?_
 refine region ?_
 refine s0 moveA rfl ?_
 obtain ⟨x6, gx6, hE⟩ := bindO_some hE
 refine s0 (callP rfl rfl (fun H => Z33_walk gx6 H)) rfl ?_
 refine s0 assignA rfl ?_
 refine nil ?_
 refine hK5 _ ?_
 clear hK5 K5
 refine condE hE rfl (fun hc7 hE => ?_) (fun hc7 hE => ?_)
 ·refine seqK fun K8 hK8 => ?_
  refine region ?_
  refine s0 moveA rfl ?_
  refine s0 moveA rfl ?_
  refine s0 moveA rfl ?_
  obtain ⟨x9, gx9, hE⟩ := bindO_some hE
  refine s0 (addM rfl rfl gx9) rfl ?_
  obtain ⟨x10, gx10, hE⟩ := bindO_some hE
  refine s0 (cutM (l := (some a1)) (r := (some x9)) (TK rfl) rfl rfl rfl rfl (by simp) gx10) rfl ?_
  refine s0 moveA rfl ?_
  refine s0 (build Tryz.tab_ok rfl rfl rfl rfl rfl rfl) rfl ?_
  refine s0 moveA rfl ?_
  obtain ⟨x11, gx11, hE⟩ := bindO_some hE
  refine s0 (addM rfl rfl gx11) rfl ?_
  refine sLn (storeLFA (TK rfl) rfl rfl rfl rfl rfl) ?_
  refine s0 assignA rfl ?_
  refine s0 assignA rfl ?_
  refine nil ?_
  refine hK8 _ ?_
  clear hK8 K8
  refine AWp.ret ?_
  repeat (first | refine xBlock_ret ?_ | refine xThen_ret ?_)
  obtain rfl := Option.some.inj hE
  refine retQ.retF H rfl ⟨rfl, rfl⟩ ?_
  exact (fun _ _ h => h)
 refine seqK fun K12 hK12 => ?_
 refine region ?_
 refine s0 moveA rfl ?_
 refine s0 (binI rfl rfl rfl) rfl ?_
 refine s0 assignA rfl ?_
 refine nil ?_
 refine hK12 _ ?_
 clear hK12 K12
 refine condE hE rfl (fun hc13 hE => ?_) (fun hc13 hE => ?_)
 ·refine seqK fun K14 hK14 => ?_
  refine seqK fun K15 hK15 => ?_
  refine region ?_
  refine s0 moveA rfl ?_
  refine s0 moveA rfl ?_
  obtain ⟨x16, gx16, hE⟩ := bindO_some hE
  refine s0 (cutM (l := (some a1)) (r := none) (TK rfl) rfl rfl rfl trivial (by simp) gx16) rfl ?_
  obtain ⟨x17, gx17, hE⟩ := bindO_some hE
  refine s0 (callP rfl rfl (fun H => Z34_walk gx17 H)) rfl ?_
  refine s0 (notB rfl) rfl ?_
  refine nil ?_
  refine hK15 _ ?_
  clear hK15 K15
  refine condE hE rfl (fun hc18 hE => ?_) (fun hc18 hE => ?_)
  ·refine seqK fun K19 hK19 => ?_
   refine region ?_
   refine s0 (build Tryz.tab_ok rfl rfl rfl rfl rfl rfl) rfl ?_
   refine sLn (storeLFA (TK rfl) rfl rfl rfl rfl rfl) ?_
   refine s0 assignA rfl ?_
   refine s0 assignA rfl ?_
   refine nil ?_
   refine hK19 _ ?_
   clear hK19 K19
   refine AWp.ret ?_
   repeat (first | refine xBlock_ret ?_ | refine xThen_ret ?_)
   obtain rfl := Option.some.inj hE
   refine retQ.retF H rfl ⟨rfl, rfl⟩ ?_
   exact (fun _ _ h => h)
  refine AWp.skip ?_
  refine hK14 _ ?_
  clear hK14 K14
  refine seqK fun K20 hK20 => ?_
  refine region ?_
  refine s0 moveA rfl ?_
  refine s0 (build Tryz.tab_ok rfl rfl rfl rfl rfl rfl) rfl ?_
  refine s0 moveA rfl ?_
  obtain ⟨x21, gx21, hE⟩ := bindO_some hE
  refine s0 (addM rfl rfl gx21) rfl ?_
  refine sLn (storeLFA (TK rfl) rfl rfl rfl rfl rfl) ?_
  refine s0 assignA rfl ?_
  refine s0 assignA rfl ?_
  refine nil ?_
  refine hK20 _ ?_
  clear hK20 K20
  refine AWp.ret ?_
  repeat (first | refine xBlock_ret ?_ | refine xThen_ret ?_)
  obtain rfl := Option.some.inj hE
  refine retQ.retF H rfl ⟨rfl, rfl⟩ ?_
  exact (fun _ _ h => h)
 refine seqK fun K22 hK22 => ?_
 refine region ?_
 refine s0 moveA rfl ?_
 refine s0 (binI rfl rfl rfl) rfl ?_
 refine s0 moveA rfl ?_
 refine gC rfl rfl (fun hC => moveA) rfl ?_
 refine gC rfl rfl (fun hC => ungdA (k := 48) rfl (binI rfl rfl rfl)) rfl ?_
 refine gC rfl rfl (fun hC => ungdA (k := 49) rfl moveA) rfl ?_
 refine gC rfl rfl (fun hC => moveA) rfl ?_
 refine gC rfl rfl (fun hC => ungdA (k := 51) rfl (binI rfl rfl rfl)) rfl ?_
 refine gC rfl rfl (fun hC => ungdA (k := 50) rfl (pickAndA rfl rfl rfl)) rfl ?_
 refine s0 (pickOrA rfl rfl rfl) rfl ?_
 refine s0 assignA rfl ?_
 refine nil ?_
 refine hK22 _ ?_
 clear hK22 K22
 refine condE hE rfl (fun hc23 hE => ?_) (fun hc23 hE => ?_)
 ·refine seqK fun K24 hK24 => ?_
  refine region ?_
  refine s0 moveA rfl ?_
  refine s0 moveA rfl ?_
  obtain ⟨x25, gx25, hE⟩ := bindO_some hE
  refine s0 (addM rfl rfl gx25) rfl ?_
  obtain ⟨x26, gx26, hE⟩ := bindO_some hE
  refine s0 (callP rfl rfl (fun H => Z48_walk gx26 H (fun _ _ hx => Z44_walk hx))) rfl ?_
  refine s0 assignA rfl ?_
  refine nil ?_
  refine hK24 _ ?_
  clear hK24 K24
  refine seqK fun K27 hK27 => ?_
  refine region ?_
  refine s0 moveA rfl ?_
  refine s0 moveA rfl ?_
  refine s0 moveA rfl ?_
  obtain ⟨x28, gx28, hE⟩ := bindO_some hE
  refine s0 (cutM (l := (some a1)) (r := (some x26)) (TK rfl) rfl rfl rfl rfl (by simp) gx28) rfl ?_
  obtain ⟨x29, gx29, hE⟩ := bindO_some hE
  refine s0 (callP rfl rfl (fun H => Z40_walk gx29 H)) rfl ?_
  refine s0 moveA rfl ?_
  refine s0 (extract rfl rfl) rfl ?_
  refine s0 (extract rfl rfl) rfl ?_
  refine s0 assignA rfl ?_
  refine s0 assignA rfl ?_
  refine nil ?_
  refine hK27 _ ?_
  clear hK27 K27
  refine seqK fun K30 hK30 => ?_
  refine region ?_
  refine s0 moveA rfl ?_
  refine s0 moveA rfl ?_
  refine s0 moveA rfl ?_
  obtain ⟨x31, gx31, hE⟩ := bindO_some hE
  refine s0 (cutM (l := (some a1)) (r := (some x26)) (TK rfl) rfl rfl rfl rfl (by simp) gx31) rfl ?_
  refine s0 moveA rfl ?_
  refine s0 (build Tryz.tab_ok rfl rfl rfl rfl rfl rfl) rfl ?_
  refine s0 moveA rfl ?_
  refine s0 moveA rfl ?_
  refine sLn (storeLFA (TK rfl) rfl rfl rfl rfl rfl) ?_
  refine s0 assignA rfl ?_
  refine s0 assignA rfl ?_
  refine nil ?_
  refine hK30 _ ?_
  clear hK30 K30
  refine AWp.ret ?_
  repeat (first | refine xBlock_ret ?_ | refine xThen_ret ?_)
  obtain rfl := Option.some.inj hE
  refine retQ.retF H rfl ⟨rfl, rfl⟩ ?_
  exact (fun _ _ h => h)
 refine seqK fun K32 hK32 => ?_
 refine region ?_
 refine s0 moveA rfl ?_
 obtain ⟨x33, gx33, hE⟩ := bindO_some hE
 refine s0 (callP rfl rfl (fun H => Z44_walk gx33 H)) rfl ?_
 refine s0 assignA rfl ?_
 refine nil ?_
 refine hK32 _ ?_
 clear hK32 K32
 refine condE hE rfl (fun hc34 hE => ?_) (fun hc34 hE => ?_)
 ·refine seqK fun K35 hK35 => ?_
  refine region ?_
  refine s0 moveA rfl ?_
  refine s0 moveA rfl ?_
  obtain ⟨x36, gx36, hE⟩ := bindO_some hE
  refine s0 (callP rfl rfl (fun H => Z48_walk gx36 H (fun _ _ hx => Z44_walk hx))) rfl ?_
  refine s0 assignA rfl ?_
  refine nil ?_
  refine hK35 _ ?_
  clear hK35 K35
  refine seqK fun K37 hK37 => ?_
  refine seqK fun K38 hK38 => ?_
  refine region ?_
  refine s0 moveA rfl ?_
  refine s0 moveA rfl ?_
  obtain ⟨x39, gx39, hE⟩ := bindO_some hE
  refine s0 (subM rfl rfl gx39) rfl ?_
  refine s0 (binI rfl rfl rfl) rfl ?_
  refine nil ?_
  refine hK38 _ ?_
  clear hK38 K38
  refine condE hE rfl (fun hc40 hE => ?_) (fun hc40 hE => ?_)
  ·refine seqK fun K41 hK41 => ?_
   refine region ?_
   refine s0 (build Tryz.tab_ok rfl rfl rfl rfl rfl rfl) rfl ?_
   refine sLn (storeLFA (TK rfl) rfl rfl rfl rfl rfl) ?_
   refine s0 assignA rfl ?_
   refine s0 assignA rfl ?_
   refine nil ?_
   refine hK41 _ ?_
   clear hK41 K41
   refine AWp.ret ?_
   repeat (first | refine xBlock_ret ?_ | refine xThen_ret ?_)
   obtain rfl := Option.some.inj hE
   refine retQ.retF H rfl ⟨rfl, rfl⟩ ?_
   exact (fun _ _ h => h)
  refine AWp.skip ?_
  refine hK37 _ ?_
  clear hK37 K37
  refine seqK fun K42 hK42 => ?_
  refine region ?_
  refine s0 moveA rfl ?_
  refine s0 moveA rfl ?_
  refine s0 moveA rfl ?_
  obtain ⟨x43, gx43, hE⟩ := bindO_some hE
  refine s0 (cutM (l := (some a1)) (r := (some x36)) (TK rfl) rfl rfl rfl rfl (by simp) gx43) rfl ?_
  refine s0 moveA rfl ?_
  refine s0 (build Tryz.tab_ok rfl rfl rfl rfl rfl rfl) rfl ?_
  refine s0 moveA rfl ?_
  refine sLn (storeLFA (TK rfl) rfl rfl rfl rfl rfl) ?_
  refine s0 assignA rfl ?_
  refine s0 assignA rfl ?_
  refine nil ?_
  refine hK42 _ ?_
  clear hK42 K42
  refine AWp.ret ?_
  repeat (first | refine xBlock_ret ?_ | refine xThen_ret ?_)
  obtain rfl := Option.some.inj hE
  refine retQ.retF H rfl ⟨rfl, rfl⟩ ?_
  exact (fun _ _ h => h)
 refine seqK fun K44 hK44 => ?_
 refine region ?_
 refine s0 moveA rfl ?_
 refine s0 (binI rfl rfl rfl) rfl ?_
 refine s0 assignA rfl ?_
 refine nil ?_
 refine hK44 _ ?_
 clear hK44 K44
 refine condE hE rfl (fun hc45 hE => ?_) (fun hc45 hE => ?_)
 ·refine seqK fun K46 hK46 => ?_
  refine region ?_
  refine s0 moveA rfl ?_
  refine s0 moveA rfl ?_
  obtain ⟨x47, gx47, hE⟩ := bindO_some hE
  refine s0 (callP rfl rfl (fun H => Z45_walk gx47 H)) rfl ?_
  refine s0 assignA rfl ?_
  refine nil ?_
  refine hK46 _ ?_
  clear hK46 K46
  refine seqK fun K48 hK48 => ?_
  refine seqK fun K49 hK49 => ?_
  refine region ?_
  refine s0 moveA rfl ?_
  refine s0 (binI rfl rfl rfl) rfl ?_
  refine nil ?_
  refine hK49 _ ?_
  clear hK49 K49
  refine condE hE rfl (fun hc50 hE => ?_) (fun hc50 hE => ?_)
  ·refine seqK fun K51 hK51 => ?_
   refine region ?_
   refine s0 (build Tryz.tab_ok rfl rfl rfl rfl rfl rfl) rfl ?_
   refine sLn (storeLFA (TK rfl) rfl rfl rfl rfl rfl) ?_
   refine s0 assignA rfl ?_
   refine s0 assignA rfl ?_
   refine nil ?_
   refine hK51 _ ?_
   clear hK51 K51
   refine AWp.ret ?_
   repeat (first | refine xBlock_ret ?_ | refine xThen_ret ?_)
   obtain rfl := Option.some.inj hE
   refine retQ.retF H rfl ⟨rfl, rfl⟩ ?_
   exact (fun _ _ h => h)
  refine AWp.skip ?_
  refine hK48 _ ?_
  clear hK48 K48
  refine seqK fun K52 hK52 => ?_
  refine region ?_
  refine s0 moveA rfl ?_
  refine s0 moveA rfl ?_
  refine s0 moveA rfl ?_
  obtain ⟨x53, gx53, hE⟩ := bindO_some hE
  refine s0 (cutM (l := (some a1)) (r := (some x47)) (TK rfl) rfl rfl rfl rfl (by simp) gx53) rfl ?_
  obtain ⟨x54, gx54, hE⟩ := bindO_some hE
  refine s0 (callP rfl rfl (fun H => Z41_walk gx54 H)) rfl ?_
  refine s0 moveA rfl ?_
  refine s0 (extract rfl rfl) rfl ?_
  refine s0 (extract rfl rfl) rfl ?_
  refine s0 assignA rfl ?_
  refine s0 assignA rfl ?_
  refine nil ?_
  refine hK52 _ ?_
  clear hK52 K52
  refine seqK fun K55 hK55 => ?_
  refine region ?_
  refine s0 moveA rfl ?_
  refine s0 moveA rfl ?_
  refine s0 (build Tryz.tab_ok rfl rfl rfl rfl rfl rfl) rfl ?_
  refine s0 moveA rfl ?_
  refine s0 moveA rfl ?_
  refine sLn (storeLFA (TK rfl) rfl rfl rfl rfl rfl) ?_
  refine s0 assignA rfl ?_
  refine s0 assignA rfl ?_
  refine nil ?_
  refine hK55 _ ?_
  clear hK55 K55
  refine AWp.ret ?_
  repeat (first | refine xBlock_ret ?_ | refine xThen_ret ?_)
  obtain rfl := Option.some.inj hE
  refine retQ.retF H rfl ⟨rfl, rfl⟩ ?_
  exact (fun _ _ h => h)
 refine AWp.skip ?_
 refine hK4 _ ?_
 clear hK4 K4
 refine seqK fun K56 hK56 => ?_
 refine region ?_
 refine s0 (build Tryz.tab_ok rfl rfl rfl rfl rfl rfl) rfl ?_
 refine sLn (storeLFA (TK rfl) rfl rfl rfl rfl rfl) ?_
 refine s0 assignA rfl ?_
 refine s0 assignA rfl ?_
 refine nil ?_
 refine hK56 _ ?_
 clear hK56 K56
 refine AWp.ret ?_
 repeat (first | refine xBlock_ret ?_ | refine xThen_ret ?_)
 obtain rfl := Option.some.inj hE
 refine retQ.retF H rfl ⟨rfl, rfl⟩ ?_
 exact (fun _ _ h => h)
def Z43_j8 (a0 : Bs)  (s5_9 : (Sl Token_Token)) : Option ((Sl Token_Token) × Int × Int) := (appC 32 s5_9 (⟨false, [(Token_Token.mk (5 : Int) ([] : Bs) ((a0.length : Nat) : Int))]⟩ : Sl Token_Token)).bind fun x12 => some (x12, (0 : Int), (0 : Int))
def Z43_l15 (a0 : Bs)  : Nat → (Sl Token_Token) → Int → Option ((Sl Token_Token) × Int × Int)
 | 0, _, _ => none
 | n15 + 1, s5_16, s6_17 => bif (decide (s6_17 < ((a0.length : Nat) : Int))) then ((Z46 a0 s6_17).bind fun x24 => bif (!decide (x24.2.2 = (0 : Int))) then (some ((Sl.nil : Sl Token_Token), s6_17, x24.2.2)) else ((appC 32 s5_16 (⟨false, [x24.1]⟩ : Sl Token_Token)).bind fun x30 => (Z47 a0 x24.2.1).bind fun x31 => (Z43_l15 a0 n15) x30 x31)) else (Z43_j8 a0  s5_16)
def Z43 (a0 : Bs) : Option ((Sl Token_Token) × Int × Int) := bif (decide ((65536 : Int) < ((a0.length : Nat) : Int))) then (some ((Sl.nil : Sl Token_Token), (65536 : Int), (4 : Int))) else ((Z47 a0 (0 : Int)).bind fun x14 => Z43_l15 a0 F0 (Sl.nil : Sl Token_Token) x14)
theorem Z43_walk {a0 : Bs}   {r : ((Sl Token_Token) × Int × Int)} (hE : Z43 a0 = some r) (H : Heap)  : ACalls Tryz.prog 44 [.d (.str a0)] H fun v h' => v = .tup [.d (Sl.d 3 Token_Token.c none r.1), .d (.int .i64 r.2.1), .d (.int .i64 r.2.2)] ∧ h' = H := by
 unfold Z43 at hE
 refine ACalls.of_wp (fn := Tryz.f44) (c := _) Tryz.tab_ok (fun _ _ => Tryz.call44 _ _) Tryz.func44 rfl (n := 44) rfl (rs := [.tmp 2, .tmp 3, .tmp 4]) rfl rfl ?_
 refine AWp.tok 3 fun tk1 htk1 => ?_
 refine seqK fun K1 hK1 => ?_
 refine region ?_
 refine s0 (assignNil (k' := 3) rfl) rfl ?_
 refine s0 assignA rfl ?_
 refine s0 assignA rfl ?_
 refine nil ?_
 refine hK1 _ ?_
 clear hK1 K1
 refine seqK fun K2 hK2 => ?_
 refine seqK fun K3 hK3 => ?_
 refine region ?_
 refine s0 moveA rfl ?_
 refine sLenS (TK rfl) rfl rfl rfl rfl fun hL4 => ?_
 refine s0 (binI rfl rfl rfl) rfl ?_
 refine nil ?_
 refine hK3 _ ?_
 clear hK3 K3
 refine condE hE rfl (fun hc5 hE => ?_) (fun hc5 hE => ?_)
 ·refine seqK fun K6 hK6 => ?_
  refine region ?_
  refine s0 (assignNil (k' := 3) rfl) rfl ?_
  refine s0 assignA rfl ?_
  refine s0 assignA rfl ?_
  refine nil ?_
  refine hK6 _ ?_
  clear hK6 K6
  refine AWp.ret ?_
  repeat (first | refine xBlock_ret ?_ | refine xThen_ret ?_)
  obtain rfl := Option.some.inj hE
  refine retQ.retF H rfl ⟨rfl, rfl⟩ ?_
  first | exact Heap.sub_set htk1 | (simp only [Heap.set_set]; exact Heap.sub_set htk1)
 refine AWp.skip ?_
 refine hK2 _ ?_
 clear hK2 K2
 refine seqK fun K7 hK7 => ?_
 refine region ?_
 refine s0 assignA rfl ?_
 refine nil ?_
 refine hK7 _ ?_
 clear hK7 K7
 refine AWp.nilTok 5 3 tk1 rfl hpG ?_
 refine seqJH (KeepsT.A (k := 0) KeepsT.nil) (fun (z : (Sl Token_Token)) => [(5, .a (.d (Sl.d 3 Token_Token.c (some tk1) z)))]) (fun z => (H.set tk1 (some (.tok 3 z.l.length)))) (fun z => Z43_j8 a0 z = some r) ?_ ?_
 ·intro K8 hK8
  refine seqK fun K13 hK13 => ?_
  refine region ?_
  refine s0 moveA rfl ?_
  obtain ⟨x14, gx14, hE⟩ := bindO_some hE
  refine s0 (callP rfl rfl (fun H => Z47_walk gx14 H)) rfl ?_
  refine s0 assignA rfl ?_
  refine nil ?_
  refine hK13 _ ?_
  clear hK13 K13
  refine block ?_
  refine loopH (KeepsT.A (k := 0) KeepsT.nil) (fun (z : Nat × (Sl Token_Token) × Int) => [(5, .a (.d (Sl.d 3 Token_Token.c (some tk1) z.2.1))), (6, .a (.d (.int .i64 z.2.2)))]) (fun z => (H.set tk1 (some (.tok 3 z.2.1.l.length)))) (fun z => z.1) (fun z => Z43_l15 a0 z.1 z.2.1 z.2.2 = some r) (F0, (Sl.nil : Sl Token_Token), x14) hE Weak.toA ?_
  rintro ⟨n15, s5_16, s6_17⟩ hE K15 hK15
  try dsimp only at hE
  cases n15 with
  | zero => cases hE
  | succ n15 =>
    rw [Z43_l15] at hE
    refine seqK fun K18 hK18 => ?_
    refine seqK fun K19 hK19 => ?_
    refine region ?_
    refine s0 moveA rfl ?_
    refine s0 moveA rfl ?_
    refine sLenS (TK rfl) rfl rfl rfl rfl fun hL20 => ?_
    refine s0 (binI rfl rfl rfl) rfl ?_
    refine nil ?_
    refine hK19 _ ?_
    clear hK19 K19
    refine condE hE rfl (fun hc21 hE => ?_) (fun hc21 hE => ?_)
    ·refine AWp.skip ?_
     refine hK18 _ ?_
     clear hK18 K18
     refine seqK fun K22 hK22 => ?_
     refine block ?_
     refine seqK fun K23 hK23 => ?_
     refine region ?_
     refine s0 moveA rfl ?_
     refine s0 moveA rfl ?_
     obtain ⟨x24, gx24, hE⟩ := bindO_some hE
     refine s0 (callP rfl rfl (fun H => Z46_walk gx24 H)) rfl ?_
     refine s0 moveA rfl ?_
     refine s0 (extract rfl rfl) rfl ?_
     refine s0 (extract rfl rfl) rfl ?_
     refine s0 (extract rfl rfl) rfl ?_
     refine sL (allocLA (TK rfl) rfl) rfl ?_
     refine sLn (storeLFA (TK rfl) rfl rfl rfl rfl rfl) ?_
     refine s0 assignA rfl ?_
     refine s0 assignA rfl ?_
     refine nil ?_
     refine hK23 _ ?_
     clear hK23 K23
     refine freezeA 7 _ rfl (Keeps.c (k := 0) (by conv => lhs; whnf) (by rfl) (Keeps.c (k := 5) (by conv => lhs; whnf) (by rfl) (Keeps.c (k := 6) (by conv => lhs; whnf) (by rfl) (Keeps.c (k := 8) (by conv => lhs; whnf) (by rfl) (Keeps.c (k := 9) (by conv => lhs; whnf) (by rfl) Keeps.nil))))) ?_
     refine seqK fun K25 hK25 => ?_
     refine seqK fun K26 hK26 => ?_
     refine region ?_
     refine s0 moveA rfl ?_
     refine s0 (binI rfl rfl rfl) rfl ?_
     refine nil ?_
     refine hK26 _ ?_
     clear hK26 K26
     refine condE hE rfl (fun hc27 hE => ?_) (fun hc27 hE => ?_)
     ·refine seqK fun K28 hK28 => ?_
      refine region ?_
      refine s0 moveA rfl ?_
      refine s0 moveA rfl ?_
      refine s0 (assignNil (k' := 3) rfl) rfl ?_
      refine s0 assignA rfl ?_
      refine s0 assignA rfl ?_
      refine nil ?_
      refine hK28 _ ?_
      clear hK28 K28
      refine AWp.ret ?_
      repeat (first | refine xBlock_ret ?_ | refine xThen_ret ?_)
      obtain rfl := Option.some.inj hE
      refine retQ.retF H rfl ⟨rfl, rfl⟩ ?_
      first | exact Heap.sub_set htk1 | (simp only [Heap.set_set]; exact Heap.sub_set htk1)
     refine AWp.skip ?_
     refine hK25 _ ?_
     clear hK25 K25
     refine seqK fun K29 hK29 => ?_
     refine region ?_
     refine s0 moveA rfl ?_
     refine s0 (loadV (TK rfl) rfl rfl rfl) rfl ?_
     refine s0 (buildSlice (TK rfl) rfl (TK rfl) rfl rfl rfl rfl rfl rfl) rfl ?_
     obtain ⟨x30, gx30, hE⟩ := bindO_some hE
     refine sH (appM (f := Token_Token.c) (TK rfl) rfl (TK rfl) (TK rfl) ⟨_, rfl⟩ rfl rfl (by decide) rfl rfl rfl rfl hpG rfl gx30) rfl ?_
     refine AOps.heq (h' := (H.set tk1 (some (.tok 3 x30.l.length)))) (by first | rfl | (rw [Heap.set_set]; rfl) | (funext n_; simp only [Heap.set]; (repeat' split) <;> first | rfl | (exfalso; simp_all; done) | (simp_all; done))) ?_
     refine s0 assignA rfl ?_
     refine nil ?_
     refine hK29 _ ?_
     clear hK29 K29
     refine region ?_
     refine s0 moveA rfl ?_
     refine s0 assignA rfl ?_
     refine nil ?_
     refine hK22 _ ?_
     clear hK22 K22
     refine region ?_
     refine s0 moveA rfl ?_
     refine s0 moveA rfl ?_
     obtain ⟨x31, gx31, hE⟩ := bindO_some hE
     refine s0 (callP rfl rfl (fun H => Z47_walk gx31 H)) rfl ?_
     refine s0 assignA rfl ?_
     refine nil ?_
     exact hK15 _ (n15, x30, x31) Weak.toA hE (Nat.lt_succ_self _)
    refine AWp.exit ?_
    exact hK8 _ s5_16 Weak.toA hE
 rintro s5_9 hE
 try dsimp only at hE
 unfold Z43_j8 at hE
 refine seqK fun K10 hK10 => ?_
 refine region ?_
 refine s0 moveA rfl ?_
 refine s0 moveA rfl ?_
 refine sLenS (TK rfl) rfl rfl rfl rfl fun hL11 => ?_
 refine s0 (build Tryz.tab_ok rfl rfl rfl rfl rfl rfl) rfl ?_
 refine s0 (buildSlice (TK rfl) rfl (TK rfl) rfl rfl rfl rfl rfl rfl) rfl ?_
 obtain ⟨x12, gx12, hE⟩ := bindO_some hE
 refine sH (appM (f := Token_Token.c) (TK rfl) rfl (TK rfl) (TK rfl) ⟨_, rfl⟩ rfl rfl (by decide) rfl rfl rfl rfl hpG rfl gx12) rfl ?_
 refine AOps.heq (h' := (H.set tk1 (some (.tok 3 x12.l.length)))) (by first | rfl | (rw [Heap.set_set]; rfl) | (funext n_; simp only [Heap.set]; (repeat' split) <;> first | rfl | (exfalso; simp_all; done) | (simp_all; done))) ?_
 refine s0 assignA rfl ?_
 refine s0 assignA rfl ?_
 refine s0 assignA rfl ?_
 refine nil ?_
 refine hK10 _ ?_
 clear hK10 K10
 refine AWp.dropTok 2 rfl ?_
 refine AWp.ret ?_
 repeat (first | refine xBlock_ret ?_ | refine xThen_ret ?_)
 obtain rfl := Option.some.inj hE
 refine retQ.retF H rfl ⟨rfl, rfl⟩ ?_
 first | exact Heap.sub_set htk1 | (simp only [Heap.set_set]; exact Heap.sub_set htk1)
def Tryz.lay45_ren : Go.Shelf.Ren := ⟨fun | 35 => 45 | n => n, fun | 22 => 22 | 23 => 3 | 3 => 3 | 4 => 4 | 0 => 0 | n => n, fun | n => n⟩
theorem Tryz.lay45 : Go.Proofs.SlLaysE.n35 Tryz.prog Tryz.lay45_ren := {
 mixed := by kernel_rfl
 f35 := ⟨Tryz.f45.name, by decide, Tryz.func45.trans (congrArg some (by kernel_rfl))⟩
 t0 := Tryz.underlying0
 a0 := Tryz.isAgg0
 z0 := Tryz.sizeOf0
 v0 := Tryz.zeroValue0
 t3 := Tryz.underlying3
 a3 := Tryz.isAgg3
 z3 := Tryz.sizeOf3
 v3 := Tryz.zeroValue3
 t4 := Tryz.underlying4
 a4 := Tryz.isAgg4
 z4 := Tryz.sizeOf4
 v4 := Tryz.zeroValue4
 t22 := Tryz.underlying22
 a22 := Tryz.isAgg22
 z22 := Tryz.sizeOf22
 v22 := Tryz.zeroValue22
 a23 := Tryz.isAgg3
 z23 := Tryz.sizeOf3 }
theorem Z28_walk {s : Sl Int} {H : Heap} {id m : Nat} {nl : Bool} (hH : H id = some (.arr 1 (s.l.map (intE .i64)))) (hm : m = s.l.length) : ACalls Tryz.prog 45 [.d (.arr 1 id nl m)] H fun r h' => r = .tup [] ∧ h' = H.set id (some (.arr 1 ((Sl.rev s).l.map (intE .i64)))) :=
 revI_calls Tryz.lay45 hH hm rfl
end Go.Proofs
