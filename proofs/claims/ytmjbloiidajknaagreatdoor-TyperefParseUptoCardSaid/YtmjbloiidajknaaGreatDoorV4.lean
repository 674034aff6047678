import Derived.Test.YtmjbloiidajknaaGreatDoorV3
set_option maxRecDepth 100000
set_option maxHeartbeats 2000000
set_option linter.unusedVariables false
set_option linter.unusedSimpArgs false
namespace Go.Proofs
open Go Go.Ab
open AOps Cert AWp
variable {lou : Lou}
def Z4_j16 (a0 : Bs) (x5 : UInt8)  (s7_17 : Int) : Option (Int × Int) := bif ((decide ((0 : Int) < ((a0.length : Nat) : Int))) && (decide (((x5.toNat : Nat) : Int) = (45 : Int)))) then (some (s7_17, (0 : Int))) else (bif (decide (s7_17 = (-9223372036854775808 : Int))) then (some ((0 : Int), (4 : Int))) else (some ((IntKind.wrap .i64 (0 - s7_17)), (0 : Int))))
def Z4_l28 (a0 : Bs) (x5 : UInt8) (s4_7 : Bs)  : Nat → Int → Nat → Option (Int × Int)
 | 0, _, _ => none
 | n28 + 1, s7_29, s8_30 => bif (decide (((s8_30 : Nat) : Int) < ((s4_7.length : Nat) : Int))) then ((s4_7[s8_30]?).bind fun x37 => (subC (IntKind.wrap .i64 ((x37.toNat : Nat) : Int)) (48 : Int)).bind fun x38 => (addC (-9223372036854775808 : Int) x38).bind fun x41 => bif (decide (s7_29 < (IntKind.wrap .i64 (Int.tdiv x41 (10 : Int))))) then (some ((0 : Int), (4 : Int))) else ((mulC (10 : Int) s7_29).bind fun x44 => (subC x44 x38).bind fun x45 => (Z4_l28 a0 x5 s4_7 n28) x45 (s8_30 + 1))) else (Z4_j16 a0 x5  s7_29)
def Z4_j14 (a0 : Bs) (x5 : UInt8) (s4_7 : Bs)   : Option (Int × Int) := Z4_l28 a0 x5 s4_7 (s4_7.length + 1) (0 : Int) 0
def Z4_l47 (a0 : Bs) (x5 : UInt8) (s4_7 : Bs)  : Nat → Nat → Option (Int × Int)
 | 0, _ => none
 | n47 + 1, s6_48 => bif (decide (((s6_48 : Nat) : Int) < ((s4_7.length : Nat) : Int))) then ((s4_7[s6_48]?).bind fun x55 => (Z7 ((x55.toNat : Nat) : Int)).bind fun x56 => bif (!x56) then (some ((0 : Int), (3 : Int))) else ((Z4_l47 a0 x5 s4_7 n47) (s6_48 + 1))) else (Z4_j14 a0 x5 s4_7  )
def Z4_j6 (a0 : Bs) (x5 : UInt8)  (s4_7 : Bs) : Option (Int × Int) := guardO (!(decide (((s4_7.length : Nat) : Int) = (0 : Int)))) (s4_7[0]?) (0 : UInt8) fun x11 => bif ((decide (((s4_7.length : Nat) : Int) = (0 : Int))) || ((decide (((x11.toNat : Nat) : Int) = (48 : Int))) && ((decide ((1 : Int) < ((s4_7.length : Nat) : Int))) || ((decide ((0 : Int) < ((a0.length : Nat) : Int))) && (decide (((x5.toNat : Nat) : Int) = (45 : Int))))))) then (some ((0 : Int), (3 : Int))) else (Z4_l47 a0 x5 s4_7 (s4_7.length + 1) 0)
def Z4 (a0 : Bs) : Option (Int × Int) := guardO ((decide ((0 : Int) < ((a0.length : Nat) : Int)))) (a0[0]?) (0 : UInt8) fun x5 => bif ((decide ((0 : Int) < ((a0.length : Nat) : Int))) && (decide (((x5.toNat : Nat) : Int) = (45 : Int)))) then ((cutC a0 (some (1 : Int)) none).bind fun x61 => Z4_j6 a0 x5  x61) else (Z4_j6 a0 x5  a0)
theorem Z4_walk {a0 : Bs}   {r : (Int × Int)} (hE : Z4 a0 = some r) (H : Heap)  : ACalls Tryz.prog 74 [.d (.str a0)] H fun v h' => v = .tup [.d (.int .i64 r.1), .d (.int .i64 r.2)] ∧ h' = H := by
 unfold Z4 at hE
 refine ACalls.of_wp (fn := Tryz.f74) (c := _) Tryz.tab_ok (fun _ _ => Tryz.call74 _ _) Tryz.func74 rfl (n := 75) rfl (rs := [.tmp 2, .tmp 3]) rfl rfl ?_
 refine seqK fun K1 hK1 => ?_
 refine region ?_
 refine s0 assignA rfl ?_
 refine s0 assignA rfl ?_
 refine nil ?_
 refine hK1 _ ?_
 clear hK1 K1
 refine seqK fun K2 hK2 => ?_
 refine region ?_
 refine s0 moveA rfl ?_
 refine s0 assignA rfl ?_
 refine nil ?_
 refine hK2 _ ?_
 clear hK2 K2
 refine seqK fun K3 hK3 => ?_
 refine region ?_
 refine s0 moveA rfl ?_
 refine sLenS (TK rfl) rfl rfl rfl rfl fun hL4 => ?_
 refine s0 (binI rfl rfl rfl) rfl ?_
 refine s0 moveA rfl ?_
 refine gC rfl rfl (fun hC => moveA) rfl ?_
 obtain ⟨x5, gx5, hE⟩ := guardO_some hE
 refine gC rfl rfl (fun hC => ungdA (k := 15) rfl (idxSn (n := 0) (TK rfl) rfl rfl rfl (gx5 hC))) rfl ?_
 refine gC rfl rfl (fun hC => ungdA (k := 16) rfl (binI rfl rfl rfl)) rfl ?_
 refine s0 (pickAndA rfl rfl rfl) rfl ?_
 refine s0 assignA rfl ?_
 refine nil ?_
 refine hK3 _ ?_
 clear hK3 K3
 refine seqJH (KeepsT.A (k := 5) KeepsT.nil) (fun (z : Bs) => [(4, .a (.d (.str z)))]) (fun z => H) (fun z => Z4_j6 a0 x5 z = some r) ?_ ?_
 ·intro K6 hK6
  refine seqK fun K59 hK59 => ?_
  refine region ?_
  refine s0 moveA rfl ?_
  refine nil ?_
  refine hK59 _ ?_
  clear hK59 K59
  refine condE hE rfl (fun hc60 hE => ?_) (fun hc60 hE => ?_)
  ·refine region ?_
   refine s0 moveA rfl ?_
   obtain ⟨x61, gx61, hE⟩ := bindO_some hE
   refine s0 (cutM (l := (some (1 : Int))) (r := none) (TK rfl) rfl rfl rfl trivial (by simp) gx61) rfl ?_
   refine s0 assignA rfl ?_
   refine nil ?_
   exact hK6 _ x61 Weak.toA hE
  refine AWp.skip ?_
  exact hK6 _ a0 Weak.toA hE
 rintro s4_7 hE
 try dsimp only at hE
 unfold Z4_j6 at hE
 refine seqK fun K8 hK8 => ?_
 refine seqK fun K9 hK9 => ?_
 refine region ?_
 refine s0 moveA rfl ?_
 refine sLenS (TK rfl) rfl rfl rfl rfl fun hL10 => ?_
 refine s0 (binI rfl rfl rfl) rfl ?_
 refine s0 moveA rfl ?_
 refine gC rfl rfl (fun hC => moveA) rfl ?_
 obtain ⟨x11, gx11, hE⟩ := guardO_some hE
 refine gC rfl rfl (fun hC => ungdA (k := 26) rfl (idxSn (n := 0) (TK rfl) rfl rfl rfl (gx11 hC))) rfl ?_
 refine gC rfl rfl (fun hC => ungdA (k := 27) rfl (binI rfl rfl rfl)) rfl ?_
 refine gC rfl rfl (fun hC => ungdA (k := 28) rfl moveA) rfl ?_
 refine gC rfl rfl (fun hC => moveA) rfl ?_
 refine gC rfl rfl (fun hC => ungdA (k := 30) rfl (lenS (TK rfl) rfl rfl rfl)) rfl ?_
 refine gC rfl rfl (fun hC => ungdA (k := 31) rfl (binI rfl rfl rfl)) rfl ?_
 refine gC rfl rfl (fun hC => ungdA (k := 32) rfl moveA) rfl ?_
 refine gC rfl rfl (fun hC => moveA) rfl ?_
 refine gC rfl rfl (fun hC => ungdA (k := 33) rfl (pickOrA rfl rfl rfl)) rfl ?_
 refine gC rfl rfl (fun hC => ungdA (k := 29) rfl (pickAndA rfl rfl rfl)) rfl ?_
 refine s0 (pickOrA rfl rfl rfl) rfl ?_
 refine nil ?_
 refine hK9 _ ?_
 clear hK9 K9
 refine condE hE rfl (fun hc12 hE => ?_) (fun hc12 hE => ?_)
 ·refine seqK fun K13 hK13 => ?_
  refine region ?_
  refine s0 assignA rfl ?_
  refine s0 assignA rfl ?_
  refine nil ?_
  refine hK13 _ ?_
  clear hK13 K13
  refine AWp.ret ?_
  repeat (first | refine xBlock_ret ?_ | refine xThen_ret ?_)
  obtain rfl := Option.some.inj hE
  refine retQ.retF H rfl ⟨rfl, rfl⟩ ?_
  exact (fun _ _ h => h)
 refine AWp.skip ?_
 refine hK8 _ ?_
 clear hK8 K8
 refine seqJH (KeepsT.A (k := 4) (KeepsT.A (k := 5) KeepsT.nil)) (fun (z : Unit) => []) (fun z => H) (fun z => Z4_j14 a0 x5 s4_7  = some r) ?_ ?_
 ·intro K14 hK14
  refine seqK fun K46 hK46 => ?_
  refine region ?_
  refine s0 assignA rfl ?_
  refine nil ?_
  refine hK46 _ ?_
  clear hK46 K46
  refine block ?_
  refine loopH (KeepsT.A (k := 4) (KeepsT.A (k := 5) KeepsT.nil)) (fun (z : Nat × Nat) => [(6, .a (.d (.int .i64 ((z.2 : Nat) : Int))))]) (fun z => H) (fun z => z.1) (fun z => Z4_l47 a0 x5 s4_7 z.1 z.2 = some r) ((s4_7.length + 1), 0) hE Weak.toA ?_
  rintro ⟨n47, s6_48⟩ hE K47 hK47
  try dsimp only at hE
  cases n47 with
  | zero => cases hE
  | succ n47 =>
    rw [Z4_l47] at hE
    refine seqK fun K49 hK49 => ?_
    refine seqK fun K50 hK50 => ?_
    refine region ?_
    refine s0 moveA rfl ?_
    refine s0 moveA rfl ?_
    refine sLenS (TK rfl) rfl rfl rfl rfl fun hL51 => ?_
    refine s0 (binI rfl rfl rfl) rfl ?_
    refine nil ?_
    refine hK50 _ ?_
    clear hK50 K50
    refine condE hE rfl (fun hc52 hE => ?_) (fun hc52 hE => ?_)
    ·try dsimp only at hc52
     have hf52 := of_decide_eq_true hc52
     refine AWp.skip ?_
     refine hK49 _ ?_
     clear hK49 K49
     refine seqK fun K53 hK53 => ?_
     refine block ?_
     refine seqK fun K54 hK54 => ?_
     refine region ?_
     refine s0 moveA rfl ?_
     refine s0 moveA rfl ?_
     obtain ⟨x55, gx55, hE⟩ := bindO_some hE
     refine s0 (idxSn (n := s6_48) (TK rfl) rfl rfl rfl gx55) rfl ?_
     obtain ⟨x56, gx56, hE⟩ := bindO_some hE
     refine s0 (callP rfl rfl (fun H => Z7_walk gx56 H)) rfl ?_
     refine s0 (notB rfl) rfl ?_
     refine nil ?_
     refine hK54 _ ?_
     clear hK54 K54
     refine condE hE rfl (fun hc57 hE => ?_) (fun hc57 hE => ?_)
     ·refine seqK fun K58 hK58 => ?_
      refine region ?_
      refine s0 assignA rfl ?_
      refine s0 assignA rfl ?_
      refine nil ?_
      refine hK58 _ ?_
      clear hK58 K58
      refine AWp.ret ?_
      repeat (first | refine xBlock_ret ?_ | refine xThen_ret ?_)
      obtain rfl := Option.some.inj hE
      refine retQ.retF H rfl ⟨rfl, rfl⟩ ?_
      exact (fun _ _ h => h)
     refine AWp.skip ?_
     refine hK53 _ ?_
     clear hK53 K53
     refine region ?_
     refine s0 moveA rfl ?_
     refine s0 (addI rfl rfl (by first | omega | (dsimp only; omega) | (simp at *; omega)) (by first | omega | (dsimp only; omega) | (simp at *; omega))) rfl ?_
     refine s0 assignA rfl ?_
     refine nil ?_
     exact hK47 _ (n47, (s6_48 + 1)) Weak.toA hE (Nat.lt_succ_self _)
    refine AWp.exit ?_
    exact hK14 _ () Weak.toA hE
 rintro _ hE
 try dsimp only at hE
 unfold Z4_j14 at hE
 refine seqK fun K15 hK15 => ?_
 refine region ?_
 refine s0 assignA rfl ?_
 refine nil ?_
 refine hK15 _ ?_
 clear hK15 K15
 refine seqJH (KeepsT.A (k := 5) KeepsT.nil) (fun (z : Int) => [(7, .a (.d (.int .i64 z)))]) (fun z => H) (fun z => Z4_j16 a0 x5 z = some r) ?_ ?_
 ·intro K16 hK16
  refine seqK fun K27 hK27 => ?_
  refine region ?_
  refine s0 assignA rfl ?_
  refine nil ?_
  refine hK27 _ ?_
  clear hK27 K27
  refine block ?_
  refine loopH (KeepsT.A (k := 4) (KeepsT.A (k := 5) KeepsT.nil)) (fun (z : Nat × Int × Nat) => [(7, .a (.d (.int .i64 z.2.1))), (8, .a (.d (.int .i64 ((z.2.2 : Nat) : Int))))]) (fun z => H) (fun z => z.1) (fun z => Z4_l28 a0 x5 s4_7 z.1 z.2.1 z.2.2 = some r) ((s4_7.length + 1), (0 : Int), 0) hE Weak.toA ?_
  rintro ⟨n28, s7_29, s8_30⟩ hE K28 hK28
  try dsimp only at hE
  cases n28 with
  | zero => cases hE
  | succ n28 =>
    rw [Z4_l28] at hE
    refine seqK fun K31 hK31 => ?_
    refine seqK fun K32 hK32 => ?_
    refine region ?_
    refine s0 moveA rfl ?_
    refine s0 moveA rfl ?_
    refine sLenS (TK rfl) rfl rfl rfl rfl fun hL33 => ?_
    refine s0 (binI rfl rfl rfl) rfl ?_
    refine nil ?_
    refine hK32 _ ?_
    clear hK32 K32
    refine condE hE rfl (fun hc34 hE => ?_) (fun hc34 hE => ?_)
    ·try dsimp only at hc34
     have hf34 := of_decide_eq_true hc34
     refine AWp.skip ?_
     refine hK31 _ ?_
     clear hK31 K31
     refine seqK fun K35 hK35 => ?_
     refine block ?_
     refine seqK fun K36 hK36 => ?_
     refine region ?_
     refine s0 moveA rfl ?_
     refine s0 moveA rfl ?_
     obtain ⟨x37, gx37, hE⟩ := bindO_some hE
     refine s0 (idxSn (n := s8_30) (TK rfl) rfl rfl rfl gx37) rfl ?_
     refine s0 (convI (TK rfl) (TK rfl) rfl rfl) rfl ?_
     obtain ⟨x38, gx38, hE⟩ := bindO_some hE
     refine s0 (subM rfl rfl gx38) rfl ?_
     refine s0 assignA rfl ?_
     refine nil ?_
     refine hK36 _ ?_
     clear hK36 K36
     refine seqK fun K39 hK39 => ?_
     refine seqK fun K40 hK40 => ?_
     refine region ?_
     refine s0 moveA rfl ?_
     refine s0 moveA rfl ?_
     obtain ⟨x41, gx41, hE⟩ := bindO_some hE
     refine s0 (addM rfl rfl gx41) rfl ?_
     refine s0 (quoI rfl rfl (by decide)) rfl ?_
     refine s0 (binI rfl rfl rfl) rfl ?_
     refine nil ?_
     refine hK40 _ ?_
     clear hK40 K40
     refine condE hE rfl (fun hc42 hE => ?_) (fun hc42 hE => ?_)
     ·refine seqK fun K43 hK43 => ?_
      refine region ?_
      refine s0 assignA rfl ?_
      refine s0 assignA rfl ?_
      refine nil ?_
      refine hK43 _ ?_
      clear hK43 K43
      refine AWp.ret ?_
      repeat (first | refine xBlock_ret ?_ | refine xThen_ret ?_)
      obtain rfl := Option.some.inj hE
      refine retQ.retF H rfl ⟨rfl, rfl⟩ ?_
      exact (fun _ _ h => h)
     refine AWp.skip ?_
     refine hK39 _ ?_
     clear hK39 K39
     refine region ?_
     refine s0 moveA rfl ?_
     obtain ⟨x44, gx44, hE⟩ := bindO_some hE
     refine s0 (mulM rfl rfl gx44) rfl ?_
     refine s0 moveA rfl ?_
     obtain ⟨x45, gx45, hE⟩ := bindO_some hE
     refine s0 (subM rfl rfl gx45) rfl ?_
     refine s0 assignA rfl ?_
     refine nil ?_
     refine hK35 _ ?_
     clear hK35 K35
     refine region ?_
     refine s0 moveA rfl ?_
     refine s0 (addI rfl rfl (by first | omega | (dsimp only; omega) | (simp at *; omega)) (by first | omega | (dsimp only; omega) | (simp at *; omega))) rfl ?_
     refine s0 assignA rfl ?_
     refine nil ?_
     exact hK28 _ (n28, x45, (s8_30 + 1)) Weak.toA hE (Nat.lt_succ_self _)
    refine AWp.exit ?_
    exact hK16 _ s7_29 Weak.toA hE
 rintro s7_17 hE
 try dsimp only at hE
 unfold Z4_j16 at hE
 refine seqK fun K18 hK18 => ?_
 refine seqK fun K19 hK19 => ?_
 refine region ?_
 refine s0 moveA rfl ?_
 refine nil ?_
 refine hK19 _ ?_
 clear hK19 K19
 refine condE hE rfl (fun hc20 hE => ?_) (fun hc20 hE => ?_)
 ·refine seqK fun K21 hK21 => ?_
  refine region ?_
  refine s0 moveA rfl ?_
  refine s0 assignA rfl ?_
  refine s0 assignA rfl ?_
  refine nil ?_
  refine hK21 _ ?_
  clear hK21 K21
  refine AWp.ret ?_
  repeat (first | refine xBlock_ret ?_ | refine xThen_ret ?_)
  obtain rfl := Option.some.inj hE
  refine retQ.retF H rfl ⟨rfl, rfl⟩ ?_
  exact (fun _ _ h => h)
 refine AWp.skip ?_
 refine hK18 _ ?_
 clear hK18 K18
 refine seqK fun K22 hK22 => ?_
 refine seqK fun K23 hK23 => ?_
 refine region ?_
 refine s0 moveA rfl ?_
 refine s0 (binI rfl rfl rfl) rfl ?_
 refine nil ?_
 refine hK23 _ ?_
 clear hK23 K23
 refine condE hE rfl (fun hc24 hE => ?_) (fun hc24 hE => ?_)
 ·refine seqK fun K25 hK25 => ?_
  refine region ?_
  refine s0 assignA rfl ?_
  refine s0 assignA rfl ?_
  refine nil ?_
  refine hK25 _ ?_
  clear hK25 K25
  refine AWp.ret ?_
  repeat (first | refine xBlock_ret ?_ | refine xThen_ret ?_)
  obtain rfl := Option.some.inj hE
  refine retQ.retF H rfl ⟨rfl, rfl⟩ ?_
  exact (fun _ _ h => h)
 refine AWp.skip ?_
 refine hK22 _ ?_
 clear hK22 K22
 refine seqK fun K26 hK26 => ?_
 refine region ?_
 refine s0 moveA rfl ?_
 refine s0 (negI rfl) rfl ?_
 refine s0 assignA rfl ?_
 refine s0 assignA rfl ?_
 refine nil ?_
 refine hK26 _ ?_
 clear hK26 K26
 refine AWp.ret ?_
 repeat (first | refine xBlock_ret ?_ | refine xThen_ret ?_)
 obtain rfl := Option.some.inj hE
 refine retQ.retF H rfl ⟨rfl, rfl⟩ ?_
 exact (fun _ _ h => h)
def Z11_j4   : Option Int := some (-1 : Int)
def Z11_j18 (k_next_6 : Int → Option Int) (s1_19 : Int) : Option Int := (addC s1_19 (1 : Int)).bind fun x20 => k_next_6 x20
def Z11_l6 (a0 : Bs)  : Nat → Int → Option Int
 | 0, _ => none
 | n6 + 1, s1_7 => bif (decide (s1_7 < ((a0.length : Nat) : Int))) then ((idxC a0 s1_7).bind fun x14 => bif (decide (((x14.toNat : Nat) : Int) = (34 : Int))) then ((addC s1_7 (1 : Int)).bind fun x17 => some x17) else ((idxC a0 s1_7).bind fun x22 => bif (decide (((x22.toNat : Nat) : Int) = (92 : Int))) then ((addC s1_7 (1 : Int)).bind fun x24 => Z11_j18  ((Z11_l6 a0 n6)) x24) else (Z11_j18  ((Z11_l6 a0 n6)) s1_7))) else (Z11_j4   )
def Z11 (a0 : Bs) (a1 : Int) : Option Int := (addC a1 (1 : Int)).bind fun x3 => Z11_l6 a0 F0 x3
theorem Z11_walk {a0 : Bs} {a1 : Int}   {r : Int} (hE : Z11 a0 a1 = some r) (H : Heap)  : ACalls Tryz.prog 75 [.d (.str a0), .d (.int .i64 a1)] H fun v h' => v = .a (.d (.int .i64 r)) ∧ h' = H := by
 unfold Z11 at hE
 refine ACalls.of_wp (fn := Tryz.f75) (c := _) Tryz.tab_ok (fun _ _ => Tryz.call75 _ _) Tryz.func75 rfl (n := 25) rfl (rs := [.tmp 4]) rfl rfl ?_
 refine seqK fun K1 hK1 => ?_
 refine region ?_
 refine s0 assignA rfl ?_
 refine nil ?_
 refine hK1 _ ?_
 clear hK1 K1
 refine seqK fun K2 hK2 => ?_
 refine region ?_
 refine s0 moveA rfl ?_
 obtain ⟨x3, gx3, hE⟩ := bindO_some hE
 refine s0 (addM rfl rfl gx3) rfl ?_
 refine s0 assignA rfl ?_
 refine nil ?_
 refine hK2 _ ?_
 clear hK2 K2
 refine seqJH KeepsT.nil (fun (z : Unit) => []) (fun z => H) (fun z => Z11_j4  = some r) ?_ ?_
 ·intro K4 hK4
  refine block ?_
  refine loopH (KeepsT.A (k := 0) KeepsT.nil) (fun (z : Nat × Int) => [(1, .a (.d (.int .i64 z.2)))]) (fun z => H) (fun z => z.1) (fun z => Z11_l6 a0 z.1 z.2 = some r) (F0, x3) hE Weak.toA ?_
  rintro ⟨n6, s1_7⟩ hE K6 hK6
  try dsimp only at hE
  cases n6 with
  | zero => cases hE
  | succ n6 =>
    rw [Z11_l6] at hE
    refine seqK fun K8 hK8 => ?_
    refine seqK fun K9 hK9 => ?_
    refine region ?_
    refine s0 moveA rfl ?_
    refine s0 moveA rfl ?_
    refine sLenS (TK rfl) rfl rfl rfl rfl fun hL10 => ?_
    refine s0 (binI rfl rfl rfl) rfl ?_
    refine nil ?_
    refine hK9 _ ?_
    clear hK9 K9
    refine condE hE rfl (fun hc11 hE => ?_) (fun hc11 hE => ?_)
    ·refine AWp.skip ?_
     refine hK8 _ ?_
     clear hK8 K8
     refine block ?_
     refine seqK fun K12 hK12 => ?_
     refine seqK fun K13 hK13 => ?_
     refine region ?_
     refine s0 moveA rfl ?_
     refine s0 moveA rfl ?_
     obtain ⟨x14, gx14, hE⟩ := bindO_some hE
     refine s0 (idxS (TK rfl) rfl rfl rfl gx14) rfl ?_
     refine s0 (binI rfl rfl rfl) rfl ?_
     refine nil ?_
     refine hK13 _ ?_
     clear hK13 K13
     refine condE hE rfl (fun hc15 hE => ?_) (fun hc15 hE => ?_)
     ·refine seqK fun K16 hK16 => ?_
      refine region ?_
      refine s0 moveA rfl ?_
      obtain ⟨x17, gx17, hE⟩ := bindO_some hE
      refine s0 (addM rfl rfl gx17) rfl ?_
      refine s0 assignA rfl ?_
      refine nil ?_
      refine hK16 _ ?_
      clear hK16 K16
      refine AWp.ret ?_
      repeat (first | refine xBlock_ret ?_ | refine xThen_ret ?_)
      obtain rfl := Option.some.inj hE
      refine retQ.retF H rfl ⟨rfl, rfl⟩ ?_
      exact (fun _ _ h => h)
     refine AWp.skip ?_
     refine hK12 _ ?_
     clear hK12 K12
     refine seqJH (KeepsT.A (k := 0) KeepsT.nil) (fun (z : Int) => [(1, .a (.d (.int .i64 z)))]) (fun z => H) (fun z => Z11_j18  ((Z11_l6 a0 n6)) z = some r) ?_ ?_
     ·intro K18 hK18
      refine seqK fun K21 hK21 => ?_
      refine region ?_
      refine s0 moveA rfl ?_
      refine s0 moveA rfl ?_
      obtain ⟨x22, gx22, hE⟩ := bindO_some hE
      refine s0 (idxS (TK rfl) rfl rfl rfl gx22) rfl ?_
      refine s0 (binI rfl rfl rfl) rfl ?_
      refine nil ?_
      refine hK21 _ ?_
      clear hK21 K21
      refine condE hE rfl (fun hc23 hE => ?_) (fun hc23 hE => ?_)
      ·refine region ?_
       refine s0 moveA rfl ?_
       obtain ⟨x24, gx24, hE⟩ := bindO_some hE
       refine s0 (addM rfl rfl gx24) rfl ?_
       refine s0 assignA rfl ?_
       refine nil ?_
       exact hK18 _ x24 Weak.toA hE
      refine AWp.skip ?_
      exact hK18 _ s1_7 Weak.toA hE
     rintro s1_19 hE
     try dsimp only at hE
     unfold Z11_j18 at hE
     refine region ?_
     refine s0 moveA rfl ?_
     obtain ⟨x20, gx20, hE⟩ := bindO_some hE
     refine s0 (addM rfl rfl gx20) rfl ?_
     refine s0 assignA rfl ?_
     refine nil ?_
     exact hK6 _ (n6, x20) Weak.toA hE (Nat.lt_succ_self _)
    refine AWp.exit ?_
    exact hK4 _ () Weak.toA hE
 rintro _ hE
 try dsimp only at hE
 unfold Z11_j4 at hE
 refine seqK fun K5 hK5 => ?_
 refine region ?_
 refine s0 assignA rfl ?_
 refine nil ?_
 refine hK5 _ ?_
 clear hK5 K5
 refine AWp.ret ?_
 repeat (first | refine xBlock_ret ?_ | refine xThen_ret ?_)
 obtain rfl := Option.some.inj hE
 refine retQ.retF H rfl ⟨rfl, rfl⟩ ?_
 exact (fun _ _ h => h)
def Z8_j2   : Option (Int × Bool) := some ((0 : Int), false)
def Z8_j5 (a0 : Int)  (s5_6 : Bool) : Option (Int × Bool) := bif s5_6 then (some (a0, true)) else (bif (decide (a0 = (98 : Int))) then (some ((8 : Int), true)) else (bif (decide (a0 = (102 : Int))) then (some ((12 : Int), true)) else (bif (decide (a0 = (110 : Int))) then (some ((10 : Int), true)) else (bif (decide (a0 = (114 : Int))) then (some ((13 : Int), true)) else (bif (decide (a0 = (116 : Int))) then (some ((9 : Int), true)) else (Z8_j2   ))))))
def Z8 (a0 : Int) : Option (Int × Bool) := bif (decide (a0 = (34 : Int))) then (Z8_j5 a0  (decide (a0 = (34 : Int)))) else (bif (decide (a0 = (92 : Int))) then (Z8_j5 a0  (decide (a0 = (92 : Int)))) else (Z8_j5 a0  (decide (a0 = (47 : Int)))))
theorem Z8_walk {a0 : Int}   {r : (Int × Bool)} (hE : Z8 a0 = some r) (H : Heap)  : ACalls Tryz.prog 88 [.d (.int .u8 a0)] H fun v h' => v = .tup [.d (.int .u8 r.1), .d (.bool r.2)] ∧ h' = H := by
 unfold Z8 at hE
 refine ACalls.of_wp (fn := Tryz.f88) (c := _) Tryz.tab_ok (fun _ _ => Tryz.call88 _ _) Tryz.func88 rfl (n := 20) rfl (rs := [.tmp 2, .tmp 3]) rfl rfl ?_
 refine seqK fun K1 hK1 => ?_
 refine region ?_
 refine s0 assignA rfl ?_
 refine s0 assignA rfl ?_
 refine nil ?_
 refine hK1 _ ?_
 clear hK1 K1
 refine seqJH KeepsT.nil (fun (z : Unit) => []) (fun z => H) (fun z => Z8_j2  = some r) ?_ ?_
 ·intro K2 hK2
  refine seqK fun K4 hK4 => ?_
  refine region ?_
  refine s0 moveA rfl ?_
  refine nil ?_
  refine hK4 _ ?_
  clear hK4 K4
  refine block ?_
  refine seqJH (KeepsT.A (k := 0) (KeepsT.A (k := 4) KeepsT.nil)) (fun (z : Bool) => [(5, .a (.d (.bool z)))]) (fun z => H) (fun z => Z8_j5 a0 z = some r) ?_ ?_
  ·intro K5 hK5
   refine seqK fun K24 hK24 => ?_
   refine region ?_
   refine s0 (binI rfl rfl rfl) rfl ?_
   refine s0 assignA rfl ?_
   refine nil ?_
   refine hK24 _ ?_
   clear hK24 K24
   refine condE hE rfl (fun hc25 hE => ?_) (fun hc25 hE => ?_)
   ·refine AWp.skip ?_
    exact hK5 _ (decide (a0 = (34 : Int))) Weak.toA hE
   refine seqK fun K26 hK26 => ?_
   refine region ?_
   refine s0 (binI rfl rfl rfl) rfl ?_
   refine s0 assignA rfl ?_
   refine nil ?_
   refine hK26 _ ?_
   clear hK26 K26
   refine condE hE rfl (fun hc27 hE => ?_) (fun hc27 hE => ?_)
   ·refine AWp.skip ?_
    exact hK5 _ (decide (a0 = (92 : Int))) Weak.toA hE
   refine region ?_
   refine s0 (binI rfl rfl rfl) rfl ?_
   refine s0 assignA rfl ?_
   refine nil ?_
   exact hK5 _ (decide (a0 = (47 : Int))) Weak.toA hE
  rintro s5_6 hE
  try dsimp only at hE
  unfold Z8_j5 at hE
  refine condE hE rfl (fun hc7 hE => ?_) (fun hc7 hE => ?_)
  ·refine seqK fun K8 hK8 => ?_
   refine region ?_
   refine s0 moveA rfl ?_
   refine s0 assignA rfl ?_
   refine s0 assignA rfl ?_
   refine nil ?_
   refine hK8 _ ?_
   clear hK8 K8
   refine AWp.ret ?_
   repeat (first | refine xBlock_ret ?_ | refine xThen_ret ?_)
   obtain rfl := Option.some.inj hE
   refine retQ.retF H rfl ⟨rfl, rfl⟩ ?_
   exact (fun _ _ h => h)
  refine seqK fun K9 hK9 => ?_
  refine region ?_
  refine s0 (binI rfl rfl rfl) rfl ?_
  refine s0 assignA rfl ?_
  refine nil ?_
  refine hK9 _ ?_
  clear hK9 K9
  refine condE hE rfl (fun hc10 hE => ?_) (fun hc10 hE => ?_)
  ·refine seqK fun K11 hK11 => ?_
   refine region ?_
   refine s0 assignA rfl ?_
   refine s0 assignA rfl ?_
   refine nil ?_
   refine hK11 _ ?_
   clear hK11 K11
   refine AWp.ret ?_
   repeat (first | refine xBlock_ret ?_ | refine xThen_ret ?_)
   obtain rfl := Option.some.inj hE
   refine retQ.retF H rfl ⟨rfl, rfl⟩ ?_
   exact (fun _ _ h => h)
  refine seqK fun K12 hK12 => ?_
  refine region ?_
  refine s0 (binI rfl rfl rfl) rfl ?_
  refine s0 assignA rfl ?_
  refine nil ?_
  refine hK12 _ ?_
  clear hK12 K12
  refine condE hE rfl (fun hc13 hE => ?_) (fun hc13 hE => ?_)
  ·refine seqK fun K14 hK14 => ?_
   refine region ?_
   refine s0 assignA rfl ?_
   refine s0 assignA rfl ?_
   refine nil ?_
   refine hK14 _ ?_
   clear hK14 K14
   refine AWp.ret ?_
   repeat (first | refine xBlock_ret ?_ | refine xThen_ret ?_)
   obtain rfl := Option.some.inj hE
   refine retQ.retF H rfl ⟨rfl, rfl⟩ ?_
   exact (fun _ _ h => h)
  refine seqK fun K15 hK15 => ?_
  refine region ?_
  refine s0 (binI rfl rfl rfl) rfl ?_
  refine s0 assignA rfl ?_
  refine nil ?_
  refine hK15 _ ?_
  clear hK15 K15
  refine condE hE rfl (fun hc16 hE => ?_) (fun hc16 hE => ?_)
  ·refine seqK fun K17 hK17 => ?_
   refine region ?_
   refine s0 assignA rfl ?_
   refine s0 assignA rfl ?_
   refine nil ?_
   refine hK17 _ ?_
   clear hK17 K17
   refine AWp.ret ?_
   repeat (first | refine xBlock_ret ?_ | refine xThen_ret ?_)
   obtain rfl := Option.some.inj hE
   refine retQ.retF H rfl ⟨rfl, rfl⟩ ?_
   exact (fun _ _ h => h)
  refine seqK fun K18 hK18 => ?_
  refine region ?_
  refine s0 (binI rfl rfl rfl) rfl ?_
  refine s0 assignA rfl ?_
  refine nil ?_
  refine hK18 _ ?_
  clear hK18 K18
  refine condE hE rfl (fun hc19 hE => ?_) (fun hc19 hE => ?_)
  ·refine seqK fun K20 hK20 => ?_
   refine region ?_
   refine s0 assignA rfl ?_
   refine s0 assignA rfl ?_
   refine nil ?_
   refine hK20 _ ?_
   clear hK20 K20
   refine AWp.ret ?_
   repeat (first | refine xBlock_ret ?_ | refine xThen_ret ?_)
   obtain rfl := Option.some.inj hE
   refine retQ.retF H rfl ⟨rfl, rfl⟩ ?_
   exact (fun _ _ h => h)
  refine seqK fun K21 hK21 => ?_
  refine region ?_
  refine s0 (binI rfl rfl rfl) rfl ?_
  refine s0 assignA rfl ?_
  refine nil ?_
  refine hK21 _ ?_
  clear hK21 K21
  refine condE hE rfl (fun hc22 hE => ?_) (fun hc22 hE => ?_)
  ·refine seqK fun K23 hK23 => ?_
   refine region ?_
   refine s0 assignA rfl ?_
   refine s0 assignA rfl ?_
   refine nil ?_
   refine hK23 _ ?_
   clear hK23 K23
   refine AWp.ret ?_
   repeat (first | refine xBlock_ret ?_ | refine xThen_ret ?_)
   obtain rfl := Option.some.inj hE
   refine retQ.retF H rfl ⟨rfl, rfl⟩ ?_
   exact (fun _ _ h => h)
  refine AWp.skip ?_
  exact hK2 _ () Weak.toA hE
 rintro _ hE
 try dsimp only at hE
 unfold Z8_j2 at hE
 refine seqK fun K3 hK3 => ?_
 refine region ?_
 refine s0 assignA rfl ?_
 refine s0 assignA rfl ?_
 refine nil ?_
 refine hK3 _ ?_
 clear hK3 K3
 refine AWp.ret ?_
 repeat (first | refine xBlock_ret ?_ | refine xThen_ret ?_)
 obtain rfl := Option.some.inj hE
 refine retQ.retF H rfl ⟨rfl, rfl⟩ ?_
 exact (fun _ _ h => h)
def Z9 (a0 : Int) : Option Int := (Z7 a0).bind fun x4 => bif x4 then ((subC (IntKind.wrap .i64 a0) (48 : Int)).bind fun x7 => some x7) else (bif ((decide ((97 : Int) ≤ a0)) && (decide (a0 ≤ (102 : Int)))) then ((subC (IntKind.wrap .i64 a0) (87 : Int)).bind fun x12 => some x12) else (bif ((decide ((65 : Int) ≤ a0)) && (decide (a0 ≤ (70 : Int)))) then ((subC (IntKind.wrap .i64 a0) (55 : Int)).bind fun x17 => some x17) else (some (-1 : Int))))
theorem Z9_walk {a0 : Int}   {r : Int} (hE : Z9 a0 = some r) (H : Heap)  : ACalls Tryz.prog 97 [.d (.int .u8 a0)] H fun v h' => v = .a (.d (.int .i64 r)) ∧ h' = H := by
 unfold Z9 at hE
 refine ACalls.of_wp (fn := Tryz.f97) (c := _) Tryz.tab_ok (fun _ _ => Tryz.call97 _ _) Tryz.func97 rfl (n := 26) rfl (rs := [.tmp 2]) rfl rfl ?_
 refine seqK fun K1 hK1 => ?_
 refine region ?_
 refine s0 assignA rfl ?_
 refine nil ?_
 refine hK1 _ ?_
 clear hK1 K1
 refine seqK fun K2 hK2 => ?_
 refine seqK fun K3 hK3 => ?_
 refine region ?_
 refine s0 moveA rfl ?_
 obtain ⟨x4, gx4, hE⟩ := bindO_some hE
 refine s0 (callP rfl rfl (fun H => Z7_walk gx4 H)) rfl ?_
 refine nil ?_
 refine hK3 _ ?_
 clear hK3 K3
 refine condE hE rfl (fun hc5 hE => ?_) (fun hc5 hE => ?_)
 ·refine seqK fun K6 hK6 => ?_
  refine region ?_
  refine s0 moveA rfl ?_
  refine s0 (convI (TK rfl) (TK rfl) rfl rfl) rfl ?_
  obtain ⟨x7, gx7, hE⟩ := bindO_some hE
  refine s0 (subM rfl rfl gx7) rfl ?_
  refine s0 assignA rfl ?_
  refine nil ?_
  refine hK6 _ ?_
  clear hK6 K6
  refine AWp.ret ?_
  repeat (first | refine xBlock_ret ?_ | refine xThen_ret ?_)
  obtain rfl := Option.some.inj hE
  refine retQ.retF H rfl ⟨rfl, rfl⟩ ?_
  exact (fun _ _ h => h)
 refine AWp.skip ?_
 refine hK2 _ ?_
 clear hK2 K2
 refine seqK fun K8 hK8 => ?_
 refine seqK fun K9 hK9 => ?_
 refine region ?_
 refine s0 moveA rfl ?_
 refine s0 (binI rfl rfl rfl) rfl ?_
 refine s0 moveA rfl ?_
 refine gC rfl rfl (fun hC => moveA) rfl ?_
 refine gC rfl rfl (fun hC => ungdA (k := 11) rfl (binI rfl rfl rfl)) rfl ?_
 refine s0 (pickAndA rfl rfl rfl) rfl ?_
 refine nil ?_
 refine hK9 _ ?_
 clear hK9 K9
 refine condE hE rfl (fun hc10 hE => ?_) (fun hc10 hE => ?_)
 ·refine seqK fun K11 hK11 => ?_
  refine region ?_
  refine s0 moveA rfl ?_
  refine s0 (convI (TK rfl) (TK rfl) rfl rfl) rfl ?_
  obtain ⟨x12, gx12, hE⟩ := bindO_some hE
  refine s0 (subM rfl rfl gx12) rfl ?_
  refine s0 assignA rfl ?_
  refine nil ?_
  refine hK11 _ ?_
  clear hK11 K11
  refine AWp.ret ?_
  repeat (first | refine xBlock_ret ?_ | refine xThen_ret ?_)
  obtain rfl := Option.some.inj hE
  refine retQ.retF H rfl ⟨rfl, rfl⟩ ?_
  exact (fun _ _ h => h)
 refine AWp.skip ?_
 refine hK8 _ ?_
 clear hK8 K8
 refine seqK fun K13 hK13 => ?_
 refine seqK fun K14 hK14 => ?_
 refine region ?_
 refine s0 moveA rfl ?_
 refine s0 (binI rfl rfl rfl) rfl ?_
 refine s0 moveA rfl ?_
 refine gC rfl rfl (fun hC => moveA) rfl ?_
 refine gC rfl rfl (fun hC => ungdA (k := 20) rfl (binI rfl rfl rfl)) rfl ?_
 refine s0 (pickAndA rfl rfl rfl) rfl ?_
 refine nil ?_
 refine hK14 _ ?_
 clear hK14 K14
 refine condE hE rfl (fun hc15 hE => ?_) (fun hc15 hE => ?_)
 ·refine seqK fun K16 hK16 => ?_
  refine region ?_
  refine s0 moveA rfl ?_
  refine s0 (convI (TK rfl) (TK rfl) rfl rfl) rfl ?_
  obtain ⟨x17, gx17, hE⟩ := bindO_some hE
  refine s0 (subM rfl rfl gx17) rfl ?_
  refine s0 assignA rfl ?_
  refine nil ?_
  refine hK16 _ ?_
  clear hK16 K16
  refine AWp.ret ?_
  repeat (first | refine xBlock_ret ?_ | refine xThen_ret ?_)
  obtain rfl := Option.some.inj hE
  refine retQ.retF H rfl ⟨rfl, rfl⟩ ?_
  exact (fun _ _ h => h)
 refine AWp.skip ?_
 refine hK13 _ ?_
 clear hK13 K13
 refine seqK fun K18 hK18 => ?_
 refine region ?_
 refine s0 assignA rfl ?_
 refine nil ?_
 refine hK18 _ ?_
 clear hK18 K18
 refine AWp.ret ?_
 repeat (first | refine xBlock_ret ?_ | refine xThen_ret ?_)
 obtain rfl := Option.some.inj hE
 refine retQ.retF H rfl ⟨rfl, rfl⟩ ?_
 exact (fun _ _ h => h)
def Z6_j8  (s3_9 : Int) : Option Int := some s3_9
def Z6_l12 (a0 : Bs)  : Nat → Int → Int → Option Int
 | 0, _, _ => none
 | n12 + 1, s3_13, s4_14 => bif (decide (s4_14 < (4 : Int))) then ((idxC a0 s4_14).bind fun x21 => (Z9 ((x21.toNat : Nat) : Int)).bind fun x22 => bif (decide (x22 < (0 : Int))) then (some (-1 : Int)) else ((mulC (16 : Int) s3_13).bind fun x25 => (idxC a0 s4_14).bind fun x26 => (Z9 ((x26.toNat : Nat) : Int)).bind fun x27 => (addC x25 x27).bind fun x28 => (addC s4_14 (1 : Int)).bind fun x29 => (Z6_l12 a0 n12) x28 x29)) else (Z6_j8   s3_13)
def Z6 (a0 : Bs) : Option Int := bif (!decide (((a0.length : Nat) : Int) = (4 : Int))) then (some (-1 : Int)) else (Z6_l12 a0 F0 (0 : Int) (0 : Int))
theorem Z6_walk {a0 : Bs}   {r : Int} (hE : Z6 a0 = some r) (H : Heap)  : ACalls Tryz.prog 89 [.d (.str a0)] H fun v h' => v = .a (.d (.int .i64 r)) ∧ h' = H := by
 unfold Z6 at hE
 refine ACalls.of_wp (fn := Tryz.f89) (c := _) Tryz.tab_ok (fun _ _ => Tryz.call89 _ _) Tryz.func89 rfl (n := 25) rfl (rs := [.tmp 2]) rfl rfl ?_
 refine seqK fun K1 hK1 => ?_
 refine region ?_
 refine s0 assignA rfl ?_
 refine nil ?_
 refine hK1 _ ?_
 clear hK1 K1
 refine seqK fun K2 hK2 => ?_
 refine seqK fun K3 hK3 => ?_
 refine region ?_
 refine s0 moveA rfl ?_
 refine sLenS (TK rfl) rfl rfl rfl rfl fun hL4 => ?_
 refine s0 (binI rfl rfl rfl) rfl ?_
 refine nil ?_
 refine hK3 _ ?_
 clear hK3 K3
 refine condE hE rfl (fun hc5 hE => ?_) (fun hc5 hE => ?_)
 ·refine seqK fun K6 hK6 => ?_
  refine region ?_
  refine s0 assignA rfl ?_
  refine nil ?_
  refine hK6 _ ?_
  clear hK6 K6
  refine AWp.ret ?_
  repeat (first | refine xBlock_ret ?_ | refine xThen_ret ?_)
  obtain rfl := Option.some.inj hE
  refine retQ.retF H rfl ⟨rfl, rfl⟩ ?_
  exact (fun _ _ h => h)
 refine AWp.skip ?_
 refine hK2 _ ?_
 clear hK2 K2
 refine seqK fun K7 hK7 => ?_
 refine region ?_
 refine s0 assignA rfl ?_
 refine nil ?_
 refine hK7 _ ?_
 clear hK7 K7
 refine seqJH KeepsT.nil (fun (z : Int) => [(3, .a (.d (.int .i64 z)))]) (fun z => H) (fun z => Z6_j8 z = some r) ?_ ?_
 ·intro K8 hK8
  refine seqK fun K11 hK11 => ?_
  refine region ?_
  refine s0 assignA rfl ?_
  refine nil ?_
  refine hK11 _ ?_
  clear hK11 K11
  refine block ?_
  refine loopH (KeepsT.A (k := 0) KeepsT.nil) (fun (z : Nat × Int × Int) => [(3, .a (.d (.int .i64 z.2.1))), (4, .a (.d (.int .i64 z.2.2)))]) (fun z => H) (fun z => z.1) (fun z => Z6_l12 a0 z.1 z.2.1 z.2.2 = some r) (F0, (0 : Int), (0 : Int)) hE Weak.toA ?_
  rintro ⟨n12, s3_13, s4_14⟩ hE K12 hK12
  try dsimp only at hE
  cases n12 with
  | zero => cases hE
  | succ n12 =>
    rw [Z6_l12] at hE
    refine seqK fun K15 hK15 => ?_
    refine seqK fun K16 hK16 => ?_
    refine region ?_
    refine s0 moveA rfl ?_
    refine s0 (binI rfl rfl rfl) rfl ?_
    refine nil ?_
    refine hK16 _ ?_
    clear hK16 K16
    refine condE hE rfl (fun hc17 hE => ?_) (fun hc17 hE => ?_)
    ·refine AWp.skip ?_
     refine hK15 _ ?_
     clear hK15 K15
     refine seqK fun K18 hK18 => ?_
     refine block ?_
     refine seqK fun K19 hK19 => ?_
     refine seqK fun K20 hK20 => ?_
     refine region ?_
     refine s0 moveA rfl ?_
     refine s0 moveA rfl ?_
     obtain ⟨x21, gx21, hE⟩ := bindO_some hE
     refine s0 (idxS (TK rfl) rfl rfl rfl gx21) rfl ?_
     obtain ⟨x22, gx22, hE⟩ := bindO_some hE
     refine s0 (callP rfl rfl (fun H => Z9_walk gx22 H)) rfl ?_
     refine s0 (binI rfl rfl rfl) rfl ?_
     refine nil ?_
     refine hK20 _ ?_
     clear hK20 K20
     refine condE hE rfl (fun hc23 hE => ?_) (fun hc23 hE => ?_)
     ·refine seqK fun K24 hK24 => ?_
      refine region ?_
      refine s0 assignA rfl ?_
      refine nil ?_
      refine hK24 _ ?_
      clear hK24 K24
      refine AWp.ret ?_
      repeat (first | refine xBlock_ret ?_ | refine xThen_ret ?_)
      obtain rfl := Option.some.inj hE
      refine retQ.retF H rfl ⟨rfl, rfl⟩ ?_
      exact (fun _ _ h => h)
     refine AWp.skip ?_
     refine hK19 _ ?_
     clear hK19 K19
     refine region ?_
     refine s0 moveA rfl ?_
     obtain ⟨x25, gx25, hE⟩ := bindO_some hE
     refine s0 (mulM rfl rfl gx25) rfl ?_
     refine s0 moveA rfl ?_
     refine s0 moveA rfl ?_
     obtain ⟨x26, gx26, hE⟩ := bindO_some hE
     refine s0 (idxS (TK rfl) rfl rfl rfl gx26) rfl ?_
     obtain ⟨x27, gx27, hE⟩ := bindO_some hE
     refine s0 (callP rfl rfl (fun H => Z9_walk gx27 H)) rfl ?_
     obtain ⟨x28, gx28, hE⟩ := bindO_some hE
     refine s0 (addM rfl rfl gx28) rfl ?_
     refine s0 assignA rfl ?_
     refine nil ?_
     refine hK18 _ ?_
     clear hK18 K18
     refine region ?_
     refine s0 moveA rfl ?_
     obtain ⟨x29, gx29, hE⟩ := bindO_some hE
     refine s0 (addM rfl rfl gx29) rfl ?_
     refine s0 assignA rfl ?_
     refine nil ?_
     exact hK12 _ (n12, x28, x29) Weak.toA hE (Nat.lt_succ_self _)
    refine AWp.exit ?_
    exact hK8 _ s3_13 Weak.toA hE
 rintro s3_9 hE
 try dsimp only at hE
 unfold Z6_j8 at hE
 refine seqK fun K10 hK10 => ?_
 refine region ?_
 refine s0 moveA rfl ?_
 refine s0 assignA rfl ?_
 refine nil ?_
 refine hK10 _ ?_
 clear hK10 K10
 refine AWp.ret ?_
 repeat (first | refine xBlock_ret ?_ | refine xThen_ret ?_)
 obtain rfl := Option.some.inj hE
 refine retQ.retF H rfl ⟨rfl, rfl⟩ ?_
 exact (fun _ _ h => h)
end Go.Proofs

namespace Go.Proofs
open Go Go.Ab
open AOps Cert AWp
variable {lou : Lou}
def Z5_j16  (s5_17 : Bs) : Option (Bs × Int) := some (s5_17, (0 : Int))
def Z5_l19 (x13 : Bs)  : Nat → Bs → Int → Option (Bs × Int)
 | 0, _, _ => none
 | n19 + 1, s5_20, s6_21 => bif (decide (s6_21 < ((x13.length : Nat) : Int))) then ((idxC x13 s6_21).bind fun x27 => bif (((decide (((x27.toNat : Nat) : Int) < (32 : Int))) || (decide ((126 : Int) < ((x27.toNat : Nat) : Int)))) || (decide (((x27.toNat : Nat) : Int) = (34 : Int)))) then (some (([] : Bs), (3 : Int))) else (bif (!decide (((x27.toNat : Nat) : Int) = (92 : Int))) then ((catC s5_20 (bytesC (⟨false, [((x27.toNat : Nat) : Int)]⟩ : Sl Int))).bind fun x36 => (addC s6_21 (1 : Int)).bind fun x38 => (Z5_l19 x13 n19) x36 x38) else ((addC s6_21 (1 : Int)).bind fun x41 => bif (decide (((x13.length : Nat) : Int) ≤ x41)) then (some (([] : Bs), (3 : Int))) else ((addC s6_21 (1 : Int)).bind fun x46 => (idxC x13 x46).bind fun x47 => (Z8 ((x47.toNat : Nat) : Int)).bind fun x48 => bif x48.2 then ((catC s5_20 (bytesC (⟨false, [x48.1]⟩ : Sl Int))).bind fun x53 => (addC s6_21 (2 : Int)).bind fun x55 => (Z5_l19 x13 n19) x53 x55) else ((addC s6_21 (1 : Int)).bind fun x58 => (idxC x13 x58).bind fun x59 => guardO (!(!decide (((x59.toNat : Nat) : Int) = (117 : Int)))) (addC s6_21 (6 : Int)) (0 : Int) fun x60 => bif ((!decide (((x59.toNat : Nat) : Int) = (117 : Int))) || (decide (((x13.length : Nat) : Int) < x60))) then (some (([] : Bs), (3 : Int))) else ((addC s6_21 (2 : Int)).bind fun x64 => (addC s6_21 (6 : Int)).bind fun x65 => (cutC x13 (some x64) (some x65)).bind fun x66 => (Z6 x66).bind fun x67 => bif ((decide (x67 < (0 : Int))) || (decide ((255 : Int) < x67))) then (some (([] : Bs), (3 : Int))) else ((catC s5_20 (bytesC (⟨false, [(IntKind.wrap .u8 x67)]⟩ : Sl Int))).bind fun x73 => (addC s6_21 (6 : Int)).bind fun x74 => (Z5_l19 x13 n19) x73 x74))))))) else (Z5_j16   s5_20)
def Z5 (a0 : Bs) : Option (Bs × Int) := guardO (!(decide (((a0.length : Nat) : Int) < (2 : Int)))) (a0[0]?) (0 : UInt8) fun x5 => guardO (!((decide (((a0.length : Nat) : Int) < (2 : Int))) || (!decide (((x5.toNat : Nat) : Int) = (34 : Int))))) (subC ((a0.length : Nat) : Int) (1 : Int)) (0 : Int) fun x6 => guardO (!((decide (((a0.length : Nat) : Int) < (2 : Int))) || (!decide (((x5.toNat : Nat) : Int) = (34 : Int))))) (idxC a0 x6) (0 : UInt8) fun x7 => bif (((decide (((a0.length : Nat) : Int) < (2 : Int))) || (!decide (((x5.toNat : Nat) : Int) = (34 : Int)))) || (!decide (((x7.toNat : Nat) : Int) = (34 : Int)))) then (some (([] : Bs), (3 : Int))) else ((subC ((a0.length : Nat) : Int) (1 : Int)).bind fun x12 => (cutC a0 (some (1 : Int)) (some x12)).bind fun x13 => Z5_l19 x13 F0 ([] : Bs) (0 : Int))
theorem Z5_walk {a0 : Bs}   {r : (Bs × Int)} (hE : Z5 a0 = some r) (H : Heap)  : ACalls Tryz.prog 76 [.d (.str a0)] H fun v h' => v = .tup [.d (.str r.1), .d (.int .i64 r.2)] ∧ h' = H := by
 unfold Z5 at hE
 refine ACalls.of_wp (fn := Tryz.f76) (c := _) Tryz.tab_ok (fun _ _ => Tryz.call76 _ _) Tryz.func76 rfl (n := 113) rfl (rs := [.tmp 2, .tmp 3]) rfl rfl ?_
 refine seqK fun K1 hK1 => ?_
 refine region ?_
 refine s0 assignA rfl ?_
 refine s0 assignA rfl ?_
 refine nil ?_
 refine hK1 _ ?_
 clear hK1 K1
 refine seqK fun K2 hK2 => ?_
 refine seqK fun K3 hK3 => ?_
 refine region ?_
 refine s0 moveA rfl ?_
 refine sLenS (TK rfl) rfl rfl rfl rfl fun hL4 => ?_
 refine s0 (binI rfl rfl rfl) rfl ?_
 refine s0 moveA rfl ?_
 refine gC rfl rfl (fun hC => moveA) rfl ?_
 obtain ⟨x5, gx5, hE⟩ := guardO_some hE
 refine gC rfl rfl (fun hC => ungdA (k := 15) rfl (idxSn (n := 0) (TK rfl) rfl rfl rfl (gx5 hC))) rfl ?_
 refine gC rfl rfl (fun hC => ungdA (k := 16) rfl (binI rfl rfl rfl)) rfl ?_
 refine s0 (pickOrA rfl rfl rfl) rfl ?_
 refine s0 moveA rfl ?_
 refine gC rfl rfl (fun hC => moveA) rfl ?_
 refine gC rfl rfl (fun hC => moveA) rfl ?_
 refine gC rfl rfl (fun hC => ungdA (k := 21) rfl (lenS (TK rfl) rfl rfl rfl)) rfl ?_
 obtain ⟨x6, gx6, hE⟩ := guardO_some hE
 refine gC rfl rfl (fun hC => ungdA (k := 22) rfl (subM rfl rfl (gx6 hC))) rfl ?_
 obtain ⟨x7, gx7, hE⟩ := guardO_some hE
 refine gC rfl rfl (fun hC => ungdA (k := 20) rfl (ungdA (k := 23) rfl (idxS (TK rfl) rfl rfl rfl (gx7 hC)))) rfl ?_
 refine gC rfl rfl (fun hC => ungdA (k := 24) rfl (binI rfl rfl rfl)) rfl ?_
 refine s0 (pickOrA rfl rfl rfl) rfl ?_
 refine nil ?_
 refine hK3 _ ?_
 clear hK3 K3
 refine condE hE rfl (fun hc8 hE => ?_) (fun hc8 hE => ?_)
 ·refine seqK fun K9 hK9 => ?_
  refine region ?_
  refine s0 assignA rfl ?_
  refine s0 assignA rfl ?_
  refine nil ?_
  refine hK9 _ ?_
  clear hK9 K9
  refine AWp.ret ?_
  repeat (first | refine xBlock_ret ?_ | refine xThen_ret ?_)
  obtain rfl := Option.some.inj hE
  refine retQ.retF H rfl ⟨rfl, rfl⟩ ?_
  exact (fun _ _ h => h)
 refine AWp.skip ?_
 refine hK2 _ ?_
 clear hK2 K2
 refine seqK fun K10 hK10 => ?_
 refine region ?_
 refine s0 moveA rfl ?_
 refine s0 moveA rfl ?_
 refine sLenS (TK rfl) rfl rfl rfl rfl fun hL11 => ?_
 obtain ⟨x12, gx12, hE⟩ := bindO_some hE
 refine s0 (subM rfl rfl gx12) rfl ?_
 obtain ⟨x13, gx13, hE⟩ := bindO_some hE
 refine s0 (cutM (l := (some (1 : Int))) (r := (some x12)) (TK rfl) rfl rfl rfl rfl (by simp) gx13) rfl ?_
 refine s0 assignA rfl ?_
 refine nil ?_
 refine hK10 _ ?_
 clear hK10 K10
 refine seqK fun K14 hK14 => ?_
 refine region ?_
 refine s0 assignA rfl ?_
 refine nil ?_
 refine hK14 _ ?_
 clear hK14 K14
 refine seqK fun K15 hK15 => ?_
 refine region ?_
 refine s0 assignA rfl ?_
 refine nil ?_
 refine hK15 _ ?_
 clear hK15 K15
 refine seqJH KeepsT.nil (fun (z : Bs) => [(5, .a (.d (.str z)))]) (fun z => H) (fun z => Z5_j16 z = some r) ?_ ?_
 ·intro K16 hK16
  refine block ?_
  refine loopH (KeepsT.A (k := 4) KeepsT.nil) (fun (z : Nat × Bs × Int) => [(5, .a (.d (.str z.2.1))), (6, .a (.d (.int .i64 z.2.2)))]) (fun z => H) (fun z => z.1) (fun z => Z5_l19 x13 z.1 z.2.1 z.2.2 = some r) (F0, ([] : Bs), (0 : Int)) hE Weak.toA ?_
  rintro ⟨n19, s5_20, s6_21⟩ hE K19 hK19
  try dsimp only at hE
  cases n19 with
  | zero => cases hE
  | succ n19 =>
    rw [Z5_l19] at hE
    refine seqK fun K22 hK22 => ?_
    refine seqK fun K23 hK23 => ?_
    refine region ?_
    refine s0 moveA rfl ?_
    refine s0 moveA rfl ?_
    refine sLenS (TK rfl) rfl rfl rfl rfl fun hL24 => ?_
    refine s0 (binI rfl rfl rfl) rfl ?_
    refine nil ?_
    refine hK23 _ ?_
    clear hK23 K23
    refine condE hE rfl (fun hc25 hE => ?_) (fun hc25 hE => ?_)
    ·refine AWp.skip ?_
     refine hK22 _ ?_
     clear hK22 K22
     refine block ?_
     refine seqK fun K26 hK26 => ?_
     refine region ?_
     refine s0 moveA rfl ?_
     refine s0 moveA rfl ?_
     obtain ⟨x27, gx27, hE⟩ := bindO_some hE
     refine s0 (idxS (TK rfl) rfl rfl rfl gx27) rfl ?_
     refine s0 assignA rfl ?_
     refine nil ?_
     refine hK26 _ ?_
     clear hK26 K26
     refine seqK fun K28 hK28 => ?_
     refine seqK fun K29 hK29 => ?_
     refine region ?_
     refine s0 moveA rfl ?_
     refine s0 (binI rfl rfl rfl) rfl ?_
     refine s0 moveA rfl ?_
     refine gC rfl rfl (fun hC => moveA) rfl ?_
     refine gC rfl rfl (fun hC => ungdA (k := 42) rfl (binI rfl rfl rfl)) rfl ?_
     refine s0 (pickOrA rfl rfl rfl) rfl ?_
     refine s0 moveA rfl ?_
     refine gC rfl rfl (fun hC => moveA) rfl ?_
     refine gC rfl rfl (fun hC => ungdA (k := 46) rfl (binI rfl rfl rfl)) rfl ?_
     refine s0 (pickOrA rfl rfl rfl) rfl ?_
     refine nil ?_
     refine hK29 _ ?_
     clear hK29 K29
     refine condE hE rfl (fun hc30 hE => ?_) (fun hc30 hE => ?_)
     ·refine seqK fun K31 hK31 => ?_
      refine region ?_
      refine s0 assignA rfl ?_
      refine s0 assignA rfl ?_
      refine nil ?_
      refine hK31 _ ?_
      clear hK31 K31
      refine AWp.ret ?_
      repeat (first | refine xBlock_ret ?_ | refine xThen_ret ?_)
      obtain rfl := Option.some.inj hE
      refine retQ.retF H rfl ⟨rfl, rfl⟩ ?_
      exact (fun _ _ h => h)
     refine AWp.skip ?_
     refine hK28 _ ?_
     clear hK28 K28
     refine seqK fun K32 hK32 => ?_
     refine seqK fun K33 hK33 => ?_
     refine region ?_
     refine s0 moveA rfl ?_
     refine s0 (binI rfl rfl rfl) rfl ?_
     refine nil ?_
     refine hK33 _ ?_
     clear hK33 K33
     refine condE hE rfl (fun hc34 hE => ?_) (fun hc34 hE => ?_)
     ·refine seqK fun K35 hK35 => ?_
      refine region ?_
      refine s0 moveA rfl ?_
      refine s0 moveA rfl ?_
      refine s0 (buildSlice (TK rfl) rfl (TK rfl) rfl rfl rfl rfl rfl rfl) rfl ?_
      refine s0 (convB (y := (⟨false, [((x27.toNat : Nat) : Int)]⟩ : Sl Int)) (TK rfl) rfl (TK rfl) rfl (TK rfl) rfl rfl) rfl ?_
      obtain ⟨x36, gx36, hE⟩ := bindO_some hE
      refine s0 (catM rfl rfl gx36) rfl ?_
      refine s0 assignA rfl ?_
      refine nil ?_
      refine hK35 _ ?_
      clear hK35 K35
      refine seqK fun K37 hK37 => ?_
      refine region ?_
      refine s0 moveA rfl ?_
      obtain ⟨x38, gx38, hE⟩ := bindO_some hE
      refine s0 (addM rfl rfl gx38) rfl ?_
      refine s0 assignA rfl ?_
      refine nil ?_
      refine hK37 _ ?_
      clear hK37 K37
      refine AWp.exit ?_
      exact hK19 _ (n19, x36, x38) Weak.toA hE (Nat.lt_succ_self _)
     refine AWp.skip ?_
     refine hK32 _ ?_
     clear hK32 K32
     refine seqK fun K39 hK39 => ?_
     refine seqK fun K40 hK40 => ?_
     refine region ?_
     refine s0 moveA rfl ?_
     obtain ⟨x41, gx41, hE⟩ := bindO_some hE
     refine s0 (addM rfl rfl gx41) rfl ?_
     refine s0 moveA rfl ?_
     refine sLenS (TK rfl) rfl rfl rfl rfl fun hL42 => ?_
     refine s0 (binI rfl rfl rfl) rfl ?_
     refine nil ?_
     refine hK40 _ ?_
     clear hK40 K40
     refine condE hE rfl (fun hc43 hE => ?_) (fun hc43 hE => ?_)
     ·refine seqK fun K44 hK44 => ?_
      refine region ?_
      refine s0 assignA rfl ?_
      refine s0 assignA rfl ?_
      refine nil ?_
      refine hK44 _ ?_
      clear hK44 K44
      refine AWp.ret ?_
      repeat (first | refine xBlock_ret ?_ | refine xThen_ret ?_)
      obtain rfl := Option.some.inj hE
      refine retQ.retF H rfl ⟨rfl, rfl⟩ ?_
      exact (fun _ _ h => h)
     refine AWp.skip ?_
     refine hK39 _ ?_
     clear hK39 K39
     refine seqK fun K45 hK45 => ?_
     refine region ?_
     refine s0 moveA rfl ?_
     refine s0 moveA rfl ?_
     obtain ⟨x46, gx46, hE⟩ := bindO_some hE
     refine s0 (addM rfl rfl gx46) rfl ?_
     obtain ⟨x47, gx47, hE⟩ := bindO_some hE
     refine s0 (idxS (TK rfl) rfl rfl rfl gx47) rfl ?_
     obtain ⟨x48, gx48, hE⟩ := bindO_some hE
     refine s0 (callP rfl rfl (fun H => Z8_walk gx48 H)) rfl ?_
     refine s0 moveA rfl ?_
     refine s0 (extract rfl rfl) rfl ?_
     refine s0 (extract rfl rfl) rfl ?_
     refine s0 assignA rfl ?_
     refine s0 assignA rfl ?_
     refine nil ?_
     refine hK45 _ ?_
     clear hK45 K45
     refine seqK fun K49 hK49 => ?_
     refine seqK fun K50 hK50 => ?_
     refine region ?_
     refine s0 moveA rfl ?_
     refine nil ?_
     refine hK50 _ ?_
     clear hK50 K50
     refine condE hE rfl (fun hc51 hE => ?_) (fun hc51 hE => ?_)
     ·refine seqK fun K52 hK52 => ?_
      refine region ?_
      refine s0 moveA rfl ?_
      refine s0 moveA rfl ?_
      refine s0 (buildSlice (TK rfl) rfl (TK rfl) rfl rfl rfl rfl rfl rfl) rfl ?_
      refine s0 (convB (y := (⟨false, [x48.1]⟩ : Sl Int)) (TK rfl) rfl (TK rfl) rfl (TK rfl) rfl rfl) rfl ?_
      obtain ⟨x53, gx53, hE⟩ := bindO_some hE
      refine s0 (catM rfl rfl gx53) rfl ?_
      refine s0 assignA rfl ?_
      refine nil ?_
      refine hK52 _ ?_
      clear hK52 K52
      refine seqK fun K54 hK54 => ?_
      refine region ?_
      refine s0 moveA rfl ?_
      obtain ⟨x55, gx55, hE⟩ := bindO_some hE
      refine s0 (addM rfl rfl gx55) rfl ?_
      refine s0 assignA rfl ?_
      refine nil ?_
      refine hK54 _ ?_
      clear hK54 K54
      refine AWp.exit ?_
      exact hK19 _ (n19, x53, x55) Weak.toA hE (Nat.lt_succ_self _)
     refine AWp.skip ?_
     refine hK49 _ ?_
     clear hK49 K49
     refine seqK fun K56 hK56 => ?_
     refine seqK fun K57 hK57 => ?_
     refine region ?_
     refine s0 moveA rfl ?_
     refine s0 moveA rfl ?_
     obtain ⟨x58, gx58, hE⟩ := bindO_some hE
     refine s0 (addM rfl rfl gx58) rfl ?_
     obtain ⟨x59, gx59, hE⟩ := bindO_some hE
     refine s0 (idxS (TK rfl) rfl rfl rfl gx59) rfl ?_
     refine s0 (binI rfl rfl rfl) rfl ?_
     refine s0 moveA rfl ?_
     refine gC rfl rfl (fun hC => moveA) rfl ?_
     obtain ⟨x60, gx60, hE⟩ := guardO_some hE
     refine gC rfl rfl (fun hC => ungdA (k := 85) rfl (addM rfl rfl (gx60 hC))) rfl ?_
     refine gC rfl rfl (fun hC => moveA) rfl ?_
     refine gC rfl rfl (fun hC => ungdA (k := 87) rfl (lenS (TK rfl) rfl rfl rfl)) rfl ?_
     refine gC rfl rfl (fun hC => ungdA (k := 86) rfl (ungdA (k := 88) rfl (binI rfl rfl rfl))) rfl ?_
     refine s0 (pickOrA rfl rfl rfl) rfl ?_
     refine nil ?_
     refine hK57 _ ?_
     clear hK57 K57
     refine condE hE rfl (fun hc61 hE => ?_) (fun hc61 hE => ?_)
     ·refine seqK fun K62 hK62 => ?_
      refine region ?_
      refine s0 assignA rfl ?_
      refine s0 assignA rfl ?_
      refine nil ?_
      refine hK62 _ ?_
      clear hK62 K62
      refine AWp.ret ?_
      repeat (first | refine xBlock_ret ?_ | refine xThen_ret ?_)
      obtain rfl := Option.some.inj hE
      refine retQ.retF H rfl ⟨rfl, rfl⟩ ?_
      exact (fun _ _ h => h)
     refine AWp.skip ?_
     refine hK56 _ ?_
     clear hK56 K56
     refine seqK fun K63 hK63 => ?_
     refine region ?_
     refine s0 moveA rfl ?_
     refine s0 moveA rfl ?_
     obtain ⟨x64, gx64, hE⟩ := bindO_some hE
     refine s0 (addM rfl rfl gx64) rfl ?_
     refine s0 moveA rfl ?_
     obtain ⟨x65, gx65, hE⟩ := bindO_some hE
     refine s0 (addM rfl rfl gx65) rfl ?_
     obtain ⟨x66, gx66, hE⟩ := bindO_some hE
     refine s0 (cutM (l := (some x64)) (r := (some x65)) (TK rfl) rfl rfl rfl rfl (by simp) gx66) rfl ?_
     obtain ⟨x67, gx67, hE⟩ := bindO_some hE
     refine s0 (callP rfl rfl (fun H => Z6_walk gx67 H)) rfl ?_
     refine s0 assignA rfl ?_
     refine nil ?_
     refine hK63 _ ?_
     clear hK63 K63
     refine seqK fun K68 hK68 => ?_
     refine seqK fun K69 hK69 => ?_
     refine region ?_
     refine s0 moveA rfl ?_
     refine s0 (binI rfl rfl rfl) rfl ?_
     refine s0 moveA rfl ?_
     refine gC rfl rfl (fun hC => moveA) rfl ?_
     refine gC rfl rfl (fun hC => ungdA (k := 101) rfl (binI rfl rfl rfl)) rfl ?_
     refine s0 (pickOrA rfl rfl rfl) rfl ?_
     refine nil ?_
     refine hK69 _ ?_
     clear hK69 K69
     refine condE hE rfl (fun hc70 hE => ?_) (fun hc70 hE => ?_)
     ·refine seqK fun K71 hK71 => ?_
      refine region ?_
      refine s0 assignA rfl ?_
      refine s0 assignA rfl ?_
      refine nil ?_
      refine hK71 _ ?_
      clear hK71 K71
      refine AWp.ret ?_
      repeat (first | refine xBlock_ret ?_ | refine xThen_ret ?_)
      obtain rfl := Option.some.inj hE
      refine retQ.retF H rfl ⟨rfl, rfl⟩ ?_
      exact (fun _ _ h => h)
     refine AWp.skip ?_
     refine hK68 _ ?_
     clear hK68 K68
     refine seqK fun K72 hK72 => ?_
     refine region ?_
     refine s0 moveA rfl ?_
     refine s0 moveA rfl ?_
     refine s0 (convI (TK rfl) (TK rfl) rfl rfl) rfl ?_
     refine s0 (buildSlice (TK rfl) rfl (TK rfl) rfl rfl rfl rfl rfl rfl) rfl ?_
     refine s0 (convB (y := (⟨false, [(IntKind.wrap .u8 x67)]⟩ : Sl Int)) (TK rfl) rfl (TK rfl) rfl (TK rfl) rfl rfl) rfl ?_
     obtain ⟨x73, gx73, hE⟩ := bindO_some hE
     refine s0 (catM rfl rfl gx73) rfl ?_
     refine s0 assignA rfl ?_
     refine nil ?_
     refine hK72 _ ?_
     clear hK72 K72
     refine region ?_
     refine s0 moveA rfl ?_
     obtain ⟨x74, gx74, hE⟩ := bindO_some hE
     refine s0 (addM rfl rfl gx74) rfl ?_
     refine s0 assignA rfl ?_
     refine nil ?_
     exact hK19 _ (n19, x73, x74) Weak.toA hE (Nat.lt_succ_self _)
    refine AWp.exit ?_
    exact hK16 _ s5_20 Weak.toA hE
 rintro s5_17 hE
 try dsimp only at hE
 unfold Z5_j16 at hE
 refine seqK fun K18 hK18 => ?_
 refine region ?_
 refine s0 moveA rfl ?_
 refine s0 assignA rfl ?_
 refine s0 assignA rfl ?_
 refine nil ?_
 refine hK18 _ ?_
 clear hK18 K18
 refine AWp.ret ?_
 repeat (first | refine xBlock_ret ?_ | refine xThen_ret ?_)
 obtain rfl := Option.some.inj hE
 refine retQ.retF H rfl ⟨rfl, rfl⟩ ?_
 exact (fun _ _ h => h)
def Z14 (a0 : Bs) (a1 : Int) : Option (R04_Token × Int × Int) := (idxC a0 a1).bind fun x3 => (Z15 ((x3.toNat : Nat) : Int)).bind fun x6 => bif x6 then ((addC a1 (1 : Int)).bind fun x9 => (cutC a0 (some a1) (some x9)).bind fun x10 => (addC a1 (1 : Int)).bind fun x11 => some ((R04_Token.mk (1 : Int) x10 a1), x11, (0 : Int))) else (guardO ((decide (((x3.toNat : Nat) : Int) = (46 : Int)))) (addC a1 (3 : Int)) (0 : Int) fun x14 => guardO (((decide (((x3.toNat : Nat) : Int) = (46 : Int))) && (decide (x14 ≤ ((a0.length : Nat) : Int))))) (addC a1 (3 : Int)) (0 : Int) fun x15 => guardO (((decide (((x3.toNat : Nat) : Int) = (46 : Int))) && (decide (x14 ≤ ((a0.length : Nat) : Int))))) (cutC a0 (some a1) (some x15)) ([] : Bs) fun x16 => bif (((decide (((x3.toNat : Nat) : Int) = (46 : Int))) && (decide (x14 ≤ ((a0.length : Nat) : Int)))) && ((x16 == ([46, 46, 46] : Bs)))) then ((addC a1 (3 : Int)).bind fun x19 => some ((R04_Token.mk (1 : Int) ([46, 46, 46] : Bs) a1), x19, (0 : Int))) else ((Z13 ((x3.toNat : Nat) : Int)).bind fun x22 => bif x22 then ((Z18 a0 a1).bind fun x25 => (subC x25 a1).bind fun x28 => bif (decide ((64 : Int) < x28)) then (some ((R04_Token.mk (0 : Int) ([] : Bs) (0 : Int)), (0 : Int), (3 : Int))) else ((cutC a0 (some a1) (some x25)).bind fun x32 => some ((R04_Token.mk (2 : Int) x32 a1), x25, (0 : Int)))) else ((Z12 ((x3.toNat : Nat) : Int)).bind fun x35 => bif (x35 || (decide (((x3.toNat : Nat) : Int) = (45 : Int)))) then ((addC a1 (1 : Int)).bind fun x38 => (Z18 a0 x38).bind fun x39 => (cutC a0 (some a1) (some x39)).bind fun x41 => (Z4 x41).bind fun x42 => (cutC a0 (some a1) (some x39)).bind fun x44 => some ((R04_Token.mk (3 : Int) x44 a1), x39, x42.2)) else (bif (decide (((x3.toNat : Nat) : Int) = (34 : Int))) then ((Z11 a0 a1).bind fun x49 => bif (decide (x49 < (0 : Int))) then (some ((R04_Token.mk (0 : Int) ([] : Bs) (0 : Int)), (0 : Int), (3 : Int))) else ((cutC a0 (some a1) (some x49)).bind fun x55 => (Z5 x55).bind fun x56 => some ((R04_Token.mk (4 : Int) x56.1 a1), x49, x56.2))) else (some ((R04_Token.mk (0 : Int) ([] : Bs) (0 : Int)), (0 : Int), (3 : Int)))))))
theorem Z14_walk {a0 : Bs} {a1 : Int}   {r : (R04_Token × Int × Int)} (hE : Z14 a0 a1 = some r) (H : Heap)  : ACalls Tryz.prog 57 [.d (.str a0), .d (.int .i64 a1)] H fun v h' => v = .tup [.agg (R04_Token.c r.1), .d (.int .i64 r.2.1), .d (.int .i64 r.2.2)] ∧ h' = H := by
 unfold Z14 at hE
 refine ACalls.of_wp (fn := Tryz.f57) (c := _) Tryz.tab_ok (fun _ _ => Tryz.call57 _ _) Tryz.func57 rfl (n := 115) rfl (rs := [.cell 4 68, .tmp 5, .tmp 6]) rfl rfl ?_
 refine seqK fun K1 hK1 => ?_
 refine region ?_
 refine sL (allocLA (TK rfl) rfl) rfl ?_
 refine s0 assignA rfl ?_
 refine s0 assignA rfl ?_
 refine nil ?_
 refine hK1 _ ?_
 clear hK1 K1
 refine seqK fun K2 hK2 => ?_
 refine region ?_
 refine s0 moveA rfl ?_
 refine s0 moveA rfl ?_
 obtain ⟨x3, gx3, hE⟩ := bindO_some hE
 refine s0 (idxS (TK rfl) rfl rfl rfl gx3) rfl ?_
 refine s0 assignA rfl ?_
 refine nil ?_
 refine hK2 _ ?_
 clear hK2 K2
 refine seqK fun K4 hK4 => ?_
 refine seqK fun K5 hK5 => ?_
 refine region ?_
 refine s0 moveA rfl ?_
 obtain ⟨x6, gx6, hE⟩ := bindO_some hE
 refine s0 (callP rfl rfl (fun H => Z15_walk gx6 H)) rfl ?_
 refine nil ?_
 refine hK5 _ ?_
 clear hK5 K5
 refine condE hE rfl (fun hc7 hE => ?_) (fun hc7 hE => ?_)
 ·refine seqK fun K8 hK8 => ?_
  refine region ?_
  refine s0 moveA rfl ?_
  refine s0 moveA rfl ?_
  refine s0 moveA rfl ?_
  obtain ⟨x9, gx9, hE⟩ := bindO_some hE
  refine s0 (addM rfl rfl gx9) rfl ?_
  obtain ⟨x10, gx10, hE⟩ := bindO_some hE
  refine s0 (cutM (l := (some a1)) (r := (some x9)) (TK rfl) rfl rfl rfl rfl (by simp) gx10) rfl ?_
  refine s0 moveA rfl ?_
  refine s0 (build Tryz.tab_ok rfl rfl rfl rfl rfl rfl) rfl ?_
  refine s0 moveA rfl ?_
  obtain ⟨x11, gx11, hE⟩ := bindO_some hE
  refine s0 (addM rfl rfl gx11) rfl ?_
  refine sLn (storeLFA (TK rfl) rfl rfl rfl rfl rfl) ?_
  refine s0 assignA rfl ?_
  refine s0 assignA rfl ?_
  refine nil ?_
  refine hK8 _ ?_
  clear hK8 K8
  refine AWp.ret ?_
  repeat (first | refine xBlock_ret ?_ | refine xThen_ret ?_)
  obtain rfl := Option.some.inj hE
  refine retQ.retF H rfl ⟨rfl, rfl⟩ ?_
  exact (fun _ _ h => h)
 refine AWp.skip ?_
 refine hK4 _ ?_
 clear hK4 K4
 refine seqK fun K12 hK12 => ?_
 refine seqK fun K13 hK13 => ?_
 refine region ?_
 refine s0 moveA rfl ?_
 refine s0 (binI rfl rfl rfl) rfl ?_
 refine s0 moveA rfl ?_
 refine gC rfl rfl (fun hC => moveA) rfl ?_
 obtain ⟨x14, gx14, hE⟩ := guardO_some hE
 refine gC rfl rfl (fun hC => ungdA (k := 32) rfl (addM rfl rfl (gx14 hC))) rfl ?_
 refine gC rfl rfl (fun hC => moveA) rfl ?_
 refine gC rfl rfl (fun hC => ungdA (k := 34) rfl (lenS (TK rfl) rfl rfl rfl)) rfl ?_
 refine gC rfl rfl (fun hC => ungdA (k := 33) rfl (ungdA (k := 35) rfl (binI rfl rfl rfl))) rfl ?_
 refine s0 (pickAndA rfl rfl rfl) rfl ?_
 refine s0 moveA rfl ?_
 refine gC rfl rfl (fun hC => moveA) rfl ?_
 refine gC rfl rfl (fun hC => moveA) rfl ?_
 refine gC rfl rfl (fun hC => moveA) rfl ?_
 obtain ⟨x15, gx15, hE⟩ := guardO_some hE
 refine gC rfl rfl (fun hC => ungdA (k := 41) rfl (addM rfl rfl (gx15 hC))) rfl ?_
 obtain ⟨x16, gx16, hE⟩ := guardO_some hE
 refine gC rfl rfl (fun hC => ungdA (k := 39) rfl (ungdA (k := 40) rfl (ungdA (k := 42) rfl (cutM (l := (some a1)) (r := (some x15)) (TK rfl) rfl rfl rfl rfl (by simp) (gx16 hC))))) rfl ?_
 refine gC rfl rfl (fun hC => ungdA (k := 43) rfl (binS rfl rfl rfl)) rfl ?_
 refine s0 (pickAndA rfl rfl rfl) rfl ?_
 refine nil ?_
 refine hK13 _ ?_
 clear hK13 K13
 refine condE hE rfl (fun hc17 hE => ?_) (fun hc17 hE => ?_)
 ·refine seqK fun K18 hK18 => ?_
  refine region ?_
  refine s0 moveA rfl ?_
  refine s0 (build Tryz.tab_ok rfl rfl rfl rfl rfl rfl) rfl ?_
  refine s0 moveA rfl ?_
  obtain ⟨x19, gx19, hE⟩ := bindO_some hE
  refine s0 (addM rfl rfl gx19) rfl ?_
  refine sLn (storeLFA (TK rfl) rfl rfl rfl rfl rfl) ?_
  refine s0 assignA rfl ?_
  refine s0 assignA rfl ?_
  refine nil ?_
  refine hK18 _ ?_
  clear hK18 K18
  refine AWp.ret ?_
  repeat (first | refine xBlock_ret ?_ | refine xThen_ret ?_)
  obtain rfl := Option.some.inj hE
  refine retQ.retF H rfl ⟨rfl, rfl⟩ ?_
  exact (fun _ _ h => h)
 refine AWp.skip ?_
 refine hK12 _ ?_
 clear hK12 K12
 refine seqK fun K20 hK20 => ?_
 refine seqK fun K21 hK21 => ?_
 refine region ?_
 refine s0 moveA rfl ?_
 obtain ⟨x22, gx22, hE⟩ := bindO_some hE
 refine s0 (callP rfl rfl (fun H => Z13_walk gx22 H)) rfl ?_
 refine nil ?_
 refine hK21 _ ?_
 clear hK21 K21
 refine condE hE rfl (fun hc23 hE => ?_) (fun hc23 hE => ?_)
 ·refine seqK fun K24 hK24 => ?_
  refine region ?_
  refine s0 moveA rfl ?_
  refine s0 moveA rfl ?_
  obtain ⟨x25, gx25, hE⟩ := bindO_some hE
  refine s0 (callP rfl rfl (fun H => Z18_walk gx25 H)) rfl ?_
  refine s0 assignA rfl ?_
  refine nil ?_
  refine hK24 _ ?_
  clear hK24 K24
  refine seqK fun K26 hK26 => ?_
  refine seqK fun K27 hK27 => ?_
  refine region ?_
  refine s0 moveA rfl ?_
  refine s0 moveA rfl ?_
  obtain ⟨x28, gx28, hE⟩ := bindO_some hE
  refine s0 (subM rfl rfl gx28) rfl ?_
  refine s0 (binI rfl rfl rfl) rfl ?_
  refine nil ?_
  refine hK27 _ ?_
  clear hK27 K27
  refine condE hE rfl (fun hc29 hE => ?_) (fun hc29 hE => ?_)
  ·refine seqK fun K30 hK30 => ?_
   refine region ?_
   refine s0 (build Tryz.tab_ok rfl rfl rfl rfl rfl rfl) rfl ?_
   refine sLn (storeLFA (TK rfl) rfl rfl rfl rfl rfl) ?_
   refine s0 assignA rfl ?_
   refine s0 assignA rfl ?_
   refine nil ?_
   refine hK30 _ ?_
   clear hK30 K30
   refine AWp.ret ?_
   repeat (first | refine xBlock_ret ?_ | refine xThen_ret ?_)
   obtain rfl := Option.some.inj hE
   refine retQ.retF H rfl ⟨rfl, rfl⟩ ?_
   exact (fun _ _ h => h)
  refine AWp.skip ?_
  refine hK26 _ ?_
  clear hK26 K26
  refine seqK fun K31 hK31 => ?_
  refine region ?_
  refine s0 moveA rfl ?_
  refine s0 moveA rfl ?_
  refine s0 moveA rfl ?_
  obtain ⟨x32, gx32, hE⟩ := bindO_some hE
  refine s0 (cutM (l := (some a1)) (r := (some x25)) (TK rfl) rfl rfl rfl rfl (by simp) gx32) rfl ?_
  refine s0 moveA rfl ?_
  refine s0 (build Tryz.tab_ok rfl rfl rfl rfl rfl rfl) rfl ?_
  refine s0 moveA rfl ?_
  refine sLn (storeLFA (TK rfl) rfl rfl rfl rfl rfl) ?_
  refine s0 assignA rfl ?_
  refine s0 assignA rfl ?_
  refine nil ?_
  refine hK31 _ ?_
  clear hK31 K31
  refine AWp.ret ?_
  repeat (first | refine xBlock_ret ?_ | refine xThen_ret ?_)
  obtain rfl := Option.some.inj hE
  refine retQ.retF H rfl ⟨rfl, rfl⟩ ?_
  exact (fun _ _ h => h)
 refine AWp.skip ?_
 refine hK20 _ ?_
 clear hK20 K20
 refine seqK fun K33 hK33 => ?_
 refine seqK fun K34 hK34 => ?_
 refine region ?_
 refine s0 moveA rfl ?_
 obtain ⟨x35, gx35, hE⟩ := bindO_some hE
 refine s0 (callP rfl rfl (fun H => Z12_walk gx35 H)) rfl ?_
 refine s0 moveA rfl ?_
 refine gC rfl rfl (fun hC => moveA) rfl ?_
 refine gC rfl rfl (fun hC => ungdA (k := 70) rfl (binI rfl rfl rfl)) rfl ?_
 refine s0 (pickOrA rfl rfl rfl) rfl ?_
 refine nil ?_
 refine hK34 _ ?_
 clear hK34 K34
 refine condE hE rfl (fun hc36 hE => ?_) (fun hc36 hE => ?_)
 ·refine seqK fun K37 hK37 => ?_
  refine region ?_
  refine s0 moveA rfl ?_
  refine s0 moveA rfl ?_
  obtain ⟨x38, gx38, hE⟩ := bindO_some hE
  refine s0 (addM rfl rfl gx38) rfl ?_
  obtain ⟨x39, gx39, hE⟩ := bindO_some hE
  refine s0 (callP rfl rfl (fun H => Z18_walk gx39 H)) rfl ?_
  refine s0 assignA rfl ?_
  refine nil ?_
  refine hK37 _ ?_
  clear hK37 K37
  refine seqK fun K40 hK40 => ?_
  refine region ?_
  refine s0 moveA rfl ?_
  refine s0 moveA rfl ?_
  refine s0 moveA rfl ?_
  obtain ⟨x41, gx41, hE⟩ := bindO_some hE
  refine s0 (cutM (l := (some a1)) (r := (some x39)) (TK rfl) rfl rfl rfl rfl (by simp) gx41) rfl ?_
  obtain ⟨x42, gx42, hE⟩ := bindO_some hE
  refine s0 (callP rfl rfl (fun H => Z4_walk gx42 H)) rfl ?_
  refine s0 moveA rfl ?_
  refine s0 (extract rfl rfl) rfl ?_
  refine s0 (extract rfl rfl) rfl ?_
  refine s0 assignA rfl ?_
  refine s0 assignA rfl ?_
  refine nil ?_
  refine hK40 _ ?_
  clear hK40 K40
  refine seqK fun K43 hK43 => ?_
  refine region ?_
  refine s0 moveA rfl ?_
  refine s0 moveA rfl ?_
  refine s0 moveA rfl ?_
  obtain ⟨x44, gx44, hE⟩ := bindO_some hE
  refine s0 (cutM (l := (some a1)) (r := (some x39)) (TK rfl) rfl rfl rfl rfl (by simp) gx44) rfl ?_
  refine s0 moveA rfl ?_
  refine s0 (build Tryz.tab_ok rfl rfl rfl rfl rfl rfl) rfl ?_
  refine s0 moveA rfl ?_
  refine s0 moveA rfl ?_
  refine sLn (storeLFA (TK rfl) rfl rfl rfl rfl rfl) ?_
  refine s0 assignA rfl ?_
  refine s0 assignA rfl ?_
  refine nil ?_
  refine hK43 _ ?_
  clear hK43 K43
  refine AWp.ret ?_
  repeat (first | refine xBlock_ret ?_ | refine xThen_ret ?_)
  obtain rfl := Option.some.inj hE
  refine retQ.retF H rfl ⟨rfl, rfl⟩ ?_
  exact (fun _ _ h => h)
 refine AWp.skip ?_
 refine hK33 _ ?_
 clear hK33 K33
 refine seqK fun K45 hK45 => ?_
 refine seqK fun K46 hK46 => ?_
 refine region ?_
 refine s0 moveA rfl ?_
 refine s0 (binI rfl rfl rfl) rfl ?_
 refine nil ?_
 refine hK46 _ ?_
 clear hK46 K46
 refine condE hE rfl (fun hc47 hE => ?_) (fun hc47 hE => ?_)
 ·refine seqK fun K48 hK48 => ?_
  refine region ?_
  refine s0 moveA rfl ?_
  refine s0 moveA rfl ?_
  obtain ⟨x49, gx49, hE⟩ := bindO_some hE
  refine s0 (callP rfl rfl (fun H => Z11_walk gx49 H)) rfl ?_
  refine s0 assignA rfl ?_
  refine nil ?_
  refine hK48 _ ?_
  clear hK48 K48
  refine seqK fun K50 hK50 => ?_
  refine seqK fun K51 hK51 => ?_
  refine region ?_
  refine s0 moveA rfl ?_
  refine s0 (binI rfl rfl rfl) rfl ?_
  refine nil ?_
  refine hK51 _ ?_
  clear hK51 K51
  refine condE hE rfl (fun hc52 hE => ?_) (fun hc52 hE => ?_)
  ·refine seqK fun K53 hK53 => ?_
   refine region ?_
   refine s0 (build Tryz.tab_ok rfl rfl rfl rfl rfl rfl) rfl ?_
   refine sLn (storeLFA (TK rfl) rfl rfl rfl rfl rfl) ?_
   refine s0 assignA rfl ?_
   refine s0 assignA rfl ?_
   refine nil ?_
   refine hK53 _ ?_
   clear hK53 K53
   refine AWp.ret ?_
   repeat (first | refine xBlock_ret ?_ | refine xThen_ret ?_)
   obtain rfl := Option.some.inj hE
   refine retQ.retF H rfl ⟨rfl, rfl⟩ ?_
   exact (fun _ _ h => h)
  refine AWp.skip ?_
  refine hK50 _ ?_
  clear hK50 K50
  refine seqK fun K54 hK54 => ?_
  refine region ?_
  refine s0 moveA rfl ?_
  refine s0 moveA rfl ?_
  refine s0 moveA rfl ?_
  obtain ⟨x55, gx55, hE⟩ := bindO_some hE
  refine s0 (cutM (l := (some a1)) (r := (some x49)) (TK rfl) rfl rfl rfl rfl (by simp) gx55) rfl ?_
  obtain ⟨x56, gx56, hE⟩ := bindO_some hE
  refine s0 (callP rfl rfl (fun H => Z5_walk gx56 H)) rfl ?_
  refine s0 moveA rfl ?_
  refine s0 (extract rfl rfl) rfl ?_
  refine s0 (extract rfl rfl) rfl ?_
  refine s0 assignA rfl ?_
  refine s0 assignA rfl ?_
  refine nil ?_
  refine hK54 _ ?_
  clear hK54 K54
  refine seqK fun K57 hK57 => ?_
  refine region ?_
  refine s0 moveA rfl ?_
  refine s0 moveA rfl ?_
  refine s0 (build Tryz.tab_ok rfl rfl rfl rfl rfl rfl) rfl ?_
  refine s0 moveA rfl ?_
  refine s0 moveA rfl ?_
  refine sLn (storeLFA (TK rfl) rfl rfl rfl rfl rfl) ?_
  refine s0 assignA rfl ?_
  refine s0 assignA rfl ?_
  refine nil ?_
  refine hK57 _ ?_
  clear hK57 K57
  refine AWp.ret ?_
  repeat (first | refine xBlock_ret ?_ | refine xThen_ret ?_)
  obtain rfl := Option.some.inj hE
  refine retQ.retF H rfl ⟨rfl, rfl⟩ ?_
  exact (fun _ _ h => h)
 refine AWp.skip ?_
 refine hK45 _ ?_
 clear hK45 K45
 refine seqK fun K58 hK58 => ?_
 refine region ?_
 refine s0 (build Tryz.tab_ok rfl rfl rfl rfl rfl rfl) rfl ?_
 refine sLn (storeLFA (TK rfl) rfl rfl rfl rfl rfl) ?_
 refine s0 assignA rfl ?_
 refine s0 assignA rfl ?_
 refine nil ?_
 refine hK58 _ ?_
 clear hK58 K58
 refine AWp.ret ?_
 repeat (first | refine xBlock_ret ?_ | refine xThen_ret ?_)
 obtain rfl := Option.some.inj hE
 refine retQ.retF H rfl ⟨rfl, rfl⟩ ?_
 exact (fun _ _ h => h)
end Go.Proofs
