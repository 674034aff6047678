import Derived.Test.YtjlggcgmmpopmaaDoorV5
set_option maxRecDepth 100000
set_option maxHeartbeats 2000000
set_option linter.unusedVariables false
set_option linter.unusedSimpArgs false
namespace Go.Proofs
open Go Go.Ab
open AOps Cert AWp
variable {lou : Lou}
def Z36_j32  (s3_33 : Bs) : Option Bs := (catC s3_33 ([93] : Bs)).bind fun x35 => some x35
def Z36_j44 (s4_39 : Nat) (k_next_37 : Bs → Nat → Option Bs) (s3_45 : Bs) : Option Bs := k_next_37 s3_45 (s4_39 + 1)
def Z36_j46 (a0 : TValue) (s4_39 : Nat) (k_next_37 : Bs → Nat → Option Bs) (k_rec_23 : TValue → Option Bs) (s3_47 : Bs) : Option Bs := (a0.FItems.l[s4_39]?).bind fun x48 => (k_rec_23 x48).bind fun x49 => (catC s3_47 x49).bind fun x50 => Z36_j44 s4_39 k_next_37 x50
def Z36_l37 (a0 : TValue) (k_rec_23 : TValue → Option Bs) : Nat → Bs → Nat → Option Bs
 | 0, _, _ => none
 | n37 + 1, s3_38, s4_39 => bif (decide (((s4_39 : Nat) : Int) < ((a0.FItems.l.length : Nat) : Int))) then (bif (decide ((0 : Int) < ((s4_39 : Nat) : Int))) then ((catC s3_38 ([44, 32] : Bs)).bind fun x53 => Z36_j46 a0 s4_39 ((Z36_l37 a0 k_rec_23 n37)) k_rec_23 x53) else (Z36_j46 a0 s4_39 ((Z36_l37 a0 k_rec_23 n37)) k_rec_23 s3_38)) else (Z36_j32   s3_38)
def Z36_j57  (s5_58 : Bs) : Option Bs := (catC s5_58 ([125] : Bs)).bind fun x60 => some x60
def Z36_j69 (s6_64 : Nat) (k_next_62 : Bs → Nat → Option Bs) (s5_70 : Bs) : Option Bs := k_next_62 s5_70 (s6_64 + 1)
def Z36_j71 (a0 : TValue) (s6_64 : Nat) (k_next_62 : Bs → Nat → Option Bs) (k_rec_23 : TValue → Option Bs) (s5_72 : Bs) : Option Bs := (a0.FKeys.l[s6_64]?).bind fun x73 => (catC s5_72 x73).bind fun x74 => (catC x74 ([58, 32] : Bs)).bind fun x75 => (a0.FItems.l[s6_64]?).bind fun x76 => (k_rec_23 x76).bind fun x77 => (catC x75 x77).bind fun x78 => Z36_j69 s6_64 k_next_62 x78
def Z36_l62 (a0 : TValue) (k_rec_23 : TValue → Option Bs) : Nat → Bs → Nat → Option Bs
 | 0, _, _ => none
 | n62 + 1, s5_63, s6_64 => bif ((decide (((s6_64 : Nat) : Int) < ((a0.FItems.l.length : Nat) : Int))) && (decide (((s6_64 : Nat) : Int) < ((a0.FKeys.l.length : Nat) : Int)))) then (bif (decide ((0 : Int) < ((s6_64 : Nat) : Int))) then ((catC s5_63 ([44, 32] : Bs)).bind fun x81 => Z36_j71 a0 s6_64 ((Z36_l62 a0 k_rec_23 n62)) k_rec_23 x81) else (Z36_j71 a0 s6_64 ((Z36_l62 a0 k_rec_23 n62)) k_rec_23 s5_63)) else (Z36_j57   s5_63)
def Z36_n : Nat → TValue → Option Bs
 | 0, _ => none
 | n + 1, a0 => bif (decide (a0.FKind = (0 : Int))) then (some ([110, 117, 108, 108] : Bs)) else (bif (decide (a0.FKind = (1 : Int))) then (bif (decide (a0.FInt = (0 : Int))) then (some ([102, 97, 108, 115, 101] : Bs)) else (some ([116, 114, 117, 101] : Bs))) else (bif (decide (a0.FKind = (2 : Int))) then ((Z18 a0.FInt).bind fun x17 => some x17) else (bif (decide (a0.FKind = (3 : Int))) then ((Z20 a0.FText).bind fun x21 => some x21) else (bif (decide (a0.FKind = (4 : Int))) then (some a0.FText) else (bif (decide (a0.FKind = (7 : Int))) then ((catC ([36] : Bs) a0.FText).bind fun x28 => some x28) else (bif (decide (a0.FKind = (5 : Int))) then (Z36_l37 a0 (Z36_n n) (a0.FItems.l.length + 1) ([91] : Bs) 0) else (bif (decide (a0.FKind = (6 : Int))) then (Z36_l62 a0 (Z36_n n) (a0.FItems.l.length + 1) ([123] : Bs) 0) else (some ([] : Bs)))))))))
theorem Z36_step (n : Nat) (ih_23 : ∀ {a0 : TValue}   {r : Bs}, Z36_n n a0 = some r → ∀ (H : Heap), ACalls Tryd.prog 23 [.agg (TValue.c a0)] H fun v h' => v = .a (.d (.str r)) ∧ h' = H) : ∀ {a0 : TValue}   {r : Bs}, Z36_n (n + 1) a0 = some r → ∀ (H : Heap), ACalls Tryd.prog 23 [.agg (TValue.c a0)] H fun v h' => v = .a (.d (.str r)) ∧ h' = H := by
 intro a0   r hE H 
 rw [Z36_n] at hE
 refine ACalls.of_wp (fn := Tryd.f23) (c := _) Tryd.tab_ok (fun _ _ => Tryd.call23 _ _) Tryd.func23 rfl (n := 95) rfl (rs := [.tmp 2]) rfl rfl ?_
 refine seqK fun K1 hK1 => ?_
 refine region ?_
 refine s0 (boxV rfl) rfl ?_
 refine s0 assignA rfl ?_
 refine nil ?_
 refine hK1 _ ?_
 clear hK1 K1
 refine seqK fun K2 hK2 => ?_
 refine seqK fun K3 hK3 => ?_
 refine region ?_
 refine s0 (fieldVA (TK rfl) rfl rfl (TK rfl) rfl rfl) rfl ?_
 refine s0 (loadV (TK rfl) rfl rfl rfl) rfl ?_
 refine nil ?_
 refine hK3 _ ?_
 clear hK3 K3
 refine block ?_
 refine seqK fun K4 hK4 => ?_
 refine region ?_
 refine s0 (binI rfl rfl rfl) rfl ?_
 refine s0 assignA rfl ?_
 refine nil ?_
 refine hK4 _ ?_
 clear hK4 K4
 refine condE hE rfl (fun hc5 hE => ?_) (fun hc5 hE => ?_)
 ·refine seqK fun K6 hK6 => ?_
  refine region ?_
  refine s0 assignA rfl ?_
  refine nil ?_
  refine hK6 _ ?_
  clear hK6 K6
  refine AWp.ret ?_
  repeat (first | refine xBlock_ret ?_ | refine xThen_ret ?_)
  obtain rfl := Option.some.inj hE
  refine retQ.retF H rfl ⟨rfl, rfl⟩ ?_
  exact (fun _ _ h => h)
 refine seqK fun K7 hK7 => ?_
 refine region ?_
 refine s0 (binI rfl rfl rfl) rfl ?_
 refine s0 assignA rfl ?_
 refine nil ?_
 refine hK7 _ ?_
 clear hK7 K7
 refine condE hE rfl (fun hc8 hE => ?_) (fun hc8 hE => ?_)
 ·refine seqK fun K9 hK9 => ?_
  refine seqK fun K10 hK10 => ?_
  refine region ?_
  refine s0 (fieldVA (TK rfl) rfl rfl (TK rfl) rfl rfl) rfl ?_
  refine s0 (loadV (TK rfl) rfl rfl rfl) rfl ?_
  refine s0 (binI rfl rfl rfl) rfl ?_
  refine nil ?_
  refine hK10 _ ?_
  clear hK10 K10
  refine condE hE rfl (fun hc11 hE => ?_) (fun hc11 hE => ?_)
  ·refine seqK fun K12 hK12 => ?_
   refine region ?_
   refine s0 assignA rfl ?_
   refine nil ?_
   refine hK12 _ ?_
   clear hK12 K12
   refine AWp.ret ?_
   repeat (first | refine xBlock_ret ?_ | refine xThen_ret ?_)
   obtain rfl := Option.some.inj hE
   refine retQ.retF H rfl ⟨rfl, rfl⟩ ?_
   exact (fun _ _ h => h)
  refine AWp.skip ?_
  refine hK9 _ ?_
  clear hK9 K9
  refine seqK fun K13 hK13 => ?_
  refine region ?_
  refine s0 assignA rfl ?_
  refine nil ?_
  refine hK13 _ ?_
  clear hK13 K13
  refine AWp.ret ?_
  repeat (first | refine xBlock_ret ?_ | refine xThen_ret ?_)
  obtain rfl := Option.some.inj hE
  refine retQ.retF H rfl ⟨rfl, rfl⟩ ?_
  exact (fun _ _ h => h)
 refine seqK fun K14 hK14 => ?_
 refine region ?_
 refine s0 (binI rfl rfl rfl) rfl ?_
 refine s0 assignA rfl ?_
 refine nil ?_
 refine hK14 _ ?_
 clear hK14 K14
 refine condE hE rfl (fun hc15 hE => ?_) (fun hc15 hE => ?_)
 ·refine seqK fun K16 hK16 => ?_
  refine region ?_
  refine s0 (fieldVA (TK rfl) rfl rfl (TK rfl) rfl rfl) rfl ?_
  refine s0 (loadV (TK rfl) rfl rfl rfl) rfl ?_
  obtain ⟨x17, gx17, hE⟩ := bindO_some hE
  refine s0 (callP rfl rfl (fun H => Z18_walk gx17 H)) rfl ?_
  refine s0 assignA rfl ?_
  refine nil ?_
  refine hK16 _ ?_
  clear hK16 K16
  refine AWp.ret ?_
  repeat (first | refine xBlock_ret ?_ | refine xThen_ret ?_)
  obtain rfl := Option.some.inj hE
  refine retQ.retF H rfl ⟨rfl, rfl⟩ ?_
  exact (fun _ _ h => h)
 refine seqK fun K18 hK18 => ?_
 refine region ?_
 refine s0 (binI rfl rfl rfl) rfl ?_
 refine s0 assignA rfl ?_
 refine nil ?_
 refine hK18 _ ?_
 clear hK18 K18
 refine condE hE rfl (fun hc19 hE => ?_) (fun hc19 hE => ?_)
 ·refine seqK fun K20 hK20 => ?_
  refine region ?_
  refine s0 (fieldVA (TK rfl) rfl rfl (TK rfl) rfl rfl) rfl ?_
  refine s0 (loadV (TK rfl) rfl rfl rfl) rfl ?_
  obtain ⟨x21, gx21, hE⟩ := bindO_some hE
  refine s0 (callP rfl rfl (fun H => Z20_walk gx21 H)) rfl ?_
  refine s0 assignA rfl ?_
  refine nil ?_
  refine hK20 _ ?_
  clear hK20 K20
  refine AWp.ret ?_
  repeat (first | refine xBlock_ret ?_ | refine xThen_ret ?_)
  obtain rfl := Option.some.inj hE
  refine retQ.retF H rfl ⟨rfl, rfl⟩ ?_
  exact (fun _ _ h => h)
 refine seqK fun K22 hK22 => ?_
 refine region ?_
 refine s0 (binI rfl rfl rfl) rfl ?_
 refine s0 assignA rfl ?_
 refine nil ?_
 refine hK22 _ ?_
 clear hK22 K22
 refine condE hE rfl (fun hc23 hE => ?_) (fun hc23 hE => ?_)
 ·refine seqK fun K24 hK24 => ?_
  refine region ?_
  refine s0 (fieldVA (TK rfl) rfl rfl (TK rfl) rfl rfl) rfl ?_
  refine s0 (loadV (TK rfl) rfl rfl rfl) rfl ?_
  refine s0 assignA rfl ?_
  refine nil ?_
  refine hK24 _ ?_
  clear hK24 K24
  refine AWp.ret ?_
  repeat (first | refine xBlock_ret ?_ | refine xThen_ret ?_)
  obtain rfl := Option.some.inj hE
  refine retQ.retF H rfl ⟨rfl, rfl⟩ ?_
  exact (fun _ _ h => h)
 refine seqK fun K25 hK25 => ?_
 refine region ?_
 refine s0 (binI rfl rfl rfl) rfl ?_
 refine s0 assignA rfl ?_
 refine nil ?_
 refine hK25 _ ?_
 clear hK25 K25
 refine condE hE rfl (fun hc26 hE => ?_) (fun hc26 hE => ?_)
 ·refine seqK fun K27 hK27 => ?_
  refine region ?_
  refine s0 (fieldVA (TK rfl) rfl rfl (TK rfl) rfl rfl) rfl ?_
  refine s0 (loadV (TK rfl) rfl rfl rfl) rfl ?_
  obtain ⟨x28, gx28, hE⟩ := bindO_some hE
  refine s0 (catM rfl rfl gx28) rfl ?_
  refine s0 assignA rfl ?_
  refine nil ?_
  refine hK27 _ ?_
  clear hK27 K27
  refine AWp.ret ?_
  repeat (first | refine xBlock_ret ?_ | refine xThen_ret ?_)
  obtain rfl := Option.some.inj hE
  refine retQ.retF H rfl ⟨rfl, rfl⟩ ?_
  exact (fun _ _ h => h)
 refine seqK fun K29 hK29 => ?_
 refine region ?_
 refine s0 (binI rfl rfl rfl) rfl ?_
 refine s0 assignA rfl ?_
 refine nil ?_
 refine hK29 _ ?_
 clear hK29 K29
 refine condE hE rfl (fun hc30 hE => ?_) (fun hc30 hE => ?_)
 ·refine seqK fun K31 hK31 => ?_
  refine region ?_
  refine s0 assignA rfl ?_
  refine nil ?_
  refine hK31 _ ?_
  clear hK31 K31
  refine seqJH KeepsT.nil (fun (z : Bs) => [(3, .a (.d (.str z)))]) (fun z => H) (fun z => Z36_j32 z = some r) ?_ ?_
  ·intro K32 hK32
   refine seqK fun K36 hK36 => ?_
   refine region ?_
   refine s0 assignA rfl ?_
   refine nil ?_
   refine hK36 _ ?_
   clear hK36 K36
   refine block ?_
   refine loopH (KeepsT.A (k := 1) KeepsT.nil) (fun (z : Nat × Bs × Nat) => [(3, .a (.d (.str z.2.1))), (4, .a (.d (.int .i64 ((z.2.2 : Nat) : Int))))]) (fun z => H) (fun z => z.1) (fun z => Z36_l37 a0 (Z36_n n) z.1 z.2.1 z.2.2 = some r) ((a0.FItems.l.length + 1), ([91] : Bs), 0) hE Weak.toA ?_
   rintro ⟨n37, s3_38, s4_39⟩ hE K37 hK37
   try dsimp only at hE
   cases n37 with
   | zero => cases hE
   | succ n37 =>
     rw [Z36_l37] at hE
     refine seqK fun K40 hK40 => ?_
     refine seqK fun K41 hK41 => ?_
     refine region ?_
     refine s0 moveA rfl ?_
     refine s0 (fieldVA (TK rfl) rfl rfl (TK rfl) rfl rfl) rfl ?_
     refine s0 (loadV (TK rfl) rfl rfl (congrArg (fun x => some (A.d x)) (TValue.FItemsD_eq _))) rfl ?_
     refine sLen (f := TValue.c) (s := a0.FItems) (TK rfl) rfl rfl rfl rfl fun hL42 => ?_
     refine s0 (binI rfl rfl rfl) rfl ?_
     refine nil ?_
     refine hK41 _ ?_
     clear hK41 K41
     refine condE hE rfl (fun hc43 hE => ?_) (fun hc43 hE => ?_)
     ·try dsimp only at hc43
      have hf43 := of_decide_eq_true hc43
      refine AWp.skip ?_
      refine hK40 _ ?_
      clear hK40 K40
      refine seqJH (KeepsT.A (k := 1) (KeepsT.A (k := 4) KeepsT.nil)) (fun (z : Bs) => [(3, .a (.d (.str z)))]) (fun z => H) (fun z => Z36_j44 s4_39 ((Z36_l37 a0 (Z36_n n) n37)) z = some r) ?_ ?_
      ·intro K44 hK44
       refine block ?_
       refine seqJH (KeepsT.A (k := 1) (KeepsT.A (k := 4) KeepsT.nil)) (fun (z : Bs) => [(3, .a (.d (.str z)))]) (fun z => H) (fun z => Z36_j46 a0 s4_39 ((Z36_l37 a0 (Z36_n n) n37)) (Z36_n n) z = some r) ?_ ?_
       ·intro K46 hK46
        refine seqK fun K51 hK51 => ?_
        refine region ?_
        refine s0 moveA rfl ?_
        refine s0 (binI rfl rfl rfl) rfl ?_
        refine nil ?_
        refine hK51 _ ?_
        clear hK51 K51
        refine condE hE rfl (fun hc52 hE => ?_) (fun hc52 hE => ?_)
        ·refine region ?_
         refine s0 moveA rfl ?_
         obtain ⟨x53, gx53, hE⟩ := bindO_some hE
         refine s0 (catM rfl rfl gx53) rfl ?_
         refine s0 assignA rfl ?_
         refine nil ?_
         exact hK46 _ x53 Weak.toA hE
        refine AWp.skip ?_
        exact hK46 _ s3_38 Weak.toA hE
       rintro s3_47 hE
       try dsimp only at hE
       unfold Z36_j46 at hE
       refine region ?_
       refine s0 moveA rfl ?_
       refine s0 (fieldVA (TK rfl) rfl rfl (TK rfl) rfl rfl) rfl ?_
       refine s0 (loadV (TK rfl) rfl rfl (congrArg (fun x => some (A.d x)) (TValue.FItemsD_eq _))) rfl ?_
       refine s0 moveA rfl ?_
       obtain ⟨x48, gx48, hE⟩ := bindO_some hE
       refine s0 (idxMn (f := TValue.c) (n := s4_39) (TK rfl) rfl (TK rfl) rfl rfl rfl gx48) rfl ?_
       refine s0 (loadV (TK rfl) rfl rfl rfl) rfl ?_
       obtain ⟨x49, gx49, hE⟩ := bindO_some hE
       refine s0 (callP rfl rfl (fun H => ih_23 gx49 H)) rfl ?_
       obtain ⟨x50, gx50, hE⟩ := bindO_some hE
       refine s0 (catM rfl rfl gx50) rfl ?_
       refine s0 assignA rfl ?_
       refine nil ?_
       exact hK44 _ x50 Weak.toA hE
      rintro s3_45 hE
      try dsimp only at hE
      unfold Z36_j44 at hE
      refine region ?_
      refine s0 moveA rfl ?_
      refine s0 (addIA rfl rfl) rfl ?_
      refine s0 assignA rfl ?_
      refine nil ?_
      exact hK37 _ (n37, s3_45, (s4_39 + 1)) Weak.toA hE (Nat.lt_succ_self _)
     refine AWp.exit ?_
     exact hK32 _ s3_38 Weak.toA hE
  rintro s3_33 hE
  try dsimp only at hE
  unfold Z36_j32 at hE
  refine seqK fun K34 hK34 => ?_
  refine region ?_
  refine s0 moveA rfl ?_
  obtain ⟨x35, gx35, hE⟩ := bindO_some hE
  refine s0 (catM rfl rfl gx35) rfl ?_
  refine s0 assignA rfl ?_
  refine nil ?_
  refine hK34 _ ?_
  clear hK34 K34
  refine AWp.ret ?_
  repeat (first | refine xBlock_ret ?_ | refine xThen_ret ?_)
  obtain rfl := Option.some.inj hE
  refine retQ.retF H rfl ⟨rfl, rfl⟩ ?_
  exact (fun _ _ h => h)
 refine seqK fun K54 hK54 => ?_
 refine region ?_
 refine s0 (binI rfl rfl rfl) rfl ?_
 refine s0 assignA rfl ?_
 refine nil ?_
 refine hK54 _ ?_
 clear hK54 K54
 refine condE hE rfl (fun hc55 hE => ?_) (fun hc55 hE => ?_)
 ·refine seqK fun K56 hK56 => ?_
  refine region ?_
  refine s0 assignA rfl ?_
  refine nil ?_
  refine hK56 _ ?_
  clear hK56 K56
  refine seqJH KeepsT.nil (fun (z : Bs) => [(5, .a (.d (.str z)))]) (fun z => H) (fun z => Z36_j57 z = some r) ?_ ?_
  ·intro K57 hK57
   refine seqK fun K61 hK61 => ?_
   refine region ?_
   refine s0 assignA rfl ?_
   refine nil ?_
   refine hK61 _ ?_
   clear hK61 K61
   refine block ?_
   refine loopH (KeepsT.A (k := 1) KeepsT.nil) (fun (z : Nat × Bs × Nat) => [(5, .a (.d (.str z.2.1))), (6, .a (.d (.int .i64 ((z.2.2 : Nat) : Int))))]) (fun z => H) (fun z => z.1) (fun z => Z36_l62 a0 (Z36_n n) z.1 z.2.1 z.2.2 = some r) ((a0.FItems.l.length + 1), ([123] : Bs), 0) hE Weak.toA ?_
   rintro ⟨n62, s5_63, s6_64⟩ hE K62 hK62
   try dsimp only at hE
   cases n62 with
   | zero => cases hE
   | succ n62 =>
     rw [Z36_l62] at hE
     refine seqK fun K65 hK65 => ?_
     refine seqK fun K66 hK66 => ?_
     refine region ?_
     refine s0 moveA rfl ?_
     refine s0 (fieldVA (TK rfl) rfl rfl (TK rfl) rfl rfl) rfl ?_
     refine s0 (loadV (TK rfl) rfl rfl (congrArg (fun x => some (A.d x)) (TValue.FItemsD_eq _))) rfl ?_
     refine sLen (f := TValue.c) (s := a0.FItems) (TK rfl) rfl rfl rfl rfl fun hL67 => ?_
     refine s0 (binI rfl rfl rfl) rfl ?_
     refine s0 moveA rfl ?_
     refine gC rfl rfl (fun hC => moveA) rfl ?_
     refine gC rfl rfl (fun hC => fieldVA (TK rfl) rfl rfl (TK rfl) rfl rfl) rfl ?_
     refine gC rfl rfl (fun hC => ungdA (k := 67) rfl (loadV (TK rfl) rfl rfl rfl)) rfl ?_
     refine gC rfl rfl (fun hC => ungdA (k := 68) rfl (lenM' (f := strE) (s := a0.FKeys) (TK rfl) rfl rfl rfl)) rfl ?_
     refine gC rfl rfl (fun hC => ungdA (k := 66) rfl (ungdA (k := 69) rfl (binI rfl rfl rfl))) rfl ?_
     refine s0 (pickAndA rfl rfl rfl) rfl ?_
     refine nil ?_
     refine hK66 _ ?_
     clear hK66 K66
     refine condE hE rfl (fun hc68 hE => ?_) (fun hc68 hE => ?_)
     ·try dsimp only at hc68
      have hf68 := of_decide_eq_true (and_left hc68)
      refine AWp.skip ?_
      refine hK65 _ ?_
      clear hK65 K65
      refine seqJH (KeepsT.A (k := 1) (KeepsT.A (k := 6) KeepsT.nil)) (fun (z : Bs) => [(5, .a (.d (.str z)))]) (fun z => H) (fun z => Z36_j69 s6_64 ((Z36_l62 a0 (Z36_n n) n62)) z = some r) ?_ ?_
      ·intro K69 hK69
       refine block ?_
       refine seqJH (KeepsT.A (k := 1) (KeepsT.A (k := 6) KeepsT.nil)) (fun (z : Bs) => [(5, .a (.d (.str z)))]) (fun z => H) (fun z => Z36_j71 a0 s6_64 ((Z36_l62 a0 (Z36_n n) n62)) (Z36_n n) z = some r) ?_ ?_
       ·intro K71 hK71
        refine seqK fun K79 hK79 => ?_
        refine region ?_
        refine s0 moveA rfl ?_
        refine s0 (binI rfl rfl rfl) rfl ?_
        refine nil ?_
        refine hK79 _ ?_
        clear hK79 K79
        refine condE hE rfl (fun hc80 hE => ?_) (fun hc80 hE => ?_)
        ·refine region ?_
         refine s0 moveA rfl ?_
         obtain ⟨x81, gx81, hE⟩ := bindO_some hE
         refine s0 (catM rfl rfl gx81) rfl ?_
         refine s0 assignA rfl ?_
         refine nil ?_
         exact hK71 _ x81 Weak.toA hE
        refine AWp.skip ?_
        exact hK71 _ s5_63 Weak.toA hE
       rintro s5_72 hE
       try dsimp only at hE
       unfold Z36_j71 at hE
       refine AWp.draw rfl ?_
       refine DOps.s0 moveA rfl ?_
       refine DOps.s0 (fieldVA (TK rfl) rfl rfl (TK rfl) rfl rfl) rfl ?_
       refine DOps.s0 (loadV (TK rfl) rfl rfl rfl) rfl ?_
       refine DOps.s0 moveA rfl ?_
       obtain ⟨x73, gx73, hE⟩ := bindO_some hE
       refine DOps.s0 (idxMn (f := strE) (n := s6_64) (TK rfl) rfl (TK rfl) rfl rfl rfl gx73) rfl ?_
       refine DOps.s0 (loadV (TK rfl) rfl rfl rfl) rfl ?_
       obtain ⟨x74, gx74, hE⟩ := bindO_some hE
       refine DOps.s0 (catM rfl rfl gx74) rfl ?_
       obtain ⟨x75, gx75, hE⟩ := bindO_some hE
       refine DOps.s0 (catM rfl rfl gx75) rfl ?_
       refine DOps.s0 (fieldVA (TK rfl) rfl rfl (TK rfl) rfl rfl) rfl ?_
       refine DOps.s0 (loadV (TK rfl) rfl rfl (congrArg (fun x => some (A.d x)) (TValue.FItemsD_eq _))) rfl ?_
       refine DOps.s0 moveA rfl ?_
       obtain ⟨x76, gx76, hE⟩ := bindO_some hE
       refine DOps.s0 (idxMn (f := TValue.c) (n := s6_64) (TK rfl) rfl (TK rfl) rfl rfl rfl gx76) rfl ?_
       refine DOps.s0 (loadV (TK rfl) rfl rfl rfl) rfl ?_
       obtain ⟨x77, gx77, hE⟩ := bindO_some hE
       refine DOps.s0 (callP rfl rfl (fun H => ih_23 gx77 H)) rfl ?_
       obtain ⟨x78, gx78, hE⟩ := bindO_some hE
       refine DOps.s0 (catM rfl rfl gx78) rfl ?_
       refine DOps.s0 assignA rfl ?_
       refine DOps.nil (by decide +kernel) ?_
       exact hK69 _ x78 Weak.toA hE
      rintro s5_70 hE
      try dsimp only at hE
      unfold Z36_j69 at hE
      refine region ?_
      refine s0 moveA rfl ?_
      refine s0 (addIA rfl rfl) rfl ?_
      refine s0 assignA rfl ?_
      refine nil ?_
      exact hK62 _ (n62, s5_70, (s6_64 + 1)) Weak.toA hE (Nat.lt_succ_self _)
     refine AWp.exit ?_
     exact hK57 _ s5_63 Weak.toA hE
  rintro s5_58 hE
  try dsimp only at hE
  unfold Z36_j57 at hE
  refine seqK fun K59 hK59 => ?_
  refine region ?_
  refine s0 moveA rfl ?_
  obtain ⟨x60, gx60, hE⟩ := bindO_some hE
  refine s0 (catM rfl rfl gx60) rfl ?_
  refine s0 assignA rfl ?_
  refine nil ?_
  refine hK59 _ ?_
  clear hK59 K59
  refine AWp.ret ?_
  repeat (first | refine xBlock_ret ?_ | refine xThen_ret ?_)
  obtain rfl := Option.some.inj hE
  refine retQ.retF H rfl ⟨rfl, rfl⟩ ?_
  exact (fun _ _ h => h)
 refine AWp.skip ?_
 refine hK2 _ ?_
 clear hK2 K2
 refine seqK fun K82 hK82 => ?_
 refine region ?_
 refine s0 assignA rfl ?_
 refine nil ?_
 refine hK82 _ ?_
 clear hK82 K82
 refine AWp.ret ?_
 repeat (first | refine xBlock_ret ?_ | refine xThen_ret ?_)
 obtain rfl := Option.some.inj hE
 refine retQ.retF H rfl ⟨rfl, rfl⟩ ?_
 exact (fun _ _ h => h)
theorem Z36_all : ∀ (n : Nat), (∀ {a0 : TValue}   {r : Bs}, Z36_n n a0 = some r → ∀ (H : Heap), ACalls Tryd.prog 23 [.agg (TValue.c a0)] H fun v h' => v = .a (.d (.str r)) ∧ h' = H)
 | 0 => fun hE => by first | cases hE | (rw [Z36_n] at hE; cases hE)
 | n + 1 => Z36_step n (Z36_all n)
def Z36 (a0 : TValue) : Option Bs := Z36_n F0 a0
theorem Z36_walk {a0 : TValue}   {r : Bs} (hE : Z36 a0 = some r) (H : Heap)  : ACalls Tryd.prog 23 [.agg (TValue.c a0)] H fun v h' => v = .a (.d (.str r)) ∧ h' = H := (Z36_all F0) hE H 
def Z35_j3  (s3_4 : Bs) : Option Bs := some s3_4
def Z35_j14 (s4_9 : Nat) (k_next_7 : Bs → Nat → Option Bs) (s3_15 : Bs) : Option Bs := k_next_7 s3_15 (s4_9 + 1)
def Z35_j16 (a0 : (Sl TArg)) (s4_9 : Nat) (k_next_7 : Bs → Nat → Option Bs) (s3_17 : Bs) : Option Bs := (a0.l[s4_9]?).bind fun x18 => (catC s3_17 x18.FName).bind fun x19 => (catC x19 ([58, 32] : Bs)).bind fun x20 => (a0.l[s4_9]?).bind fun x21 => (Z36 x21.FValue).bind fun x22 => (catC x20 x22).bind fun x23 => Z35_j14 s4_9 k_next_7 x23
def Z35_l7 (a0 : (Sl TArg))  : Nat → Bs → Nat → Option Bs
 | 0, _, _ => none
 | n7 + 1, s3_8, s4_9 => bif (decide (((s4_9 : Nat) : Int) < ((a0.l.length : Nat) : Int))) then (bif (decide ((0 : Int) < ((s4_9 : Nat) : Int))) then ((catC s3_8 ([44, 32] : Bs)).bind fun x26 => Z35_j16 a0 s4_9 ((Z35_l7 a0 n7)) x26) else (Z35_j16 a0 s4_9 ((Z35_l7 a0 n7)) s3_8)) else (Z35_j3   s3_8)
def Z35 (a0 : (Sl TArg)) : Option Bs := Z35_l7 a0 (a0.l.length + 1) ([] : Bs) 0
theorem Z35_walk {a0 : (Sl TArg)} {w0 : Option Nat}  {r : Bs} (hE : Z35 a0 = some r) (H : Heap)  : ACalls Tryd.prog 10 [.d (Sl.d 6 TArg.c w0 a0)] H fun v h' => v = .a (.d (.str r)) ∧ h' = H := by
 unfold Z35 at hE
 refine ACalls.of_wp (fn := Tryd.f10) (c := _) Tryd.tab_ok (fun _ _ => Tryd.call10 _ _) Tryd.func10 rfl (n := 31) rfl (rs := [.tmp 2]) rfl rfl ?_
 refine seqK fun K1 hK1 => ?_
 refine region ?_
 refine s0 assignA rfl ?_
 refine nil ?_
 refine hK1 _ ?_
 clear hK1 K1
 refine seqK fun K2 hK2 => ?_
 refine region ?_
 refine s0 assignA rfl ?_
 refine nil ?_
 refine hK2 _ ?_
 clear hK2 K2
 refine seqJH KeepsT.nil (fun (z : Bs) => [(3, .a (.d (.str z)))]) (fun z => H) (fun z => Z35_j3 z = some r) ?_ ?_
 ·intro K3 hK3
  refine seqK fun K6 hK6 => ?_
  refine region ?_
  refine s0 assignA rfl ?_
  refine nil ?_
  refine hK6 _ ?_
  clear hK6 K6
  refine block ?_
  refine loopH (KeepsT.A (k := 0) KeepsT.nil) (fun (z : Nat × Bs × Nat) => [(3, .a (.d (.str z.2.1))), (4, .a (.d (.int .i64 ((z.2.2 : Nat) : Int))))]) (fun z => H) (fun z => z.1) (fun z => Z35_l7 a0 z.1 z.2.1 z.2.2 = some r) ((a0.l.length + 1), ([] : Bs), 0) hE Weak.toA ?_
  rintro ⟨n7, s3_8, s4_9⟩ hE K7 hK7
  try dsimp only at hE
  cases n7 with
  | zero => cases hE
  | succ n7 =>
    rw [Z35_l7] at hE
    refine seqK fun K10 hK10 => ?_
    refine seqK fun K11 hK11 => ?_
    refine region ?_
    refine s0 moveA rfl ?_
    refine s0 moveA rfl ?_
    refine sLen (f := TArg.c) (s := a0) (TK rfl) rfl rfl rfl rfl fun hL12 => ?_
    refine s0 (binI rfl rfl rfl) rfl ?_
    refine nil ?_
    refine hK11 _ ?_
    clear hK11 K11
    refine condE hE rfl (fun hc13 hE => ?_) (fun hc13 hE => ?_)
    ·try dsimp only at hc13
     have hf13 := of_decide_eq_true hc13
     refine AWp.skip ?_
     refine hK10 _ ?_
     clear hK10 K10
     refine seqJH (KeepsT.A (k := 0) (KeepsT.A (k := 4) KeepsT.nil)) (fun (z : Bs) => [(3, .a (.d (.str z)))]) (fun z => H) (fun z => Z35_j14 s4_9 ((Z35_l7 a0 n7)) z = some r) ?_ ?_
     ·intro K14 hK14
      refine block ?_
      refine seqJH (KeepsT.A (k := 0) (KeepsT.A (k := 4) KeepsT.nil)) (fun (z : Bs) => [(3, .a (.d (.str z)))]) (fun z => H) (fun z => Z35_j16 a0 s4_9 ((Z35_l7 a0 n7)) z = some r) ?_ ?_
      ·intro K16 hK16
       refine seqK fun K24 hK24 => ?_
       refine region ?_
       refine s0 moveA rfl ?_
       refine s0 (binI rfl rfl rfl) rfl ?_
       refine nil ?_
       refine hK24 _ ?_
       clear hK24 K24
       refine condE hE rfl (fun hc25 hE => ?_) (fun hc25 hE => ?_)
       ·refine region ?_
        refine s0 moveA rfl ?_
        obtain ⟨x26, gx26, hE⟩ := bindO_some hE
        refine s0 (catM rfl rfl gx26) rfl ?_
        refine s0 assignA rfl ?_
        refine nil ?_
        exact hK16 _ x26 Weak.toA hE
       refine AWp.skip ?_
       exact hK16 _ s3_8 Weak.toA hE
      rintro s3_17 hE
      try dsimp only at hE
      unfold Z35_j16 at hE
      refine AWp.draw rfl ?_
      refine DOps.s0 moveA rfl ?_
      refine DOps.s0 moveA rfl ?_
      refine DOps.s0 moveA rfl ?_
      obtain ⟨x18, gx18, hE⟩ := bindO_some hE
      refine DOps.s0 (idxMn (f := TArg.c) (n := s4_9) (TK rfl) rfl (TK rfl) rfl rfl rfl gx18) rfl ?_
      refine DOps.s0 (fieldVA (TK rfl) rfl rfl (TK rfl) rfl rfl) rfl ?_
      refine DOps.s0 (loadV (TK rfl) rfl rfl rfl) rfl ?_
      obtain ⟨x19, gx19, hE⟩ := bindO_some hE
      refine DOps.s0 (catM rfl rfl gx19) rfl ?_
      obtain ⟨x20, gx20, hE⟩ := bindO_some hE
      refine DOps.s0 (catM rfl rfl gx20) rfl ?_
      refine DOps.s0 moveA rfl ?_
      refine DOps.s0 moveA rfl ?_
      obtain ⟨x21, gx21, hE⟩ := bindO_some hE
      refine DOps.s0 (idxMn (f := TArg.c) (n := s4_9) (TK rfl) rfl (TK rfl) rfl rfl rfl gx21) rfl ?_
      refine DOps.s0 (fieldVA (TK rfl) rfl rfl (TK rfl) rfl rfl) rfl ?_
      refine DOps.s0 (loadV (TK rfl) rfl rfl rfl) rfl ?_
      obtain ⟨x22, gx22, hE⟩ := bindO_some hE
      refine DOps.s0 (callP rfl rfl (fun H => Z36_walk gx22 H)) rfl ?_
      obtain ⟨x23, gx23, hE⟩ := bindO_some hE
      refine DOps.s0 (catM rfl rfl gx23) rfl ?_
      refine DOps.s0 assignA rfl ?_
      refine DOps.nil (by decide +kernel) ?_
      exact hK14 _ x23 Weak.toA hE
     rintro s3_15 hE
     try dsimp only at hE
     unfold Z35_j14 at hE
     refine region ?_
     refine s0 moveA rfl ?_
     refine s0 (addIA rfl rfl) rfl ?_
     refine s0 assignA rfl ?_
     refine nil ?_
     exact hK7 _ (n7, s3_15, (s4_9 + 1)) Weak.toA hE (Nat.lt_succ_self _)
    refine AWp.exit ?_
    exact hK3 _ s3_8 Weak.toA hE
 rintro s3_4 hE
 try dsimp only at hE
 unfold Z35_j3 at hE
 refine seqK fun K5 hK5 => ?_
 refine region ?_
 refine s0 moveA rfl ?_
 refine s0 assignA rfl ?_
 refine nil ?_
 refine hK5 _ ?_
 clear hK5 K5
 refine AWp.ret ?_
 repeat (first | refine xBlock_ret ?_ | refine xThen_ret ?_)
 obtain rfl := Option.some.inj hE
 refine retQ.retF H rfl ⟨rfl, rfl⟩ ?_
 exact (fun _ _ h => h)
def Z33_j7   : Option Bool := some true
def Z33_l10 (a0 : TValue) (a1 : TValue) (k_rec_11 : TValue → TValue → Option Bool) : Nat → Nat → Option Bool
 | 0, _ => none
 | n10 + 1, s6_11 => bif (decide (((s6_11 : Nat) : Int) < ((a0.FItems.l.length : Nat) : Int))) then ((a0.FItems.l[s6_11]?).bind fun x18 => (a1.FItems.l[s6_11]?).bind fun x19 => (k_rec_11 x18 x19).bind fun x20 => bif (!x20) then (some false) else ((Z33_l10 a0 a1 k_rec_11 n10) (s6_11 + 1))) else (Z33_j7   )
def Z33_j6 (a0 : TValue) (a1 : TValue) (k_rec_11 : TValue → TValue → Option Bool)  : Option Bool := Z33_l10 a0 a1 k_rec_11 (a0.FItems.l.length + 1) 0
def Z33_l24 (a0 : TValue) (a1 : TValue) (k_rec_11 : TValue → TValue → Option Bool) : Nat → Nat → Option Bool
 | 0, _ => none
 | n24 + 1, s5_25 => bif (decide (((s5_25 : Nat) : Int) < ((a0.FKeys.l.length : Nat) : Int))) then ((a0.FKeys.l[s5_25]?).bind fun x32 => (a1.FKeys.l[s5_25]?).bind fun x33 => bif (!(x32 == x33)) then (some false) else ((Z33_l24 a0 a1 k_rec_11 n24) (s5_25 + 1))) else (Z33_j6 a0 a1 k_rec_11 )
def Z33_n : Nat → TValue → TValue → Option Bool
 | 0, _, _ => none
 | n + 1, a0, a1 => bif (((((!decide (a0.FKind = a1.FKind)) || (!decide (a0.FInt = a1.FInt))) || (!(a0.FText == a1.FText))) || (!decide (((a0.FItems.l.length : Nat) : Int) = ((a1.FItems.l.length : Nat) : Int)))) || (!decide (((a0.FKeys.l.length : Nat) : Int) = ((a1.FKeys.l.length : Nat) : Int)))) then (some false) else (Z33_l24 a0 a1 (Z33_n n) (a0.FKeys.l.length + 1) 0)
theorem Z33_step (n : Nat) (ih_11 : ∀ {a0 : TValue} {a1 : TValue}   {r : Bool}, Z33_n n a0 a1 = some r → ∀ (H : Heap), ACalls Tryd.prog 11 [.agg (TValue.c a0), .agg (TValue.c a1)] H fun v h' => v = .a (.d (.bool r)) ∧ h' = H) : ∀ {a0 : TValue} {a1 : TValue}   {r : Bool}, Z33_n (n + 1) a0 a1 = some r → ∀ (H : Heap), ACalls Tryd.prog 11 [.agg (TValue.c a0), .agg (TValue.c a1)] H fun v h' => v = .a (.d (.bool r)) ∧ h' = H := by
 intro a0 a1   r hE H 
 rw [Z33_n] at hE
 refine ACalls.of_wp (fn := Tryd.f11) (c := _) Tryd.tab_ok (fun _ _ => Tryd.call11 _ _) Tryd.func11 rfl (n := 81) rfl (rs := [.tmp 4]) rfl rfl ?_
 refine seqK fun K1 hK1 => ?_
 refine region ?_
 refine s0 (boxV rfl) rfl ?_
 refine s0 (boxV rfl) rfl ?_
 refine s0 assignA rfl ?_
 refine nil ?_
 refine hK1 _ ?_
 clear hK1 K1
 refine seqK fun K2 hK2 => ?_
 refine seqK fun K3 hK3 => ?_
 refine region ?_
 refine s0 (fieldVA (TK rfl) rfl rfl (TK rfl) rfl rfl) rfl ?_
 refine s0 (loadV (TK rfl) rfl rfl rfl) rfl ?_
 refine s0 (fieldVA (TK rfl) rfl rfl (TK rfl) rfl rfl) rfl ?_
 refine s0 (loadV (TK rfl) rfl rfl rfl) rfl ?_
 refine s0 (binI rfl rfl rfl) rfl ?_
 refine s0 moveA rfl ?_
 refine gC rfl rfl (fun hC => fieldVA (TK rfl) rfl rfl (TK rfl) rfl rfl) rfl ?_
 refine gC rfl rfl (fun hC => ungdA (k := 13) rfl (loadV (TK rfl) rfl rfl rfl)) rfl ?_
 refine gC rfl rfl (fun hC => fieldVA (TK rfl) rfl rfl (TK rfl) rfl rfl) rfl ?_
 refine gC rfl rfl (fun hC => ungdA (k := 15) rfl (loadV (TK rfl) rfl rfl rfl)) rfl ?_
 refine gC rfl rfl (fun hC => ungdA (k := 14) rfl (ungdA (k := 16) rfl (binI rfl rfl rfl))) rfl ?_
 refine s0 (pickOrA rfl rfl rfl) rfl ?_
 refine s0 moveA rfl ?_
 refine gC rfl rfl (fun hC => fieldVA (TK rfl) rfl rfl (TK rfl) rfl rfl) rfl ?_
 refine gC rfl rfl (fun hC => ungdA (k := 20) rfl (loadV (TK rfl) rfl rfl rfl)) rfl ?_
 refine gC rfl rfl (fun hC => fieldVA (TK rfl) rfl rfl (TK rfl) rfl rfl) rfl ?_
 refine gC rfl rfl (fun hC => ungdA (k := 22) rfl (loadV (TK rfl) rfl rfl rfl)) rfl ?_
 refine gC rfl rfl (fun hC => ungdA (k := 21) rfl (ungdA (k := 23) rfl (binS rfl rfl rfl))) rfl ?_
 refine s0 (pickOrA rfl rfl rfl) rfl ?_
 refine s0 moveA rfl ?_
 refine gC rfl rfl (fun hC => fieldVA (TK rfl) rfl rfl (TK rfl) rfl rfl) rfl ?_
 refine gC rfl rfl (fun hC => ungdA (k := 27) rfl (loadV (TK rfl) rfl rfl (congrArg (fun x => some (A.d x)) (TValue.FItemsD_eq _)))) rfl ?_
 refine gC rfl rfl (fun hC => ungdA (k := 28) rfl (lenM' (f := TValue.c) (s := a0.FItems) (TK rfl) rfl rfl rfl)) rfl ?_
 refine gC rfl rfl (fun hC => fieldVA (TK rfl) rfl rfl (TK rfl) rfl rfl) rfl ?_
 refine gC rfl rfl (fun hC => ungdA (k := 30) rfl (loadV (TK rfl) rfl rfl (congrArg (fun x => some (A.d x)) (TValue.FItemsD_eq _)))) rfl ?_
 refine gC rfl rfl (fun hC => ungdA (k := 31) rfl (lenM' (f := TValue.c) (s := a1.FItems) (TK rfl) rfl rfl rfl)) rfl ?_
 refine gC rfl rfl (fun hC => ungdA (k := 29) rfl (ungdA (k := 32) rfl (binI rfl rfl rfl))) rfl ?_
 refine s0 (pickOrA rfl rfl rfl) rfl ?_
 refine s0 moveA rfl ?_
 refine gC rfl rfl (fun hC => fieldVA (TK rfl) rfl rfl (TK rfl) rfl rfl) rfl ?_
 refine gC rfl rfl (fun hC => ungdA (k := 36) rfl (loadV (TK rfl) rfl rfl rfl)) rfl ?_
 refine gC rfl rfl (fun hC => ungdA (k := 37) rfl (lenM' (f := strE) (s := a0.FKeys) (TK rfl) rfl rfl rfl)) rfl ?_
 refine gC rfl rfl (fun hC => fieldVA (TK rfl) rfl rfl (TK rfl) rfl rfl) rfl ?_
 refine gC rfl rfl (fun hC => ungdA (k := 39) rfl (loadV (TK rfl) rfl rfl rfl)) rfl ?_
 refine gC rfl rfl (fun hC => ungdA (k := 40) rfl (lenM' (f := strE) (s := a1.FKeys) (TK rfl) rfl rfl rfl)) rfl ?_
 refine gC rfl rfl (fun hC => ungdA (k := 38) rfl (ungdA (k := 41) rfl (binI rfl rfl rfl))) rfl ?_
 refine s0 (pickOrA rfl rfl rfl) rfl ?_
 refine nil ?_
 refine hK3 _ ?_
 clear hK3 K3
 refine condE hE rfl (fun hc4 hE => ?_) (fun hc4 hE => ?_)
 ·refine seqK fun K5 hK5 => ?_
  refine region ?_
  refine s0 assignA rfl ?_
  refine nil ?_
  refine hK5 _ ?_
  clear hK5 K5
  refine AWp.ret ?_
  repeat (first | refine xBlock_ret ?_ | refine xThen_ret ?_)
  obtain rfl := Option.some.inj hE
  refine retQ.retF H rfl ⟨rfl, rfl⟩ ?_
  exact (fun _ _ h => h)
 refine AWp.skip ?_
 refine hK2 _ ?_
 clear hK2 K2
 refine seqJH (KeepsT.A (k := 2) (KeepsT.A (k := 3) KeepsT.nil)) (fun (z : Unit) => []) (fun z => H) (fun z => Z33_j6 a0 a1 (Z33_n n)  = some r) ?_ ?_
 ·intro K6 hK6
  refine seqK fun K23 hK23 => ?_
  refine region ?_
  refine s0 assignA rfl ?_
  refine nil ?_
  refine hK23 _ ?_
  clear hK23 K23
  refine block ?_
  refine loopH (KeepsT.A (k := 2) (KeepsT.A (k := 3) KeepsT.nil)) (fun (z : Nat × Nat) => [(5, .a (.d (.int .i64 ((z.2 : Nat) : Int))))]) (fun z => H) (fun z => z.1) (fun z => Z33_l24 a0 a1 (Z33_n n) z.1 z.2 = some r) ((a0.FKeys.l.length + 1), 0) hE Weak.toA ?_
  rintro ⟨n24, s5_25⟩ hE K24 hK24
  try dsimp only at hE
  cases n24 with
  | zero => cases hE
  | succ n24 =>
    rw [Z33_l24] at hE
    refine seqK fun K26 hK26 => ?_
    refine seqK fun K27 hK27 => ?_
    refine region ?_
    refine s0 moveA rfl ?_
    refine s0 (fieldVA (TK rfl) rfl rfl (TK rfl) rfl rfl) rfl ?_
    refine s0 (loadV (TK rfl) rfl rfl rfl) rfl ?_
    refine sLen (f := strE) (s := a0.FKeys) (TK rfl) rfl rfl rfl rfl fun hL28 => ?_
    refine s0 (binI rfl rfl rfl) rfl ?_
    refine nil ?_
    refine hK27 _ ?_
    clear hK27 K27
    refine condE hE rfl (fun hc29 hE => ?_) (fun hc29 hE => ?_)
    ·try dsimp only at hc29
     have hf29 := of_decide_eq_true hc29
     refine AWp.skip ?_
     refine hK26 _ ?_
     clear hK26 K26
     refine seqK fun K30 hK30 => ?_
     refine block ?_
     refine seqK fun K31 hK31 => ?_
     refine AWp.draw rfl ?_
     refine DOps.s0 (fieldVA (TK rfl) rfl rfl (TK rfl) rfl rfl) rfl ?_
     refine DOps.s0 (loadV (TK rfl) rfl rfl rfl) rfl ?_
     refine DOps.s0 moveA rfl ?_
     obtain ⟨x32, gx32, hE⟩ := bindO_some hE
     refine DOps.s0 (idxMn (f := strE) (n := s5_25) (TK rfl) rfl (TK rfl) rfl rfl rfl gx32) rfl ?_
     refine DOps.s0 (loadV (TK rfl) rfl rfl rfl) rfl ?_
     refine DOps.s0 (fieldVA (TK rfl) rfl rfl (TK rfl) rfl rfl) rfl ?_
     refine DOps.s0 (loadV (TK rfl) rfl rfl rfl) rfl ?_
     refine DOps.s0 moveA rfl ?_
     obtain ⟨x33, gx33, hE⟩ := bindO_some hE
     refine DOps.s0 (idxMn (f := strE) (n := s5_25) (TK rfl) rfl (TK rfl) rfl rfl rfl gx33) rfl ?_
     refine DOps.s0 (loadV (TK rfl) rfl rfl rfl) rfl ?_
     refine DOps.s0 (binS rfl rfl rfl) rfl ?_
     refine DOps.nil (by decide +kernel) ?_
     refine hK31 _ ?_
     clear hK31 K31
     refine condE hE rfl (fun hc34 hE => ?_) (fun hc34 hE => ?_)
     ·refine seqK fun K35 hK35 => ?_
      refine region ?_
      refine s0 assignA rfl ?_
      refine nil ?_
      refine hK35 _ ?_
      clear hK35 K35
      refine AWp.ret ?_
      repeat (first | refine xBlock_ret ?_ | refine xThen_ret ?_)
      obtain rfl := Option.some.inj hE
      refine retQ.retF H rfl ⟨rfl, rfl⟩ ?_
      exact (fun _ _ h => h)
     refine AWp.skip ?_
     refine hK30 _ ?_
     clear hK30 K30
     refine region ?_
     refine s0 moveA rfl ?_
     refine s0 (addIA rfl rfl) rfl ?_
     refine s0 assignA rfl ?_
     refine nil ?_
     exact hK24 _ (n24, (s5_25 + 1)) Weak.toA hE (Nat.lt_succ_self _)
    refine AWp.exit ?_
    exact hK6 _ () Weak.toA hE
 rintro _ hE
 try dsimp only at hE
 unfold Z33_j6 at hE
 refine seqJH KeepsT.nil (fun (z : Unit) => []) (fun z => H) (fun z => Z33_j7  = some r) ?_ ?_
 ·intro K7 hK7
  refine seqK fun K9 hK9 => ?_
  refine region ?_
  refine s0 assignA rfl ?_
  refine nil ?_
  refine hK9 _ ?_
  clear hK9 K9
  refine block ?_
  refine loopH (KeepsT.A (k := 2) (KeepsT.A (k := 3) KeepsT.nil)) (fun (z : Nat × Nat) => [(6, .a (.d (.int .i64 ((z.2 : Nat) : Int))))]) (fun z => H) (fun z => z.1) (fun z => Z33_l10 a0 a1 (Z33_n n) z.1 z.2 = some r) ((a0.FItems.l.length + 1), 0) hE Weak.toA ?_
  rintro ⟨n10, s6_11⟩ hE K10 hK10
  try dsimp only at hE
  cases n10 with
  | zero => cases hE
  | succ n10 =>
    rw [Z33_l10] at hE
    refine seqK fun K12 hK12 => ?_
    refine seqK fun K13 hK13 => ?_
    refine region ?_
    refine s0 moveA rfl ?_
    refine s0 (fieldVA (TK rfl) rfl rfl (TK rfl) rfl rfl) rfl ?_
    refine s0 (loadV (TK rfl) rfl rfl (congrArg (fun x => some (A.d x)) (TValue.FItemsD_eq _))) rfl ?_
    refine sLen (f := TValue.c) (s := a0.FItems) (TK rfl) rfl rfl rfl rfl fun hL14 => ?_
    refine s0 (binI rfl rfl rfl) rfl ?_
    refine nil ?_
    refine hK13 _ ?_
    clear hK13 K13
    refine condE hE rfl (fun hc15 hE => ?_) (fun hc15 hE => ?_)
    ·try dsimp only at hc15
     have hf15 := of_decide_eq_true hc15
     refine AWp.skip ?_
     refine hK12 _ ?_
     clear hK12 K12
     refine seqK fun K16 hK16 => ?_
     refine block ?_
     refine seqK fun K17 hK17 => ?_
     refine AWp.draw rfl ?_
     refine DOps.s0 (fieldVA (TK rfl) rfl rfl (TK rfl) rfl rfl) rfl ?_
     refine DOps.s0 (loadV (TK rfl) rfl rfl (congrArg (fun x => some (A.d x)) (TValue.FItemsD_eq _))) rfl ?_
     refine DOps.s0 moveA rfl ?_
     obtain ⟨x18, gx18, hE⟩ := bindO_some hE
     refine DOps.s0 (idxMn (f := TValue.c) (n := s6_11) (TK rfl) rfl (TK rfl) rfl rfl rfl gx18) rfl ?_
     refine DOps.s0 (loadV (TK rfl) rfl rfl rfl) rfl ?_
     refine DOps.s0 (fieldVA (TK rfl) rfl rfl (TK rfl) rfl rfl) rfl ?_
     refine DOps.s0 (loadV (TK rfl) rfl rfl (congrArg (fun x => some (A.d x)) (TValue.FItemsD_eq _))) rfl ?_
     refine DOps.s0 moveA rfl ?_
     obtain ⟨x19, gx19, hE⟩ := bindO_some hE
     refine DOps.s0 (idxMn (f := TValue.c) (n := s6_11) (TK rfl) rfl (TK rfl) rfl rfl rfl gx19) rfl ?_
     refine DOps.s0 (loadV (TK rfl) rfl rfl rfl) rfl ?_
     obtain ⟨x20, gx20, hE⟩ := bindO_some hE
     refine DOps.s0 (callP rfl rfl (fun H => ih_11 gx20 H)) rfl ?_
     refine DOps.s0 (notB rfl) rfl ?_
     refine DOps.nil (by decide +kernel) ?_
     refine hK17 _ ?_
     clear hK17 K17
     refine condE hE rfl (fun hc21 hE => ?_) (fun hc21 hE => ?_)
     ·refine seqK fun K22 hK22 => ?_
      refine region ?_
      refine s0 assignA rfl ?_
      refine nil ?_
      refine hK22 _ ?_
      clear hK22 K22
      refine AWp.ret ?_
      repeat (first | refine xBlock_ret ?_ | refine xThen_ret ?_)
      obtain rfl := Option.some.inj hE
      refine retQ.retF H rfl ⟨rfl, rfl⟩ ?_
      exact (fun _ _ h => h)
     refine AWp.skip ?_
     refine hK16 _ ?_
     clear hK16 K16
     refine region ?_
     refine s0 moveA rfl ?_
     refine s0 (addIA rfl rfl) rfl ?_
     refine s0 assignA rfl ?_
     refine nil ?_
     exact hK10 _ (n10, (s6_11 + 1)) Weak.toA hE (Nat.lt_succ_self _)
    refine AWp.exit ?_
    exact hK7 _ () Weak.toA hE
 rintro _ hE
 try dsimp only at hE
 unfold Z33_j7 at hE
 refine seqK fun K8 hK8 => ?_
 refine region ?_
 refine s0 assignA rfl ?_
 refine nil ?_
 refine hK8 _ ?_
 clear hK8 K8
 refine AWp.ret ?_
 repeat (first | refine xBlock_ret ?_ | refine xThen_ret ?_)
 obtain rfl := Option.some.inj hE
 refine retQ.retF H rfl ⟨rfl, rfl⟩ ?_
 exact (fun _ _ h => h)
theorem Z33_all : ∀ (n : Nat), (∀ {a0 : TValue} {a1 : TValue}   {r : Bool}, Z33_n n a0 a1 = some r → ∀ (H : Heap), ACalls Tryd.prog 11 [.agg (TValue.c a0), .agg (TValue.c a1)] H fun v h' => v = .a (.d (.bool r)) ∧ h' = H)
 | 0 => fun hE => by first | cases hE | (rw [Z33_n] at hE; cases hE)
 | n + 1 => Z33_step n (Z33_all n)
def Z33 (a0 : TValue) (a1 : TValue) : Option Bool := Z33_n F0 a0 a1
theorem Z33_walk {a0 : TValue} {a1 : TValue}   {r : Bool} (hE : Z33 a0 a1 = some r) (H : Heap)  : ACalls Tryd.prog 11 [.agg (TValue.c a0), .agg (TValue.c a1)] H fun v h' => v = .a (.d (.bool r)) ∧ h' = H := (Z33_all F0) hE H 
end Go.Proofs

namespace Go.Proofs
open Go Go.Ab
open AOps Cert AWp
variable {lou : Lou}
section
variable [IsLoud lou]
def Z16_j23 (s5_10 : Bool) (x12 : Bs) (x13 : Bs)  (s11_24 : Bool) : Option Bool := guardO (((!s5_10) || ((((x12 == x13)) == s11_24)))) (Z17 ) false fun x26 => some (((!s5_10) || ((((x12 == x13)) == s11_24))) && x26)
def Z16_l28 (a0 : (Sl TArg)) (a1 : (Sl TArg)) (s5_10 : Bool) (x12 : Bs) (x13 : Bs)  : Nat → Bool → Int → Option Bool
 | 0, _, _ => none
 | n28 + 1, s11_29, s12_30 => bif (s11_29 && (decide (s12_30 < ((a0.l.length : Nat) : Int)))) then ((idxC a0.l s12_30).bind fun x35 => (idxC a1.l s12_30).bind fun x36 => guardO (((x35.FName == x36.FName))) (idxC a0.l s12_30) TArg.zero fun x37 => guardO (((x35.FName == x36.FName))) (idxC a1.l s12_30) TArg.zero fun x38 => guardO (((x35.FName == x36.FName))) (Z33 x37.FValue x38.FValue) false fun x39 => (addC s12_30 (1 : Int)).bind fun x40 => (Z16_l28 a0 a1 s5_10 x12 x13 n28) (((x35.FName == x36.FName)) && x39) x40) else (Z16_j23 s5_10 x12 x13  s11_29)
def Z16_j9 (a0 : (Sl TArg)) (a1 : (Sl TArg))  (s5_10 : Bool) : Option Bool := (Z3 a0).bind fun x12 => (Z3 a1).bind fun x13 => (Z35 a0).bind fun x16 => guardO (!(!(x12 == x16))) (Z35 a1) ([] : Bs) fun x17 => bif ((!(x12 == x16)) || (!(x13 == x17))) then (some false) else (Z16_l28 a0 a1 s5_10 x12 x13 F0 (decide (((a0.l.length : Nat) : Int) = ((a1.l.length : Nat) : Int))) (0 : Int))
def Z16_j51 (s6_44 : Int) (k_next_42 : Bool → Int → Option Bool) (s5_52 : Bool) : Option Bool := (addC s6_44 (1 : Int)).bind fun x53 => k_next_42 s5_52 x53
def Z16_j55 (s5_43 : Bool) (s6_44 : Int) (k_next_42 : Bool → Int → Option Bool) (y56_l0 : TArg) : Option Bool := (Z34 y56_l0.FValue (300 : Int)).bind fun x59 => bif (decide ((300 : Int) < x59)) then ((Z17 ).bind fun x62 => some x62) else (guardO (s5_43) (Z27 (TValue.mk (6 : Int) (0 : Int) ([] : Bs) ((⟨false, [y56_l0.FValue]⟩ : Sl TValue).nl) ((⟨false, [y56_l0.FValue]⟩ : Sl TValue).l) (⟨false, [y56_l0.FName]⟩ : Sl Bs))) false fun x64 => guardO ((s5_43 && x64)) (Z28 (TValue.mk (6 : Int) (0 : Int) ([] : Bs) ((⟨false, [y56_l0.FValue]⟩ : Sl TValue).nl) ((⟨false, [y56_l0.FValue]⟩ : Sl TValue).l) (⟨false, [y56_l0.FName]⟩ : Sl Bs))) false fun x65 => Z16_j51 s6_44 k_next_42 ((s5_43 && x64) && x65))
def Z16_l42 (a0 : (Sl TArg)) (a1 : (Sl TArg))  : Nat → Bool → Int → Option Bool
 | 0, _, _ => none
 | n42 + 1, s5_43, s6_44 => (addC ((a0.l.length : Nat) : Int) ((a1.l.length : Nat) : Int)).bind fun x49 => bif (decide (s6_44 < x49)) then (bif (decide (s6_44 < ((a0.l.length : Nat) : Int))) then ((idxC a0.l s6_44).bind fun x69 => Z16_j55 s5_43 s6_44 ((Z16_l42 a0 a1 n42)) x69) else ((subC s6_44 ((a0.l.length : Nat) : Int)).bind fun x71 => (idxC a1.l x71).bind fun x72 => Z16_j55 s5_43 s6_44 ((Z16_l42 a0 a1 n42)) x72)) else (Z16_j9 a0 a1  s5_43)
def Z16 (a0 : (Sl TArg)) (a1 : (Sl TArg)) : Option Bool := bif ((decide ((20 : Int) < ((a0.l.length : Nat) : Int))) || (decide ((20 : Int) < ((a1.l.length : Nat) : Int)))) then ((Z17 ).bind fun x7 => some x7) else (Z16_l42 a0 a1 F0 true (0 : Int))
theorem Z16_walk {a0 : (Sl TArg)} {a1 : (Sl TArg)} {w0 : Option Nat} {w1 : Option Nat} {oT : Ab.Obj} {gT : Nat} {r : Bool} (hE : Z16 a0 a1 = some r) (H : Heap) (hgT : H gT = some oT) (hoT : IsTab Tryd.prog oT) : ACalls Tryd.prog 3 [.d (Sl.d 6 TArg.c w0 a0), .d (Sl.d 6 TArg.c w1 a1)] H fun v h' => v = .a (.d (.bool r)) ∧ h' = H := by
 unfold Z16 at hE
 refine ACalls.of_wp (fn := Tryd.f3) (c := _) Tryd.tab_ok (fun _ _ => Tryd.call3 _ _) Tryd.func3 rfl (n := 132) rfl (rs := [.tmp 4]) rfl rfl ?_
 refine seqK fun K1 hK1 => ?_
 refine region ?_
 refine s0 assignA rfl ?_
 refine nil ?_
 refine hK1 _ ?_
 clear hK1 K1
 refine seqK fun K2 hK2 => ?_
 refine seqK fun K3 hK3 => ?_
 refine region ?_
 refine s0 moveA rfl ?_
 refine sLen (f := TArg.c) (s := a0) (TK rfl) rfl rfl rfl rfl fun hL4 => ?_
 refine s0 (binI rfl rfl rfl) rfl ?_
 refine s0 moveA rfl ?_
 refine gC rfl rfl (fun hC => moveA) rfl ?_
 refine gC rfl rfl (fun hC => ungdA (k := 17) rfl (lenM' (f := TArg.c) (s := a1) (TK rfl) rfl rfl rfl)) rfl ?_
 refine gC rfl rfl (fun hC => ungdA (k := 18) rfl (binI rfl rfl rfl)) rfl ?_
 refine s0 (pickOrA rfl rfl rfl) rfl ?_
 refine nil ?_
 refine hK3 _ ?_
 clear hK3 K3
 refine condE hE rfl (fun hc5 hE => ?_) (fun hc5 hE => ?_)
 ·refine seqK fun K6 hK6 => ?_
  refine region ?_
  obtain ⟨x7, gx7, hE⟩ := bindO_some hE
  refine s0 (callR rfl rfl (Z17_walk (gT := gT) (oT := oT) gx7 _ hpG (by assumption))) rfl ?_
  refine s0 assignA rfl ?_
  refine nil ?_
  refine hK6 _ ?_
  clear hK6 K6
  refine AWp.ret ?_
  repeat (first | refine xBlock_ret ?_ | refine xThen_ret ?_)
  obtain rfl := Option.some.inj hE
  refine retQ.retF H rfl ⟨rfl, rfl⟩ ?_
  exact (fun _ _ h => h)
 refine AWp.skip ?_
 refine hK2 _ ?_
 clear hK2 K2
 refine seqK fun K8 hK8 => ?_
 refine region ?_
 refine s0 assignA rfl ?_
 refine nil ?_
 refine hK8 _ ?_
 clear hK8 K8
 refine seqJH (KeepsT.A (k := 0) (KeepsT.A (k := 1) KeepsT.nil)) (fun (z : Bool) => [(5, .a (.d (.bool z)))]) (fun z => H) (fun z => Z16_j9 a0 a1 z = some r) ?_ ?_
 ·intro K9 hK9
  refine seqK fun K41 hK41 => ?_
  refine region ?_
  refine s0 assignA rfl ?_
  refine nil ?_
  refine hK41 _ ?_
  clear hK41 K41
  refine block ?_
  refine loopH (KeepsT.A (k := 0) (KeepsT.A (k := 1) KeepsT.nil)) (fun (z : Nat × Bool × Int) => [(5, .a (.d (.bool z.2.1))), (6, .a (.d (.int .i64 z.2.2)))]) (fun z => H) (fun z => z.1) (fun z => Z16_l42 a0 a1 z.1 z.2.1 z.2.2 = some r) (F0, true, (0 : Int)) hE Weak.toA ?_
  rintro ⟨n42, s5_43, s6_44⟩ hE K42 hK42
  try dsimp only at hE
  cases n42 with
  | zero => cases hE
  | succ n42 =>
    rw [Z16_l42] at hE
    refine seqK fun K45 hK45 => ?_
    refine seqK fun K46 hK46 => ?_
    refine region ?_
    refine s0 moveA rfl ?_
    refine s0 moveA rfl ?_
    refine sLen (f := TArg.c) (s := a0) (TK rfl) rfl rfl rfl rfl fun hL47 => ?_
    refine s0 moveA rfl ?_
    refine sLen (f := TArg.c) (s := a1) (TK rfl) rfl rfl rfl rfl fun hL48 => ?_
    obtain ⟨x49, gx49, hE⟩ := bindO_some hE
    refine s0 (addM rfl rfl gx49) rfl ?_
    refine s0 (binI rfl rfl rfl) rfl ?_
    refine nil ?_
    refine hK46 _ ?_
    clear hK46 K46
    refine condE hE rfl (fun hc50 hE => ?_) (fun hc50 hE => ?_)
    ·refine AWp.skip ?_
     refine hK45 _ ?_
     clear hK45 K45
     refine seqJH (KeepsT.A (k := 0) (KeepsT.A (k := 1) (KeepsT.A (k := 6) KeepsT.nil))) (fun (z : Bool) => [(5, .a (.d (.bool z)))]) (fun z => H) (fun z => Z16_j51 s6_44 ((Z16_l42 a0 a1 n42)) z = some r) ?_ ?_
     ·intro K51 hK51
      refine block ?_
      refine seqK fun K54 hK54 => ?_
      refine region ?_
      refine s0 (build Tryd.tab_ok rfl rfl rfl rfl rfl rfl) rfl ?_
      refine sL (allocLA (TK rfl) rfl) rfl ?_
      refine sLn (storeLFA (TK rfl) rfl rfl rfl rfl rfl) ?_
      refine nil ?_
      refine hK54 _ ?_
      clear hK54 K54
      refine seqJ (KeepsT.A (k := 0) (KeepsT.A (k := 1) (KeepsT.A (k := 5) (KeepsT.A (k := 6) (KeepsT.A (k := 7) KeepsT.nil))))) (fun (z : TArg) => []) (fun z => [TArg.c z]) (fun z => H) (fun z => Z16_j55 s5_43 s6_44 ((Z16_l42 a0 a1 n42)) z = some r) ?_ ?_
      ·intro K55 hK55
       refine seqK fun K66 hK66 => ?_
       refine region ?_
       refine s0 moveA rfl ?_
       refine s0 moveA rfl ?_
       refine sLen (f := TArg.c) (s := a0) (TK rfl) rfl rfl rfl rfl fun hL67 => ?_
       refine s0 (binI rfl rfl rfl) rfl ?_
       refine nil ?_
       refine hK66 _ ?_
       clear hK66 K66
       refine condE hE rfl (fun hc68 hE => ?_) (fun hc68 hE => ?_)
       ·refine region ?_
        refine s0 moveA rfl ?_
        refine s0 moveA rfl ?_
        obtain ⟨x69, gx69, hE⟩ := bindO_some hE
        refine s0 (idxM (f := TArg.c) (TK rfl) rfl (TK rfl) rfl rfl rfl gx69) rfl ?_
        refine s0 (loadV (TK rfl) rfl rfl rfl) rfl ?_
        refine sLn (storeLFA (TK rfl) rfl rfl rfl rfl rfl) ?_
        refine nil ?_
        exact hK55 _ x69 Weak.toA hE
       refine region ?_
       refine s0 moveA rfl ?_
       refine s0 moveA rfl ?_
       refine s0 moveA rfl ?_
       refine sLen (f := TArg.c) (s := a0) (TK rfl) rfl rfl rfl rfl fun hL70 => ?_
       obtain ⟨x71, gx71, hE⟩ := bindO_some hE
       refine s0 (subM rfl rfl gx71) rfl ?_
       obtain ⟨x72, gx72, hE⟩ := bindO_some hE
       refine s0 (idxM (f := TArg.c) (TK rfl) rfl (TK rfl) rfl rfl rfl gx72) rfl ?_
       refine s0 (loadV (TK rfl) rfl rfl rfl) rfl ?_
       refine sLn (storeLFA (TK rfl) rfl rfl rfl rfl rfl) ?_
       refine nil ?_
       exact hK55 _ x72 Weak.toA hE
      rintro y56_l0 hE
      try dsimp only at hE
      unfold Z16_j55 at hE
      refine seqK fun K57 hK57 => ?_
      refine seqK fun K58 hK58 => ?_
      refine region ?_
      refine s0 (fieldL (TK rfl) rfl rfl (TK rfl) rfl rfl) rfl ?_
      refine s0 (loadL (TK rfl) rfl rfl rfl rfl) rfl ?_
      obtain ⟨x59, gx59, hE⟩ := bindO_some hE
      refine s0 (callP rfl rfl (fun H => Z34_walk gx59 H)) rfl ?_
      refine s0 (binI rfl rfl rfl) rfl ?_
      refine nil ?_
      refine hK58 _ ?_
      clear hK58 K58
      refine condE hE rfl (fun hc60 hE => ?_) (fun hc60 hE => ?_)
      ·refine seqK fun K61 hK61 => ?_
       refine region ?_
       obtain ⟨x62, gx62, hE⟩ := bindO_some hE
       refine s0 (callR rfl rfl (Z17_walk (gT := gT) (oT := oT) gx62 _ hpG (by assumption))) rfl ?_
       refine s0 assignA rfl ?_
       refine nil ?_
       refine hK61 _ ?_
       clear hK61 K61
       refine AWp.ret ?_
       repeat (first | refine xBlock_ret ?_ | refine xThen_ret ?_)
       obtain rfl := Option.some.inj hE
       refine retQ.retF H rfl ⟨rfl, rfl⟩ ?_
       exact (fun _ _ h => h)
      refine AWp.skip ?_
      refine hK57 _ ?_
      clear hK57 K57
      refine seqK fun K63 hK63 => ?_
      refine region ?_
      refine s0 (fieldL (TK rfl) rfl rfl (TK rfl) rfl rfl) rfl ?_
      refine s0 (loadL (TK rfl) rfl rfl rfl rfl) rfl ?_
      refine s0 (buildSlice (TK rfl) rfl (TK rfl) rfl rfl rfl rfl rfl rfl) rfl ?_
      refine s0 (fieldL (TK rfl) rfl rfl (TK rfl) rfl rfl) rfl ?_
      refine s0 (loadL (TK rfl) rfl rfl rfl rfl) rfl ?_
      refine s0 (buildSlice (TK rfl) rfl (TK rfl) rfl rfl rfl rfl rfl rfl) rfl ?_
      refine s0 (build Tryd.tab_ok rfl rfl rfl rfl rfl rfl) rfl ?_
      refine sL (allocLA (TK rfl) rfl) rfl ?_
      refine sLn (storeLFA (TK rfl) rfl rfl rfl rfl rfl) ?_
      refine AOps.relocal 1 (TValue.c (TValue.mk (6 : Int) (0 : Int) ([] : Bs) ((⟨false, [y56_l0.FValue]⟩ : Sl TValue).nl) ((⟨false, [y56_l0.FValue]⟩ : Sl TValue).l) (⟨false, [y56_l0.FName]⟩ : Sl Bs))) rfl (fun j w cs hh hx => by rw [TValue.cu_eq]; exact hx) ?_
      refine nil ?_
      refine hK63 _ ?_
      clear hK63 K63
      refine freezeA 8 _ rfl (Keeps.c (k := 0) (by conv => lhs; whnf) (by rfl) (Keeps.c (k := 1) (by conv => lhs; whnf) (by rfl) (Keeps.c (k := 5) (by conv => lhs; whnf) (by rfl) (Keeps.c (k := 6) (by conv => lhs; whnf) (by rfl) Keeps.nil)))) ?_
      refine region ?_
      refine s0 moveA rfl ?_
      refine s0 moveA rfl ?_
      refine gC rfl rfl (fun hC => loadV (TK rfl) rfl rfl rfl) rfl ?_
      obtain ⟨x64, gx64, hE⟩ := guardO_some hE
      refine gC rfl rfl (fun hC => ungdA (k := 61) rfl (callP rfl rfl (fun H => Z27_walk (gx64 hC) H))) rfl ?_
      refine s0 (pickAndA rfl rfl rfl) rfl ?_
      refine s0 moveA rfl ?_
      refine gC rfl rfl (fun hC => loadV (TK rfl) rfl rfl rfl) rfl ?_
      obtain ⟨x65, gx65, hE⟩ := guardO_some hE
      refine gC rfl rfl (fun hC => ungdA (k := 65) rfl (callP rfl rfl (fun H => Z28_walk (gx65 hC) H))) rfl ?_
      refine s0 (pickAndA rfl rfl rfl) rfl ?_
      refine s0 assignA rfl ?_
      refine nil ?_
      exact hK51 _ ((s5_43 && x64) && x65) Weak.toA hE
     rintro s5_52 hE
     try dsimp only at hE
     unfold Z16_j51 at hE
     refine region ?_
     refine s0 moveA rfl ?_
     obtain ⟨x53, gx53, hE⟩ := bindO_some hE
     refine s0 (addM rfl rfl gx53) rfl ?_
     refine s0 assignA rfl ?_
     refine nil ?_
     exact hK42 _ (n42, s5_52, x53) Weak.toA hE (Nat.lt_succ_self _)
    refine AWp.exit ?_
    exact hK9 _ s5_43 Weak.toA hE
 rintro s5_10 hE
 try dsimp only at hE
 unfold Z16_j9 at hE
 refine seqK fun K11 hK11 => ?_
 refine region ?_
 refine s0 moveA rfl ?_
 obtain ⟨x12, gx12, hE⟩ := bindO_some hE
 refine s0 (callR rfl rfl (Z3_walk (gT := gT) (oT := oT) gx12 _ hpG (by assumption))) rfl ?_
 refine s0 moveA rfl ?_
 obtain ⟨x13, gx13, hE⟩ := bindO_some hE
 refine s0 (callR rfl rfl (Z3_walk (gT := gT) (oT := oT) gx13 _ hpG (by assumption))) rfl ?_
 refine s0 assignA rfl ?_
 refine s0 assignA rfl ?_
 refine nil ?_
 refine hK11 _ ?_
 clear hK11 K11
 refine seqK fun K14 hK14 => ?_
 refine seqK fun K15 hK15 => ?_
 refine region ?_
 refine s0 moveA rfl ?_
 refine s0 moveA rfl ?_
 obtain ⟨x16, gx16, hE⟩ := bindO_some hE
 refine s0 (callP rfl rfl (fun H => Z35_walk gx16 H)) rfl ?_
 refine s0 (binS rfl rfl rfl) rfl ?_
 refine s0 moveA rfl ?_
 refine gC rfl rfl (fun hC => moveA) rfl ?_
 refine gC rfl rfl (fun hC => moveA) rfl ?_
 obtain ⟨x17, gx17, hE⟩ := guardO_some hE
 refine gC rfl rfl (fun hC => ungdA (k := 78) rfl (callP rfl rfl (fun H => Z35_walk (gx17 hC) H))) rfl ?_
 refine gC rfl rfl (fun hC => ungdA (k := 77) rfl (ungdA (k := 79) rfl (binS rfl rfl rfl))) rfl ?_
 refine s0 (pickOrA rfl rfl rfl) rfl ?_
 refine nil ?_
 refine hK15 _ ?_
 clear hK15 K15
 refine condE hE rfl (fun hc18 hE => ?_) (fun hc18 hE => ?_)
 ·refine seqK fun K19 hK19 => ?_
  refine region ?_
  refine s0 assignA rfl ?_
  refine nil ?_
  refine hK19 _ ?_
  clear hK19 K19
  refine AWp.ret ?_
  repeat (first | refine xBlock_ret ?_ | refine xThen_ret ?_)
  obtain rfl := Option.some.inj hE
  refine retQ.retF H rfl ⟨rfl, rfl⟩ ?_
  exact (fun _ _ h => h)
 refine AWp.skip ?_
 refine hK14 _ ?_
 clear hK14 K14
 refine seqK fun K20 hK20 => ?_
 refine region ?_
 refine s0 moveA rfl ?_
 refine sLen (f := TArg.c) (s := a0) (TK rfl) rfl rfl rfl rfl fun hL21 => ?_
 refine s0 moveA rfl ?_
 refine sLen (f := TArg.c) (s := a1) (TK rfl) rfl rfl rfl rfl fun hL22 => ?_
 refine s0 (binI rfl rfl rfl) rfl ?_
 refine s0 assignA rfl ?_
 refine nil ?_
 refine hK20 _ ?_
 clear hK20 K20
 refine seqJH (KeepsT.A (k := 5) (KeepsT.A (k := 9) (KeepsT.A (k := 10) KeepsT.nil))) (fun (z : Bool) => [(11, .a (.d (.bool z)))]) (fun z => H) (fun z => Z16_j23 s5_10 x12 x13 z = some r) ?_ ?_
 ·intro K23 hK23
  refine seqK fun K27 hK27 => ?_
  refine region ?_
  refine s0 assignA rfl ?_
  refine nil ?_
  refine hK27 _ ?_
  clear hK27 K27
  refine block ?_
  refine loopH (KeepsT.A (k := 0) (KeepsT.A (k := 1) (KeepsT.A (k := 5) (KeepsT.A (k := 9) (KeepsT.A (k := 10) KeepsT.nil))))) (fun (z : Nat × Bool × Int) => [(11, .a (.d (.bool z.2.1))), (12, .a (.d (.int .i64 z.2.2)))]) (fun z => H) (fun z => z.1) (fun z => Z16_l28 a0 a1 s5_10 x12 x13 z.1 z.2.1 z.2.2 = some r) (F0, (decide (((a0.l.length : Nat) : Int) = ((a1.l.length : Nat) : Int))), (0 : Int)) hE Weak.toA ?_
  rintro ⟨n28, s11_29, s12_30⟩ hE K28 hK28
  try dsimp only at hE
  cases n28 with
  | zero => cases hE
  | succ n28 =>
    rw [Z16_l28] at hE
    refine seqK fun K31 hK31 => ?_
    refine seqK fun K32 hK32 => ?_
    refine region ?_
    refine s0 moveA rfl ?_
    refine s0 moveA rfl ?_
    refine gC rfl rfl (fun hC => moveA) rfl ?_
    refine gC rfl rfl (fun hC => moveA) rfl ?_
    refine gC rfl rfl (fun hC => ungdA (k := 90) rfl (lenM' (f := TArg.c) (s := a0) (TK rfl) rfl rfl rfl)) rfl ?_
    refine gC rfl rfl (fun hC => ungdA (k := 89) rfl (ungdA (k := 91) rfl (binI rfl rfl rfl))) rfl ?_
    refine s0 (pickAndA rfl rfl rfl) rfl ?_
    refine nil ?_
    refine hK32 _ ?_
    clear hK32 K32
    refine condE hE rfl (fun hc33 hE => ?_) (fun hc33 hE => ?_)
    ·refine AWp.skip ?_
     refine hK31 _ ?_
     clear hK31 K31
     refine seqK fun K34 hK34 => ?_
     refine block ?_
     refine AWp.draw rfl ?_
     refine DOps.s0 moveA rfl ?_
     refine DOps.s0 moveA rfl ?_
     obtain ⟨x35, gx35, hE⟩ := bindO_some hE
     refine DOps.s0 (idxM (f := TArg.c) (TK rfl) rfl (TK rfl) rfl rfl rfl gx35) rfl ?_
     refine DOps.s0 (fieldVA (TK rfl) rfl rfl (TK rfl) rfl rfl) rfl ?_
     refine DOps.s0 (loadV (TK rfl) rfl rfl rfl) rfl ?_
     refine DOps.s0 moveA rfl ?_
     refine DOps.s0 moveA rfl ?_
     obtain ⟨x36, gx36, hE⟩ := bindO_some hE
     refine DOps.s0 (idxM (f := TArg.c) (TK rfl) rfl (TK rfl) rfl rfl rfl gx36) rfl ?_
     refine DOps.s0 (fieldVA (TK rfl) rfl rfl (TK rfl) rfl rfl) rfl ?_
     refine DOps.s0 (loadV (TK rfl) rfl rfl rfl) rfl ?_
     refine DOps.s0 (binS rfl rfl rfl) rfl ?_
     refine DOps.s0 moveA rfl ?_
     refine DOps.gC rfl rfl (fun hC => moveA) rfl ?_
     refine DOps.gC rfl rfl (fun hC => moveA) rfl ?_
     obtain ⟨x37, gx37, hE⟩ := guardO_some hE
     refine DOps.gC rfl rfl (fun hC => ungdA (k := 108) rfl (ungdA (k := 109) rfl (idxM (f := TArg.c) (TK rfl) rfl (TK rfl) rfl rfl rfl (gx37 hC)))) rfl ?_
     refine DOps.gC rfl rfl (fun hC => ungdA (k := 110) rfl (fieldVA (TK rfl) rfl rfl (TK rfl) rfl rfl)) rfl ?_
     refine DOps.gC rfl rfl (fun hC => ungdA (k := 111) rfl (loadV (TK rfl) rfl rfl rfl)) rfl ?_
     refine DOps.gC rfl rfl (fun hC => moveA) rfl ?_
     refine DOps.gC rfl rfl (fun hC => moveA) rfl ?_
     obtain ⟨x38, gx38, hE⟩ := guardO_some hE
     refine DOps.gC rfl rfl (fun hC => ungdA (k := 113) rfl (ungdA (k := 114) rfl (idxM (f := TArg.c) (TK rfl) rfl (TK rfl) rfl rfl rfl (gx38 hC)))) rfl ?_
     refine DOps.gC rfl rfl (fun hC => ungdA (k := 115) rfl (fieldVA (TK rfl) rfl rfl (TK rfl) rfl rfl)) rfl ?_
     refine DOps.gC rfl rfl (fun hC => ungdA (k := 116) rfl (loadV (TK rfl) rfl rfl rfl)) rfl ?_
     obtain ⟨x39, gx39, hE⟩ := guardO_some hE
     refine DOps.gC rfl rfl (fun hC => ungdA (k := 112) rfl (ungdA (k := 117) rfl (callP rfl rfl (fun H => Z33_walk (gx39 hC) H)))) rfl ?_
     refine DOps.s0 (pickAndA rfl rfl rfl) rfl ?_
     refine DOps.s0 assignA rfl ?_
     refine DOps.nil (by decide +kernel) ?_
     refine hK34 _ ?_
     clear hK34 K34
     refine region ?_
     refine s0 moveA rfl ?_
     obtain ⟨x40, gx40, hE⟩ := bindO_some hE
     refine s0 (addM rfl rfl gx40) rfl ?_
     refine s0 assignA rfl ?_
     refine nil ?_
     exact hK28 _ (n28, (((x35.FName == x36.FName)) && x39), x40) Weak.toA hE (Nat.lt_succ_self _)
    refine AWp.exit ?_
    exact hK23 _ s11_29 Weak.toA hE
 rintro s11_24 hE
 try dsimp only at hE
 unfold Z16_j23 at hE
 refine seqK fun K25 hK25 => ?_
 refine region ?_
 refine s0 moveA rfl ?_
 refine s0 (notB rfl) rfl ?_
 refine s0 moveA rfl ?_
 refine gC rfl rfl (fun hC => moveA) rfl ?_
 refine gC rfl rfl (fun hC => moveA) rfl ?_
 refine gC rfl rfl (fun hC => ungdA (k := 123) rfl (ungdA (k := 124) rfl (binS rfl rfl rfl))) rfl ?_
 refine gC rfl rfl (fun hC => moveA) rfl ?_
 refine gC rfl rfl (fun hC => ungdA (k := 125) rfl (ungdA (k := 126) rfl (eqB (TK rfl) rfl rfl rfl))) rfl ?_
 refine s0 (pickOrA rfl rfl rfl) rfl ?_
 refine s0 moveA rfl ?_
 obtain ⟨x26, gx26, hE⟩ := guardO_some hE
 refine gC rfl rfl (fun hC => callR rfl rfl (Z17_walk (gT := gT) (oT := oT) (gx26 hC) _ hpG (by assumption))) rfl ?_
 refine s0 (pickAndA rfl rfl rfl) rfl ?_
 refine s0 assignA rfl ?_
 refine nil ?_
 refine hK25 _ ?_
 clear hK25 K25
 refine AWp.ret ?_
 repeat (first | refine xBlock_ret ?_ | refine xThen_ret ?_)
 obtain rfl := Option.some.inj hE
 refine retQ.retF H rfl ⟨rfl, rfl⟩ ?_
 exact (fun _ _ h => h)
end
end Go.Proofs

namespace Go.Proofs
open Go Go.Ab
def Z56_q (a0 : Int) : Option Bs := (Z50_q a0).bind fun x3 => some x3
theorem Z56_eq (a0 : Int) : Z56 a0 = Z56_q a0 := by
 unfold Z56 Z56_q
 refine Eq.trans ?_ (Q.some_bind _)
 refine Q.bindO (Z50_eq _) fun x3 => ?_
 all_goals rfl
def Z53_q (a0 : Strings_Builder) (a1 : Bs) : Option (Int × Unit × Strings_Builder) := (Z54_q a0).bind fun x3 => (appC 1 x3.Fbuf (strSl a1)).bind fun x5 => some (((a1.length : Nat) : Int), (), (Strings_Builder.mk x3.Faddr x5))
theorem Z53_eq (a0 : Strings_Builder) (a1 : Bs) : Z53 a0 a1 = Z53_q a0 a1 := by
 unfold Z53 Z53_q
 refine Eq.trans ?_ (Q.some_bind _)
 refine Q.bindO (Z54_eq _) fun x3 => ?_
 refine Q.bindO rfl fun x5 => ?_
 all_goals rfl
def Z52_q (a0 : Strings_Builder) (a1 : Int) : Option (Unit × Strings_Builder) := (Z54_q a0).bind fun x3 => (appC 1 x3.Fbuf (⟨false, [a1]⟩ : Sl Int)).bind fun x5 => some ((), (Strings_Builder.mk x3.Faddr x5))
theorem Z52_eq (a0 : Strings_Builder) (a1 : Int) : Z52 a0 a1 = Z52_q a0 a1 := by
 unfold Z52 Z52_q
 refine Eq.trans ?_ (Q.some_bind _)
 refine Q.bindO (Z54_eq _) fun x3 => ?_
 refine Q.bindO rfl fun x5 => ?_
 all_goals rfl
def Z57_q15  : List UInt8 → Strings_Builder → Option (Strings_Builder)
 | [], y17_id3_3 => some y17_id3_3
 | h15 :: r15, y17_id3_3 => on (h15) fun x25 => on (bif (decide (((x25.toNat : Nat) : Int) = (34 : Int))) then ((decide (((x25.toNat : Nat) : Int) = (34 : Int)))) else ((decide (((x25.toNat : Nat) : Int) = (92 : Int))))) fun s33_28 => Option.bind (bif s33_28 then ((Z52_q y17_id3_3 (92 : Int)).bind fun x31 => (Z52_q x31.2 ((x25.toNat : Nat) : Int)).bind fun x32 => some x32.2) else (bif (decide (((x25.toNat : Nat) : Int) = (10 : Int))) then ((Z53_q y17_id3_3 ([92, 110] : Bs)).bind fun x35 => some x35.2.2) else (bif (decide (((x25.toNat : Nat) : Int) = (13 : Int))) then ((Z53_q y17_id3_3 ([92, 114] : Bs)).bind fun x38 => some x38.2.2) else (bif (decide (((x25.toNat : Nat) : Int) = (9 : Int))) then ((Z53_q y17_id3_3 ([92, 116] : Bs)).bind fun x41 => some x41.2.2) else (bif ((decide ((32 : Int) ≤ ((x25.toNat : Nat) : Int))) && (decide (((x25.toNat : Nat) : Int) ≤ (126 : Int)))) then ((Z52_q y17_id3_3 ((x25.toNat : Nat) : Int)).bind fun x46 => some x46.2) else ((Z53_q y17_id3_3 ([92, 117, 48, 48] : Bs)).bind fun x48 => (idxC ([48, 49, 50, 51, 52, 53, 54, 55, 56, 57, 97, 98, 99, 100, 101, 102] : Bs) (Int.fdiv ((x25.toNat : Nat) : Int) (2 ^ (min (Int.toNat 4) (IntKind.bits .u8))))).bind fun x50 => (Z52_q x48.2.2 ((x50.toNat : Nat) : Int)).bind fun x51 => (idxC ([48, 49, 50, 51, 52, 53, 54, 55, 56, 57, 97, 98, 99, 100, 101, 102] : Bs) (IntKind.wrap .u8 ((BitVec.ofInt (IntKind.bits .u8) ((x25.toNat : Nat) : Int) &&& BitVec.ofInt (IntKind.bits .u8) (15 : Int)).toNat : Int))).bind fun x52 => (Z52_q x51.2 ((x52.toNat : Nat) : Int)).bind fun x53 => some x53.2)))))) fun y22_id3_3 => Z57_q15  (r15) y22_id3_3
theorem Z57_l15_qe {a0 : Bs}  (Kb15 : (Strings_Builder) → Option Bs) (hend : ∀ (n15 : Nat) (s9_16 : Nat) (y17_id3_3 : Strings_Builder), Z57_j7   y17_id3_3 = Kb15 y17_id3_3) : ∀ (n15 : Nat) (s9_16 : Nat) (y17_id3_3 : Strings_Builder), (0 < n15 ∧ a0.length < s9_16 + n15) → Z57_l15 a0 n15 s9_16 y17_id3_3 = Option.bind (Z57_q15  (a0.drop s9_16) y17_id3_3) Kb15 := by
 intro n15
 induction n15 with
 | zero => intro s9_16 y17_id3_3 hn; exact absurd hn.1 (by omega)
 | succ n15 ih15 =>
  intro s9_16 y17_id3_3 hn
  rw [Z57_l15]
  by_cases hlt : s9_16 < a0.length
  ·obtain ⟨h15, hh15⟩ : ∃ x, a0[s9_16]? = some x := ⟨_, List.getElem?_eq_getElem hlt⟩
   rw [Q.drop_of hh15, Z57_q15]
   refine Q.condT (Q.ltT hlt) ?_
   refine Q.bindPO hh15 fun x25 hx_x25 => ?_
   refine Q.wrapPO fun Kj27 hKj27 => ?_
   have hj27 : ∀ (s33_28 : Bool), Z57_j27 s9_16 y17_id3_3 x25 (Z57_l15 a0 n15) s33_28 = Kj27 s33_28 := by
    intro s33_28
    refine Eq.trans ?_ (hKj27 _).symm
    unfold Z57_j27
    refine Q.wrapOO fun Kj21 hKj21 => ?_
    have hj21 : ∀ (y22_id3_3 : Strings_Builder), Z57_j21 s9_16 (Z57_l15 a0 n15) y22_id3_3 = Kj21 y22_id3_3 := by
     intro y22_id3_3
     refine Eq.trans ?_ (hKj21 _).symm
     unfold Z57_j21
     all_goals exact ih15 _ _ ⟨by omega, by omega⟩
    refine Q.condO ?_ ?_
    ·refine Q.bindO (Z52_eq _ _) fun x31 => ?_
     refine Q.bindO (Z52_eq _ _) fun x32 => ?_
     all_goals exact hj21 _
    refine Q.condO ?_ ?_
    ·refine Q.bindO (Z53_eq _ _) fun x35 => ?_
     all_goals exact hj21 _
    refine Q.condO ?_ ?_
    ·refine Q.bindO (Z53_eq _ _) fun x38 => ?_
     all_goals exact hj21 _
    refine Q.condO ?_ ?_
    ·refine Q.bindO (Z53_eq _ _) fun x41 => ?_
     all_goals exact hj21 _
    refine Q.condO ?_ ?_
    ·refine Q.bindO (Z52_eq _ _) fun x46 => ?_
     all_goals exact hj21 _
    refine Q.bindO (Z53_eq _ _) fun x48 => ?_
    refine Q.bindO rfl fun x50 => ?_
    refine Q.bindO (Z52_eq _ _) fun x51 => ?_
    refine Q.bindO rfl fun x52 => ?_
    refine Q.bindO (Z52_eq _ _) fun x53 => ?_
    all_goals exact hj21 _
   refine Q.condP ?_ ?_
   ·all_goals exact hj27 _
   all_goals exact hj27 _
  rw [List.drop_of_length_le (by omega), Z57_q15]
  refine Q.condF (Q.ltF hlt) ?_
  exact hend n15 s9_16 y17_id3_3
def Z57_q (a0 : Bs) : Option Bs := (Z52_q Strings_Builder.zero (34 : Int)).bind fun x6 => Option.bind (Z57_q15  a0 x6.2) fun y17_id3_3 => on (y17_id3_3) fun y8_id3_3 => (Z52_q y8_id3_3 (34 : Int)).bind fun x10 => (Z51_q x10.2).bind fun x12 => some x12
theorem Z57_eq (a0 : Bs) : Z57 a0 = Z57_q a0 := by
 unfold Z57 Z57_q
 refine Eq.trans ?_ (Q.some_bind _)
 refine Q.bindO (Z52_eq _ _) fun x6 => ?_
 refine Q.wrapOO fun Kb15 hKb15 => ?_
 refine Z57_l15_qe  Kb15 ?_ _ _ _ ⟨Nat.succ_pos _, by omega⟩
 intro n15 s9_16 y17_id3_3
 refine Eq.trans ?_ (hKb15 _).symm
 refine Q.wrapPO fun Kj7 hKj7 => ?_
 have hj7 : ∀ (y8_id3_3 : Strings_Builder), Z57_j7  y8_id3_3 = Kj7 y8_id3_3 := by
  intro y8_id3_3
  refine Eq.trans ?_ (hKj7 _).symm
  unfold Z57_j7
  refine Q.bindO (Z52_eq _ _) fun x10 => ?_
  refine Q.bindO (Z51_eq _) fun x12 => ?_
  all_goals rfl
 all_goals exact hj7 _
def Z3_q9  : List TArg → (Sl Bs) → Option ((Sl Bs))
 | [], s3_10 => some s3_10
 | h9 :: r9, s3_10 => on (h9) fun x17 => (catC x17.FName ([58, 32] : Bs)).bind fun x18 => (Z15 x17.FValue).bind fun x19 => (catC x18 x19).bind fun x20 => (appC 16 s3_10 (⟨false, [x20]⟩ : Sl Bs)).bind fun x21 => Z3_q9  (r9) x21
theorem Z3_l9_qe {a0 : (Sl TArg)}  (Kb9 : ((Sl Bs)) → Option Bs) (hend : ∀ (n9 : Nat) (s3_10 : (Sl Bs)) (s8_11 : Nat), Z3_j3   s3_10 = Kb9 s3_10) : ∀ (n9 : Nat) (s3_10 : (Sl Bs)) (s8_11 : Nat), (0 < n9 ∧ a0.l.length < s8_11 + n9) → Z3_l9 a0 n9 s3_10 s8_11 = Option.bind (Z3_q9  (a0.l.drop s8_11) s3_10) Kb9 := by
 intro n9
 induction n9 with
 | zero => intro s3_10 s8_11 hn; exact absurd hn.1 (by omega)
 | succ n9 ih9 =>
  intro s3_10 s8_11 hn
  rw [Z3_l9]
  by_cases hlt : s8_11 < a0.l.length
  ·obtain ⟨h9, hh9⟩ : ∃ x, a0.l[s8_11]? = some x := ⟨_, List.getElem?_eq_getElem hlt⟩
   rw [Q.drop_of hh9, Z3_q9]
   refine Q.condT (Q.ltT hlt) ?_
   refine Q.bindPO hh9 fun x17 hx_x17 => ?_
   refine Q.bindO rfl fun x18 => ?_
   refine Q.bindO rfl fun x19 => ?_
   refine Q.bindO rfl fun x20 => ?_
   refine Q.bindO rfl fun x21 => ?_
   all_goals exact ih9 _ _ ⟨by omega, by omega⟩
  rw [List.drop_of_length_le (by omega), Z3_q9]
  refine Q.condF (Q.ltF hlt) ?_
  exact hend n9 s3_10 s8_11
def Z3_q (a0 : (Sl TArg)) : Option Bs := Option.bind (Z3_q9  a0.l (Sl.nil : Sl Bs)) fun s3_10 => on (s3_10) fun s3_4 => (Z55_q s3_4 ([44, 32] : Bs)).bind fun x6 => some x6
theorem Z3_eq (a0 : (Sl TArg)) : Z3 a0 = Z3_q a0 := by
 unfold Z3 Z3_q
 refine Eq.trans ?_ (Q.some_bind _)
 refine Q.wrapOO fun Kb9 hKb9 => ?_
 refine Z3_l9_qe  Kb9 ?_ _ _ _ ⟨Nat.succ_pos _, by omega⟩
 intro n9 s3_10 s8_11
 refine Eq.trans ?_ (hKb9 _).symm
 refine Q.wrapPO fun Kj3 hKj3 => ?_
 have hj3 : ∀ (s3_4 : (Sl Bs)), Z3_j3  s3_4 = Kj3 s3_4 := by
  intro s3_4
  refine Eq.trans ?_ (hKj3 _).symm
  unfold Z3_j3
  refine Q.bindO (Z55_eq _ _) fun x6 => ?_
  all_goals rfl
 all_goals exact hj3 _
def Z44_q (a0 : (Sl Bs)) : Option (Sl Bs) := bif a0.nl then (some (Sl.nil : Sl Bs)) else ((appC 16 (⟨false, []⟩ : Sl Bs) a0).bind fun x7 => some x7)
def Z64_q8 (k_rec_53 : TValue → Option TValue) : List TValue → (Sl TValue) → Option ((Sl TValue))
 | [], s3_9 => some s3_9
 | h8 :: r8, s3_9 => on (h8) fun x16 => (k_rec_53 x16).bind fun x17 => (appC 80 s3_9 (⟨false, [x17]⟩ : Sl TValue)).bind fun x18 => Z64_q8 k_rec_53 (r8) x18
mutual
def value_Copy_qn : Nat → TValue → Option TValue
 | 0, _ => none
 | n + 1, a0 => ((Z64_qn n) a0.FItems).bind fun x3 => (Z44_q a0.FKeys).bind fun x5 => some (TValue.mk a0.FKind a0.FInt a0.FText x3.nl x3.l x5)
def Z64_qn : Nat → (Sl TValue) → Option (Sl TValue)
 | 0, _ => none
 | n + 1, a0 => Option.bind (Z64_q8 (value_Copy_qn n) a0.l (Sl.nil : Sl TValue)) fun s3_9 => on (s3_9) fun s3_4 => some s3_4
end
def value_Copy_q (a0 : TValue) : Option TValue := value_Copy_qn F0 a0
def Z49_q6 (a1 : Bs) : List Bs → Nat → Unit ⊕ Int
 | [], s8_7 => Sum.inl ()
 | h6 :: r6, s8_7 => on (h6) fun x14 => bif ((a1 == x14)) then (Sum.inr ((s8_7 : Nat) : Int)) else (Z49_q6 a1 (r6) (s8_7 + 1) )
def Z49_q (a0 : (Sl Bs)) (a1 : Bs) : Int := on (Z49_q6 a1 a0.l 0 ) fun o6 => match o6 with | Sum.inl _ => (on (()) fun _ => (-1 : Int)) | Sum.inr e6 => (e6)
def Z62_q (a0 : TValue) (a1 : Bs) : Option (TValue × Bool) := on (Z49_q a0.FKeys a1) fun x3 => bif (((!decide (a0.FKind = (6 : Int))) || (decide (x3 < (0 : Int)))) || (decide (((a0.FItems.l.length : Nat) : Int) ≤ x3))) then (some ((TValue.mk (0 : Int) (0 : Int) ([] : Bs) true ([]) (Sl.nil : Sl Bs)), false)) else ((idxC a0.FItems.l x3).bind fun x9 => (value_Copy_q x9).bind fun x10 => some (x10, true))
def Z10_q (a0 : Coerce_coercer) (a1 : TValue) : Option Bool := bif ((!decide (a1.FKind = (7 : Int))) || (!a0.Fliteral)) then (some false) else ((Z62_q a0.Fvars a1.FText).bind fun x7 => some (!x7.2))
def Z37_q7 (a1 : Bs) : List TDef → Unit ⊕ ((TDef × Bool))
 | [] => Sum.inl ()
 | h7 :: r7 => on (h7) fun x15 => bif ((x15.FName == a1)) then (Sum.inr (x15, true)) else (Z37_q7 a1 (r7) )
def Z37_q (a0 : TDoc) (a1 : Bs) : (TDef × Bool) := on (Z37_q7 a1 a0.FDefs.l ) fun o7 => match o7 with | Sum.inl _ => (on (()) fun _ => ((TDef.mk (0 : Int) ([] : Bs) (Sl.nil : Sl Bs) (Sl.nil : Sl TDir) (Sl.nil : Sl TField) (Sl.nil : Sl TMember) (Sl.nil : Sl TInput)), false)) | Sum.inr e7 => (e7)
def Z42_q (a0 : TDoc) (a1 : Bs) : Int := on (Z37_q a0 a1) fun x3 => x3.1.FKind
def Z41_q (a0 : Bs) : Bool := (((((a0 == ([73, 110, 116] : Bs))) || ((a0 == ([83, 116, 114, 105, 110, 103] : Bs)))) || ((a0 == ([66, 111, 111, 108, 101, 97, 110] : Bs)))) || ((a0 == ([73, 68] : Bs))))
def Z40_q (a0 : TDoc) (a1 : Bs) : Bool := on (Z41_q a1) fun x3 => on (bif !x3 then Z42_q a0 a1 else (0 : Int)) fun x4 => (x3 || (decide (x4 = (4 : Int))))
def Z39_q (a0 : TDoc) (a1 : Bs) : Bool := on (Z40_q a0 a1) fun x3 => on (bif !x3 then Z42_q a0 a1 else (0 : Int)) fun x4 => (x3 || (decide (x4 = (5 : Int))))
def Z60_q (a0 : TRef) : Bool := on (bif (decide ((0 : Int) < ((a0.FWraps.l.length : Nat) : Int))) then ((a0.FWraps.l)[0]?.getD (0 : Int)) else (0 : Int)) fun x4 => ((decide ((0 : Int) < ((a0.FWraps.l.length : Nat) : Int))) && (decide (x4 = (1 : Int))))
def Z7_q (a0 : Coerce_coercer) (a1 : Int) : Option (Int × Coerce_coercer) := bif (decide ((24 : Int) < a1)) then (some ((5 : Int), a0)) else ((addC a0.Fnodes (1 : Int)).bind fun x7 => bif (decide ((4096 : Int) < x7)) then (some ((4 : Int), (Coerce_coercer.mk a0.Fd a0.Fvars a0.Fliteral x7))) else (some ((0 : Int), (Coerce_coercer.mk a0.Fd a0.Fvars a0.Fliteral x7))))
def Z13_q13 (a2 : Int) (k_rec_54 : Coerce_coercer → TValue → Int → Option (Int × Coerce_coercer)) : List TValue → Coerce_coercer → Option (Coerce_coercer ⊕ ((Int × Coerce_coercer)))
 | [], y15_c0 => some (Sum.inl y15_c0)
 | h13 :: r13, y15_c0 => on (h13) fun x21 => (addC a2 (1 : Int)).bind fun x23 => (k_rec_54 y15_c0 x21 x23).bind fun x24 => bif (!decide (x24.1 = (0 : Int))) then (some (Sum.inr (x24.1, x24.2))) else (Z13_q13 a2 k_rec_54 (r13) x24.2)
def Z13_qn : Nat → Coerce_coercer → TValue → Int → Option (Int × Coerce_coercer)
 | 0, _, _, _ => none
 | n + 1, a0, a1, a2 => (Z7_q a0 a2).bind fun x4 => bif (!decide (x4.1 = (0 : Int))) then (some (x4.1, x4.2)) else (Option.bind (Z13_q13 a2 (Z13_qn n) a1.FItems.l x4.2) fun o13 => match o13 with | Sum.inl y15_c0 => (on (y15_c0) fun y9_c0 => some ((0 : Int), y9_c0)) | Sum.inr e13 => (some e13))
def Z13_q (a0 : Coerce_coercer) (a1 : TValue) (a2 : Int) : Option (Int × Coerce_coercer) := Z13_qn F0 a0 a1 a2
def Z43_q (a0 : (Sl Int)) : Option (Sl Int) := bif a0.nl then (some (Sl.nil : Sl Int)) else ((appC 8 (⟨false, []⟩ : Sl Int) a0).bind fun x7 => some x7)
def Z61_q (a0 : TRef) : Option TRef := on (Z60_q a0) fun x8 => Option.bind (bif x8 then ((partC a0.FWraps (some (1 : Int)) none).bind fun x10 => some x10) else (some a0.FWraps)) fun s3_4 => (Z43_q s3_4).bind fun x6 => some (TRef.mk a0.FName x6)
def Z59_q (a0 : TRef) : Option Bool := (Z61_q a0).bind fun x3 => on (bif (decide ((0 : Int) < ((x3.FWraps.l.length : Nat) : Int))) then ((x3.FWraps.l)[0]?.getD (0 : Int)) else (0 : Int)) fun x6 => some ((decide ((0 : Int) < ((x3.FWraps.l.length : Nat) : Int))) && (decide (x6 = (2 : Int))))
def Z58_q (a0 : TRef) : Option (TRef × Bool) := (Z59_q a0).bind fun x4 => bif (!x4) then (some ((TRef.mk ([] : Bs) (Sl.nil : Sl Int)), false)) else ((Z61_q a0).bind fun x8 => (partC x8.FWraps (some (1 : Int)) none).bind fun x10 => some ((TRef.mk x8.FName x10), true))
def Z38_q7 (a1 : Bs) : List TInput → Unit ⊕ ((TInput × Bool))
 | [] => Sum.inl ()
 | h7 :: r7 => on (h7) fun x15 => bif ((x15.FName == a1)) then (Sum.inr (x15, true)) else (Z38_q7 a1 (r7) )
def Z38_q (a0 : (Sl TInput)) (a1 : Bs) : (TInput × Bool) := on (Z38_q7 a1 a0.l ) fun o7 => match o7 with | Sum.inl _ => (on (()) fun _ => ((TInput.mk ([] : Bs) TRef.zero false TValue.zero (Sl.nil : Sl TDir)), false)) | Sum.inr e7 => (e7)
def Z12_q (a0 : TValue) (a1 : Bool) (a2 : Coerce_coercer) : Coerce_coercer := (Coerce_coercer.mk a2.Fd a0 a1 a2.Fnodes)
def Z63_q (a0 : Bs) : TValue := (TValue.mk (3 : Int) (0 : Int) a0 true ([]) (Sl.nil : Sl Bs))
def Z48_q6 (a1 : (TMember → Bool)) : List TMember → Nat → Unit ⊕ Int
 | [], s8_7 => Sum.inl ()
 | h6 :: r6, s8_7 => on (h6) fun x14 => on (a1 x14) fun x15 => bif x15 then (Sum.inr ((s8_7 : Nat) : Int)) else (Z48_q6 a1 (r6) (s8_7 + 1) )
def Z48_q (a0 : (Sl TMember)) (a1 : (TMember → Bool)) : Int := on (Z48_q6 a1 a0.l 0 ) fun o6 => match o6 with | Sum.inl _ => (on (()) fun _ => (-1 : Int)) | Sum.inr e6 => (e6)
def Z46_q (a0 : (Sl TMember)) (a1 : (TMember → Bool)) : Bool := on (Z48_q a0 a1) fun x3 => (decide ((0 : Int) ≤ x3))
def Z9_q (a0 : TMember) (a1 : TValue) : Bool := ((a0.FName == a1.FText))
def Z8_q (a0 : Coerce_coercer) (a1 : Bs) (a2 : TValue) : Option (TValue × Int) := on (fun (s8_4 : Bool) (y5_l0 : TValue) => bif (!s8_4) then (some ((TValue.mk (0 : Int) (0 : Int) ([] : Bs) true ([]) (Sl.nil : Sl Bs)), (23 : Int))) else (some (y5_l0, (0 : Int)))) fun kj3 => bif ((a1 == ([73, 110, 116] : Bs))) then (kj3 (((decide (a2.FKind = (2 : Int))) && (decide ((-2147483648 : Int) ≤ a2.FInt))) && (decide (a2.FInt < (2147483648 : Int)))) a2) else (bif ((a1 == ([83, 116, 114, 105, 110, 103] : Bs))) then (kj3 (decide (a2.FKind = (3 : Int))) a2) else (bif ((a1 == ([66, 111, 111, 108, 101, 97, 110] : Bs))) then (kj3 (decide (a2.FKind = (1 : Int))) a2) else (bif ((a1 == ([73, 68] : Bs))) then (Option.bind (bif (decide (a2.FKind = (2 : Int))) then ((Z56_q a2.FInt).bind fun x24 => on (Z63_q x24) fun x25 => some x25) else (some a2)) fun y21_l0 => kj3 (decide (y21_l0.FKind = (3 : Int))) y21_l0) else (on (bif ((decide (a2.FKind = (3 : Int))) && (!a0.Fliteral)) then ((TValue.mk (4 : Int) a2.FInt a2.FText a2.FItems.nl a2.FItems.l a2.FKeys)) else (a2)) fun y27_l0 => on (Z37_q a0.Fd a1) fun x29 => on (bif (decide (y27_l0.FKind = (4 : Int))) then Z46_q x29.1.FMembers (fun y0 => Z9_q y0 y27_l0) else false) fun x30 => bif (!((decide (y27_l0.FKind = (4 : Int))) && x30)) then (some ((TValue.mk (0 : Int) (0 : Int) ([] : Bs) true ([]) (Sl.nil : Sl Bs)), (23 : Int))) else (some (y27_l0, (0 : Int)))))))
end Go.Proofs
