import Derived.Test.YtjlggcgmmpopmaaDoorV4
set_option maxRecDepth 100000
set_option maxHeartbeats 2000000
set_option linter.unusedVariables false
set_option linter.unusedSimpArgs false
namespace Go.Proofs
open Go Go.Ab
open AOps Cert AWp
variable {lou : Lou}
def Z31_j7  (s5_8 : Int) : Option Int := some s5_8
def Z31_l11 (a0 : TValue) (a1 : Int) (k_rec_6 : TValue → Int → Option Int) : Nat → Int → Nat → Option Int
 | 0, _, _ => none
 | n11 + 1, s5_12, s7_13 => bif ((decide (((s7_13 : Nat) : Int) < ((a0.FItems.l.length : Nat) : Int))) && (decide (s5_12 ≤ a1))) then ((a0.FItems.l[s7_13]?).bind fun x19 => (k_rec_6 x19 a1).bind fun x20 => (addC s5_12 x20).bind fun x21 => (Z31_l11 a0 a1 k_rec_6 n11) x21 (s7_13 + 1)) else (Z31_j7   s5_12)
def Z31_j5 (a0 : TValue) (a1 : Int) (k_rec_6 : TValue → Int → Option Int) (s5_6 : Int) : Option Int := Z31_l11 a0 a1 k_rec_6 (a0.FItems.l.length + 1) s5_6 0
def Z31_l23 (a0 : TValue) (a1 : Int) (k_rec_6 : TValue → Int → Option Int) : Nat → Int → Nat → Option Int
 | 0, _, _ => none
 | n23 + 1, s5_24, s6_25 => bif ((decide (((s6_25 : Nat) : Int) < ((a0.FKeys.l.length : Nat) : Int))) && (decide (s5_24 ≤ a1))) then ((addC s5_24 (1 : Int)).bind fun x31 => (a0.FKeys.l[s6_25]?).bind fun x32 => (addC x31 ((x32.length : Nat) : Int)).bind fun x34 => (Z31_l23 a0 a1 k_rec_6 n23) x34 (s6_25 + 1)) else (Z31_j5 a0 a1 k_rec_6 s5_24)
def Z31_n : Nat → TValue → Int → Option Int
 | 0, _, _ => none
 | n + 1, a0, a1 => (addC (1 : Int) ((a0.FText.length : Nat) : Int)).bind fun x4 => Z31_l23 a0 a1 (Z31_n n) (a0.FKeys.l.length + 1) x4 0
theorem Z31_step (n : Nat) (ih_6 : ∀ {a0 : TValue} {a1 : Int}   {r : Int}, Z31_n n a0 a1 = some r → ∀ (H : Heap), ACalls Tryd.prog 6 [.agg (TValue.c a0), .d (.int .i64 a1)] H fun v h' => v = .a (.d (.int .i64 r)) ∧ h' = H) : ∀ {a0 : TValue} {a1 : Int}   {r : Int}, Z31_n (n + 1) a0 a1 = some r → ∀ (H : Heap), ACalls Tryd.prog 6 [.agg (TValue.c a0), .d (.int .i64 a1)] H fun v h' => v = .a (.d (.int .i64 r)) ∧ h' = H := by
 intro a0 a1   r hE H 
 rw [Z31_n] at hE
 refine ACalls.of_wp (fn := Tryd.f6) (c := _) Tryd.tab_ok (fun _ _ => Tryd.call6 _ _) Tryd.func6 rfl (n := 55) rfl (rs := [.tmp 4]) rfl rfl ?_
 refine seqK fun K1 hK1 => ?_
 refine region ?_
 refine s0 (boxV rfl) rfl ?_
 refine s0 assignA rfl ?_
 refine nil ?_
 refine hK1 _ ?_
 clear hK1 K1
 refine seqK fun K2 hK2 => ?_
 refine region ?_
 refine s0 (fieldVA (TK rfl) rfl rfl (TK rfl) rfl rfl) rfl ?_
 refine s0 (loadV (TK rfl) rfl rfl rfl) rfl ?_
 refine sLenS (TK rfl) rfl rfl rfl rfl fun hL3 => ?_
 obtain ⟨x4, gx4, hE⟩ := bindO_some hE
 refine s0 (addM rfl rfl gx4) rfl ?_
 refine s0 assignA rfl ?_
 refine nil ?_
 refine hK2 _ ?_
 clear hK2 K2
 refine seqJH (KeepsT.A (k := 1) (KeepsT.A (k := 2) KeepsT.nil)) (fun (z : Int) => [(5, .a (.d (.int .i64 z)))]) (fun z => H) (fun z => Z31_j5 a0 a1 (Z31_n n) z = some r) ?_ ?_
 ·intro K5 hK5
  refine seqK fun K22 hK22 => ?_
  refine region ?_
  refine s0 assignA rfl ?_
  refine nil ?_
  refine hK22 _ ?_
  clear hK22 K22
  refine block ?_
  refine loopH (KeepsT.A (k := 1) (KeepsT.A (k := 2) KeepsT.nil)) (fun (z : Nat × Int × Nat) => [(5, .a (.d (.int .i64 z.2.1))), (6, .a (.d (.int .i64 ((z.2.2 : Nat) : Int))))]) (fun z => H) (fun z => z.1) (fun z => Z31_l23 a0 a1 (Z31_n n) z.1 z.2.1 z.2.2 = some r) ((a0.FKeys.l.length + 1), x4, 0) hE Weak.toA ?_
  rintro ⟨n23, s5_24, s6_25⟩ hE K23 hK23
  try dsimp only at hE
  cases n23 with
  | zero => cases hE
  | succ n23 =>
    rw [Z31_l23] at hE
    refine seqK fun K26 hK26 => ?_
    refine seqK fun K27 hK27 => ?_
    refine region ?_
    refine s0 moveA rfl ?_
    refine s0 (fieldVA (TK rfl) rfl rfl (TK rfl) rfl rfl) rfl ?_
    refine s0 (loadV (TK rfl) rfl rfl rfl) rfl ?_
    refine sLen (f := strE) (s := a0.FKeys) (TK rfl) rfl rfl rfl rfl fun hL28 => ?_
    refine s0 (binI rfl rfl rfl) rfl ?_
    refine s0 moveA rfl ?_
    refine gC rfl rfl (fun hC => moveA) rfl ?_
    refine gC rfl rfl (fun hC => moveA) rfl ?_
    refine gC rfl rfl (fun hC => ungdA (k := 18) rfl (ungdA (k := 19) rfl (binI rfl rfl rfl))) rfl ?_
    refine s0 (pickAndA rfl rfl rfl) rfl ?_
    refine nil ?_
    refine hK27 _ ?_
    clear hK27 K27
    refine condE hE rfl (fun hc29 hE => ?_) (fun hc29 hE => ?_)
    ·try dsimp only at hc29
     have hf29 := of_decide_eq_true (and_left hc29)
     refine AWp.skip ?_
     refine hK26 _ ?_
     clear hK26 K26
     refine seqK fun K30 hK30 => ?_
     refine block ?_
     refine region ?_
     refine s0 moveA rfl ?_
     obtain ⟨x31, gx31, hE⟩ := bindO_some hE
     refine s0 (addM rfl rfl gx31) rfl ?_
     refine s0 (fieldVA (TK rfl) rfl rfl (TK rfl) rfl rfl) rfl ?_
     refine s0 (loadV (TK rfl) rfl rfl rfl) rfl ?_
     refine s0 moveA rfl ?_
     obtain ⟨x32, gx32, hE⟩ := bindO_some hE
     refine s0 (idxMn (f := strE) (n := s6_25) (TK rfl) rfl (TK rfl) rfl rfl rfl gx32) rfl ?_
     refine s0 (loadV (TK rfl) rfl rfl rfl) rfl ?_
     refine sLenS (TK rfl) rfl rfl rfl rfl fun hL33 => ?_
     obtain ⟨x34, gx34, hE⟩ := bindO_some hE
     refine s0 (addM rfl rfl gx34) rfl ?_
     refine s0 assignA rfl ?_
     refine nil ?_
     refine hK30 _ ?_
     clear hK30 K30
     refine region ?_
     refine s0 moveA rfl ?_
     refine s0 (addIA rfl rfl) rfl ?_
     refine s0 assignA rfl ?_
     refine nil ?_
     exact hK23 _ (n23, x34, (s6_25 + 1)) Weak.toA hE (Nat.lt_succ_self _)
    refine AWp.exit ?_
    exact hK5 _ s5_24 Weak.toA hE
 rintro s5_6 hE
 try dsimp only at hE
 unfold Z31_j5 at hE
 refine seqJH KeepsT.nil (fun (z : Int) => [(5, .a (.d (.int .i64 z)))]) (fun z => H) (fun z => Z31_j7 z = some r) ?_ ?_
 ·intro K7 hK7
  refine seqK fun K10 hK10 => ?_
  refine region ?_
  refine s0 assignA rfl ?_
  refine nil ?_
  refine hK10 _ ?_
  clear hK10 K10
  refine block ?_
  refine loopH (KeepsT.A (k := 1) (KeepsT.A (k := 2) KeepsT.nil)) (fun (z : Nat × Int × Nat) => [(5, .a (.d (.int .i64 z.2.1))), (7, .a (.d (.int .i64 ((z.2.2 : Nat) : Int))))]) (fun z => H) (fun z => z.1) (fun z => Z31_l11 a0 a1 (Z31_n n) z.1 z.2.1 z.2.2 = some r) ((a0.FItems.l.length + 1), s5_6, 0) hE Weak.toA ?_
  rintro ⟨n11, s5_12, s7_13⟩ hE K11 hK11
  try dsimp only at hE
  cases n11 with
  | zero => cases hE
  | succ n11 =>
    rw [Z31_l11] at hE
    refine seqK fun K14 hK14 => ?_
    refine seqK fun K15 hK15 => ?_
    refine region ?_
    refine s0 moveA rfl ?_
    refine s0 (fieldVA (TK rfl) rfl rfl (TK rfl) rfl rfl) rfl ?_
    refine s0 (loadV (TK rfl) rfl rfl (congrArg (fun x => some (A.d x)) (TValue.FItemsD_eq _))) rfl ?_
    refine sLen (f := TValue.c) (s := a0.FItems) (TK rfl) rfl rfl rfl rfl fun hL16 => ?_
    refine s0 (binI rfl rfl rfl) rfl ?_
    refine s0 moveA rfl ?_
    refine gC rfl rfl (fun hC => moveA) rfl ?_
    refine gC rfl rfl (fun hC => moveA) rfl ?_
    refine gC rfl rfl (fun hC => ungdA (k := 39) rfl (ungdA (k := 40) rfl (binI rfl rfl rfl))) rfl ?_
    refine s0 (pickAndA rfl rfl rfl) rfl ?_
    refine nil ?_
    refine hK15 _ ?_
    clear hK15 K15
    refine condE hE rfl (fun hc17 hE => ?_) (fun hc17 hE => ?_)
    ·try dsimp only at hc17
     have hf17 := of_decide_eq_true (and_left hc17)
     refine AWp.skip ?_
     refine hK14 _ ?_
     clear hK14 K14
     refine seqK fun K18 hK18 => ?_
     refine block ?_
     refine region ?_
     refine s0 moveA rfl ?_
     refine s0 (fieldVA (TK rfl) rfl rfl (TK rfl) rfl rfl) rfl ?_
     refine s0 (loadV (TK rfl) rfl rfl (congrArg (fun x => some (A.d x)) (TValue.FItemsD_eq _))) rfl ?_
     refine s0 moveA rfl ?_
     obtain ⟨x19, gx19, hE⟩ := bindO_some hE
     refine s0 (idxMn (f := TValue.c) (n := s7_13) (TK rfl) rfl (TK rfl) rfl rfl rfl gx19) rfl ?_
     refine s0 (loadV (TK rfl) rfl rfl rfl) rfl ?_
     refine s0 moveA rfl ?_
     obtain ⟨x20, gx20, hE⟩ := bindO_some hE
     refine s0 (callP rfl rfl (fun H => ih_6 gx20 H)) rfl ?_
     obtain ⟨x21, gx21, hE⟩ := bindO_some hE
     refine s0 (addM rfl rfl gx21) rfl ?_
     refine s0 assignA rfl ?_
     refine nil ?_
     refine hK18 _ ?_
     clear hK18 K18
     refine region ?_
     refine s0 moveA rfl ?_
     refine s0 (addIA rfl rfl) rfl ?_
     refine s0 assignA rfl ?_
     refine nil ?_
     exact hK11 _ (n11, x21, (s7_13 + 1)) Weak.toA hE (Nat.lt_succ_self _)
    refine AWp.exit ?_
    exact hK7 _ s5_12 Weak.toA hE
 rintro s5_8 hE
 try dsimp only at hE
 unfold Z31_j7 at hE
 refine seqK fun K9 hK9 => ?_
 refine region ?_
 refine s0 moveA rfl ?_
 refine s0 assignA rfl ?_
 refine nil ?_
 refine hK9 _ ?_
 clear hK9 K9
 refine AWp.ret ?_
 repeat (first | refine xBlock_ret ?_ | refine xThen_ret ?_)
 obtain rfl := Option.some.inj hE
 refine retQ.retF H rfl ⟨rfl, rfl⟩ ?_
 exact (fun _ _ h => h)
theorem Z31_all : ∀ (n : Nat), (∀ {a0 : TValue} {a1 : Int}   {r : Int}, Z31_n n a0 a1 = some r → ∀ (H : Heap), ACalls Tryd.prog 6 [.agg (TValue.c a0), .d (.int .i64 a1)] H fun v h' => v = .a (.d (.int .i64 r)) ∧ h' = H)
 | 0 => fun hE => by first | cases hE | (rw [Z31_n] at hE; cases hE)
 | n + 1 => Z31_step n (Z31_all n)
def Z31 (a0 : TValue) (a1 : Int) : Option Int := Z31_n F0 a0 a1
theorem Z31_walk {a0 : TValue} {a1 : Int}   {r : Int} (hE : Z31 a0 a1 = some r) (H : Heap)  : ACalls Tryd.prog 6 [.agg (TValue.c a0), .d (.int .i64 a1)] H fun v h' => v = .a (.d (.int .i64 r)) ∧ h' = H := (Z31_all F0) hE H 
def Z26_j3  (s3_4 : Int) : Option Int := some s3_4
def Z26_l7 (a0 : TValue) (k_rec_18 : TValue → Option Int) : Nat → Int → Nat → Option Int
 | 0, _, _ => none
 | n7 + 1, s3_8, s4_9 => bif (decide (((s4_9 : Nat) : Int) < ((a0.FItems.l.length : Nat) : Int))) then ((a0.FItems.l[s4_9]?).bind fun x15 => (k_rec_18 x15).bind fun x16 => (addC s3_8 x16).bind fun x17 => (Z26_l7 a0 k_rec_18 n7) x17 (s4_9 + 1)) else (Z26_j3   s3_8)
def Z26_n : Nat → TValue → Option Int
 | 0, _ => none
 | n + 1, a0 => Z26_l7 a0 (Z26_n n) (a0.FItems.l.length + 1) (1 : Int) 0
theorem Z26_step (n : Nat) (ih_18 : ∀ {a0 : TValue}   {r : Int}, Z26_n n a0 = some r → ∀ (H : Heap), ACalls Tryd.prog 18 [.agg (TValue.c a0)] H fun v h' => v = .a (.d (.int .i64 r)) ∧ h' = H) : ∀ {a0 : TValue}   {r : Int}, Z26_n (n + 1) a0 = some r → ∀ (H : Heap), ACalls Tryd.prog 18 [.agg (TValue.c a0)] H fun v h' => v = .a (.d (.int .i64 r)) ∧ h' = H := by
 intro a0   r hE H 
 rw [Z26_n] at hE
 refine ACalls.of_wp (fn := Tryd.f18) (c := _) Tryd.tab_ok (fun _ _ => Tryd.call18 _ _) Tryd.func18 rfl (n := 21) rfl (rs := [.tmp 2]) rfl rfl ?_
 refine seqK fun K1 hK1 => ?_
 refine region ?_
 refine s0 (boxV rfl) rfl ?_
 refine s0 assignA rfl ?_
 refine nil ?_
 refine hK1 _ ?_
 clear hK1 K1
 refine seqK fun K2 hK2 => ?_
 refine region ?_
 refine s0 assignA rfl ?_
 refine nil ?_
 refine hK2 _ ?_
 clear hK2 K2
 refine seqJH KeepsT.nil (fun (z : Int) => [(3, .a (.d (.int .i64 z)))]) (fun z => H) (fun z => Z26_j3 z = some r) ?_ ?_
 ·intro K3 hK3
  refine seqK fun K6 hK6 => ?_
  refine region ?_
  refine s0 assignA rfl ?_
  refine nil ?_
  refine hK6 _ ?_
  clear hK6 K6
  refine block ?_
  refine loopH (KeepsT.A (k := 1) KeepsT.nil) (fun (z : Nat × Int × Nat) => [(3, .a (.d (.int .i64 z.2.1))), (4, .a (.d (.int .i64 ((z.2.2 : Nat) : Int))))]) (fun z => H) (fun z => z.1) (fun z => Z26_l7 a0 (Z26_n n) z.1 z.2.1 z.2.2 = some r) ((a0.FItems.l.length + 1), (1 : Int), 0) hE Weak.toA ?_
  rintro ⟨n7, s3_8, s4_9⟩ hE K7 hK7
  try dsimp only at hE
  cases n7 with
  | zero => cases hE
  | succ n7 =>
    rw [Z26_l7] at hE
    refine seqK fun K10 hK10 => ?_
    refine seqK fun K11 hK11 => ?_
    refine region ?_
    refine s0 moveA rfl ?_
    refine s0 (fieldVA (TK rfl) rfl rfl (TK rfl) rfl rfl) rfl ?_
    refine s0 (loadV (TK rfl) rfl rfl (congrArg (fun x => some (A.d x)) (TValue.FItemsD_eq _))) rfl ?_
    refine sLen (f := TValue.c) (s := a0.FItems) (TK rfl) rfl rfl rfl rfl fun hL12 => ?_
    refine s0 (binI rfl rfl rfl) rfl ?_
    refine nil ?_
    refine hK11 _ ?_
    clear hK11 K11
    refine condE hE rfl (fun hc13 hE => ?_) (fun hc13 hE => ?_)
    ·try dsimp only at hc13
     have hf13 := of_decide_eq_true hc13
     refine AWp.skip ?_
     refine hK10 _ ?_
     clear hK10 K10
     refine seqK fun K14 hK14 => ?_
     refine block ?_
     refine region ?_
     refine s0 moveA rfl ?_
     refine s0 (fieldVA (TK rfl) rfl rfl (TK rfl) rfl rfl) rfl ?_
     refine s0 (loadV (TK rfl) rfl rfl (congrArg (fun x => some (A.d x)) (TValue.FItemsD_eq _))) rfl ?_
     refine s0 moveA rfl ?_
     obtain ⟨x15, gx15, hE⟩ := bindO_some hE
     refine s0 (idxMn (f := TValue.c) (n := s4_9) (TK rfl) rfl (TK rfl) rfl rfl rfl gx15) rfl ?_
     refine s0 (loadV (TK rfl) rfl rfl rfl) rfl ?_
     obtain ⟨x16, gx16, hE⟩ := bindO_some hE
     refine s0 (callP rfl rfl (fun H => ih_18 gx16 H)) rfl ?_
     obtain ⟨x17, gx17, hE⟩ := bindO_some hE
     refine s0 (addM rfl rfl gx17) rfl ?_
     refine s0 assignA rfl ?_
     refine nil ?_
     refine hK14 _ ?_
     clear hK14 K14
     refine region ?_
     refine s0 moveA rfl ?_
     refine s0 (addIA rfl rfl) rfl ?_
     refine s0 assignA rfl ?_
     refine nil ?_
     exact hK7 _ (n7, x17, (s4_9 + 1)) Weak.toA hE (Nat.lt_succ_self _)
    refine AWp.exit ?_
    exact hK3 _ s3_8 Weak.toA hE
 rintro s3_4 hE
 try dsimp only at hE
 unfold Z26_j3 at hE
 refine seqK fun K5 hK5 => ?_
 refine region ?_
 refine s0 moveA rfl ?_
 refine s0 assignA rfl ?_
 refine nil ?_
 refine hK5 _ ?_
 clear hK5 K5
 refine AWp.ret ?_
 repeat (first | refine xBlock_ret ?_ | refine xThen_ret ?_)
 obtain rfl := Option.some.inj hE
 refine retQ.retF H rfl ⟨rfl, rfl⟩ ?_
 exact (fun _ _ h => h)
theorem Z26_all : ∀ (n : Nat), (∀ {a0 : TValue}   {r : Int}, Z26_n n a0 = some r → ∀ (H : Heap), ACalls Tryd.prog 18 [.agg (TValue.c a0)] H fun v h' => v = .a (.d (.int .i64 r)) ∧ h' = H)
 | 0 => fun hE => by first | cases hE | (rw [Z26_n] at hE; cases hE)
 | n + 1 => Z26_step n (Z26_all n)
def Z26 (a0 : TValue) : Option Int := Z26_n F0 a0
theorem Z26_walk {a0 : TValue}   {r : Int} (hE : Z26 a0 = some r) (H : Heap)  : ACalls Tryd.prog 18 [.agg (TValue.c a0)] H fun v h' => v = .a (.d (.int .i64 r)) ∧ h' = H := (Z26_all F0) hE H 
def Z23_j3  (s3_4 : Int) : Option Int := (addC s3_4 (1 : Int)).bind fun x6 => some x6
def Z23_l8 (a0 : TValue) (k_rec_19 : TValue → Option Int) : Nat → Int → Nat → Option Int
 | 0, _, _ => none
 | n8 + 1, s3_9, s4_10 => bif (decide (((s4_10 : Nat) : Int) < ((a0.FItems.l.length : Nat) : Int))) then ((a0.FItems.l[s4_10]?).bind fun x16 => (k_rec_19 x16).bind fun x17 => (Z23_l8 a0 k_rec_19 n8) (if x17 > s3_9 then x17 else s3_9) (s4_10 + 1)) else (Z23_j3   s3_9)
def Z23_n : Nat → TValue → Option Int
 | 0, _ => none
 | n + 1, a0 => Z23_l8 a0 (Z23_n n) (a0.FItems.l.length + 1) (0 : Int) 0
theorem Z23_step (n : Nat) (ih_19 : ∀ {a0 : TValue}   {r : Int}, Z23_n n a0 = some r → ∀ (H : Heap), ACalls Tryd.prog 19 [.agg (TValue.c a0)] H fun v h' => v = .a (.d (.int .i64 r)) ∧ h' = H) : ∀ {a0 : TValue}   {r : Int}, Z23_n (n + 1) a0 = some r → ∀ (H : Heap), ACalls Tryd.prog 19 [.agg (TValue.c a0)] H fun v h' => v = .a (.d (.int .i64 r)) ∧ h' = H := by
 intro a0   r hE H 
 rw [Z23_n] at hE
 refine ACalls.of_wp (fn := Tryd.f19) (c := _) Tryd.tab_ok (fun _ _ => Tryd.call19 _ _) Tryd.func19 rfl (n := 22) rfl (rs := [.tmp 2]) rfl rfl ?_
 refine seqK fun K1 hK1 => ?_
 refine region ?_
 refine s0 (boxV rfl) rfl ?_
 refine s0 assignA rfl ?_
 refine nil ?_
 refine hK1 _ ?_
 clear hK1 K1
 refine seqK fun K2 hK2 => ?_
 refine region ?_
 refine s0 assignA rfl ?_
 refine nil ?_
 refine hK2 _ ?_
 clear hK2 K2
 refine seqJH KeepsT.nil (fun (z : Int) => [(3, .a (.d (.int .i64 z)))]) (fun z => H) (fun z => Z23_j3 z = some r) ?_ ?_
 ·intro K3 hK3
  refine seqK fun K7 hK7 => ?_
  refine region ?_
  refine s0 assignA rfl ?_
  refine nil ?_
  refine hK7 _ ?_
  clear hK7 K7
  refine block ?_
  refine loopH (KeepsT.A (k := 1) KeepsT.nil) (fun (z : Nat × Int × Nat) => [(3, .a (.d (.int .i64 z.2.1))), (4, .a (.d (.int .i64 ((z.2.2 : Nat) : Int))))]) (fun z => H) (fun z => z.1) (fun z => Z23_l8 a0 (Z23_n n) z.1 z.2.1 z.2.2 = some r) ((a0.FItems.l.length + 1), (0 : Int), 0) hE Weak.toA ?_
  rintro ⟨n8, s3_9, s4_10⟩ hE K8 hK8
  try dsimp only at hE
  cases n8 with
  | zero => cases hE
  | succ n8 =>
    rw [Z23_l8] at hE
    refine seqK fun K11 hK11 => ?_
    refine seqK fun K12 hK12 => ?_
    refine region ?_
    refine s0 moveA rfl ?_
    refine s0 (fieldVA (TK rfl) rfl rfl (TK rfl) rfl rfl) rfl ?_
    refine s0 (loadV (TK rfl) rfl rfl (congrArg (fun x => some (A.d x)) (TValue.FItemsD_eq _))) rfl ?_
    refine sLen (f := TValue.c) (s := a0.FItems) (TK rfl) rfl rfl rfl rfl fun hL13 => ?_
    refine s0 (binI rfl rfl rfl) rfl ?_
    refine nil ?_
    refine hK12 _ ?_
    clear hK12 K12
    refine condE hE rfl (fun hc14 hE => ?_) (fun hc14 hE => ?_)
    ·try dsimp only at hc14
     have hf14 := of_decide_eq_true hc14
     refine AWp.skip ?_
     refine hK11 _ ?_
     clear hK11 K11
     refine seqK fun K15 hK15 => ?_
     refine block ?_
     refine region ?_
     refine s0 moveA rfl ?_
     refine s0 (fieldVA (TK rfl) rfl rfl (TK rfl) rfl rfl) rfl ?_
     refine s0 (loadV (TK rfl) rfl rfl (congrArg (fun x => some (A.d x)) (TValue.FItemsD_eq _))) rfl ?_
     refine s0 moveA rfl ?_
     obtain ⟨x16, gx16, hE⟩ := bindO_some hE
     refine s0 (idxMn (f := TValue.c) (n := s4_10) (TK rfl) rfl (TK rfl) rfl rfl rfl gx16) rfl ?_
     refine s0 (loadV (TK rfl) rfl rfl rfl) rfl ?_
     obtain ⟨x17, gx17, hE⟩ := bindO_some hE
     refine s0 (callP rfl rfl (fun H => ih_19 gx17 H)) rfl ?_
     refine s0 (maxM rfl rfl) rfl ?_
     refine s0 assignA rfl ?_
     refine nil ?_
     refine hK15 _ ?_
     clear hK15 K15
     refine region ?_
     refine s0 moveA rfl ?_
     refine s0 (addIA rfl rfl) rfl ?_
     refine s0 assignA rfl ?_
     refine nil ?_
     exact hK8 _ (n8, (if x17 > s3_9 then x17 else s3_9), (s4_10 + 1)) Weak.toA hE (Nat.lt_succ_self _)
    refine AWp.exit ?_
    exact hK3 _ s3_9 Weak.toA hE
 rintro s3_4 hE
 try dsimp only at hE
 unfold Z23_j3 at hE
 refine seqK fun K5 hK5 => ?_
 refine region ?_
 refine s0 moveA rfl ?_
 obtain ⟨x6, gx6, hE⟩ := bindO_some hE
 refine s0 (addM rfl rfl gx6) rfl ?_
 refine s0 assignA rfl ?_
 refine nil ?_
 refine hK5 _ ?_
 clear hK5 K5
 refine AWp.ret ?_
 repeat (first | refine xBlock_ret ?_ | refine xThen_ret ?_)
 obtain rfl := Option.some.inj hE
 refine retQ.retF H rfl ⟨rfl, rfl⟩ ?_
 exact (fun _ _ h => h)
theorem Z23_all : ∀ (n : Nat), (∀ {a0 : TValue}   {r : Int}, Z23_n n a0 = some r → ∀ (H : Heap), ACalls Tryd.prog 19 [.agg (TValue.c a0)] H fun v h' => v = .a (.d (.int .i64 r)) ∧ h' = H)
 | 0 => fun hE => by first | cases hE | (rw [Z23_n] at hE; cases hE)
 | n + 1 => Z23_step n (Z23_all n)
def Z23 (a0 : TValue) : Option Int := Z23_n F0 a0
theorem Z23_walk {a0 : TValue}   {r : Int} (hE : Z23 a0 = some r) (H : Heap)  : ACalls Tryd.prog 19 [.agg (TValue.c a0)] H fun v h' => v = .a (.d (.int .i64 r)) ∧ h' = H := (Z23_all F0) hE H 
def Z22 (a0 : Int) : Option Bool := some ((((decide ((65 : Int) ≤ a0)) && (decide (a0 ≤ (90 : Int)))) || ((decide ((97 : Int) ≤ a0)) && (decide (a0 ≤ (122 : Int))))) || (decide (a0 = (95 : Int))))
theorem Z22_walk {a0 : Int}   {r : Bool} (hE : Z22 a0 = some r) (H : Heap)  : ACalls Tryd.prog 68 [.d (.int .u8 a0)] H fun v h' => v = .a (.d (.bool r)) ∧ h' = H := by
 unfold Z22 at hE
 refine ACalls.of_wp (fn := Tryd.f68) (c := _) Tryd.tab_ok (fun _ _ => Tryd.call68 _ _) Tryd.func68 rfl (n := 21) rfl (rs := [.tmp 2]) rfl rfl ?_
 refine seqK fun K1 hK1 => ?_
 refine region ?_
 refine s0 assignA rfl ?_
 refine nil ?_
 refine hK1 _ ?_
 clear hK1 K1
 refine seqK fun K2 hK2 => ?_
 refine region ?_
 refine s0 moveA rfl ?_
 refine s0 (binI rfl rfl rfl) rfl ?_
 refine s0 moveA rfl ?_
 refine gC rfl rfl (fun hC => moveA) rfl ?_
 refine gC rfl rfl (fun hC => ungdA (k := 6) rfl (binI rfl rfl rfl)) rfl ?_
 refine s0 (pickAndA rfl rfl rfl) rfl ?_
 refine s0 moveA rfl ?_
 refine gC rfl rfl (fun hC => moveA) rfl ?_
 refine gC rfl rfl (fun hC => ungdA (k := 10) rfl (binI rfl rfl rfl)) rfl ?_
 refine gC rfl rfl (fun hC => ungdA (k := 11) rfl moveA) rfl ?_
 refine gC rfl rfl (fun hC => moveA) rfl ?_
 refine gC rfl rfl (fun hC => ungdA (k := 13) rfl (binI rfl rfl rfl)) rfl ?_
 refine gC rfl rfl (fun hC => ungdA (k := 12) rfl (pickAndA rfl rfl rfl)) rfl ?_
 refine s0 (pickOrA rfl rfl rfl) rfl ?_
 refine s0 moveA rfl ?_
 refine gC rfl rfl (fun hC => moveA) rfl ?_
 refine gC rfl rfl (fun hC => ungdA (k := 18) rfl (binI rfl rfl rfl)) rfl ?_
 refine s0 (pickOrA rfl rfl rfl) rfl ?_
 refine s0 assignA rfl ?_
 refine nil ?_
 refine hK2 _ ?_
 clear hK2 K2
 refine AWp.ret ?_
 repeat (first | refine xBlock_ret ?_ | refine xThen_ret ?_)
 obtain rfl := Option.some.inj hE
 refine retQ.retF H rfl ⟨rfl, rfl⟩ ?_
 exact (fun _ _ h => h)
def Z21 (a0 : Int) : Option Bool := some ((decide ((48 : Int) ≤ a0)) && (decide (a0 ≤ (57 : Int))))
theorem Z21_walk {a0 : Int}   {r : Bool} (hE : Z21 a0 = some r) (H : Heap)  : ACalls Tryd.prog 69 [.d (.int .u8 a0)] H fun v h' => v = .a (.d (.bool r)) ∧ h' = H := by
 unfold Z21 at hE
 refine ACalls.of_wp (fn := Tryd.f69) (c := _) Tryd.tab_ok (fun _ _ => Tryd.call69 _ _) Tryd.func69 rfl (n := 9) rfl (rs := [.tmp 2]) rfl rfl ?_
 refine seqK fun K1 hK1 => ?_
 refine region ?_
 refine s0 assignA rfl ?_
 refine nil ?_
 refine hK1 _ ?_
 clear hK1 K1
 refine seqK fun K2 hK2 => ?_
 refine region ?_
 refine s0 moveA rfl ?_
 refine s0 (binI rfl rfl rfl) rfl ?_
 refine s0 moveA rfl ?_
 refine gC rfl rfl (fun hC => moveA) rfl ?_
 refine gC rfl rfl (fun hC => ungdA (k := 6) rfl (binI rfl rfl rfl)) rfl ?_
 refine s0 (pickAndA rfl rfl rfl) rfl ?_
 refine s0 assignA rfl ?_
 refine nil ?_
 refine hK2 _ ?_
 clear hK2 K2
 refine AWp.ret ?_
 repeat (first | refine xBlock_ret ?_ | refine xThen_ret ?_)
 obtain rfl := Option.some.inj hE
 refine retQ.retF H rfl ⟨rfl, rfl⟩ ?_
 exact (fun _ _ h => h)
def Z20_j7   : Option Bool := some true
def Z20_l10 (a0 : Bs)  : Nat → Nat → Option Bool
 | 0, _ => none
 | n10 + 1, s3_11 => bif (decide (((s3_11 : Nat) : Int) < ((a0.length : Nat) : Int))) then ((a0[s3_11]?).bind fun x18 => (Z22 ((x18.toNat : Nat) : Int)).bind fun x19 => guardO (((!x19) && !(decide (((s3_11 : Nat) : Int) = (0 : Int))))) (a0[s3_11]?) (0 : UInt8) fun x20 => guardO (((!x19) && !(decide (((s3_11 : Nat) : Int) = (0 : Int))))) (Z21 ((x20.toNat : Nat) : Int)) false fun x21 => bif ((!x19) && ((decide (((s3_11 : Nat) : Int) = (0 : Int))) || (!x21))) then (some false) else ((Z20_l10 a0 n10) (s3_11 + 1))) else (Z20_j7   )
def Z20 (a0 : Bs) : Option Bool := bif ((decide (((a0.length : Nat) : Int) < (1 : Int))) || (decide ((64 : Int) < ((a0.length : Nat) : Int)))) then (some false) else (Z20_l10 a0 (a0.length + 1) 0)
theorem Z20_walk {a0 : Bs}   {r : Bool} (hE : Z20 a0 = some r) (H : Heap)  : ACalls Tryd.prog 40 [.d (.str a0)] H fun v h' => v = .a (.d (.bool r)) ∧ h' = H := by
 unfold Z20 at hE
 refine ACalls.of_wp (fn := Tryd.f40) (c := _) Tryd.tab_ok (fun _ _ => Tryd.call40 _ _) Tryd.func40 rfl (n := 34) rfl (rs := [.tmp 2]) rfl rfl ?_
 refine seqK fun K1 hK1 => ?_
 refine region ?_
 refine s0 assignA rfl ?_
 refine nil ?_
 refine hK1 _ ?_
 clear hK1 K1
 refine seqK fun K2 hK2 => ?_
 refine seqK fun K3 hK3 => ?_
 refine region ?_
 refine s0 moveA rfl ?_
 refine sLenS (TK rfl) rfl rfl rfl rfl fun hL4 => ?_
 refine s0 (binI rfl rfl rfl) rfl ?_
 refine s0 moveA rfl ?_
 refine gC rfl rfl (fun hC => moveA) rfl ?_
 refine gC rfl rfl (fun hC => ungdA (k := 8) rfl (lenS (TK rfl) rfl rfl rfl)) rfl ?_
 refine gC rfl rfl (fun hC => ungdA (k := 9) rfl (binI rfl rfl rfl)) rfl ?_
 refine s0 (pickOrA rfl rfl rfl) rfl ?_
 refine nil ?_
 refine hK3 _ ?_
 clear hK3 K3
 refine condE hE rfl (fun hc5 hE => ?_) (fun hc5 hE => ?_)
 ·refine seqK fun K6 hK6 => ?_
  refine region ?_
  refine s0 assignA rfl ?_
  refine nil ?_
  refine hK6 _ ?_
  clear hK6 K6
  refine AWp.ret ?_
  repeat (first | refine xBlock_ret ?_ | refine xThen_ret ?_)
  obtain rfl := Option.some.inj hE
  refine retQ.retF H rfl ⟨rfl, rfl⟩ ?_
  exact (fun _ _ h => h)
 refine AWp.skip ?_
 refine hK2 _ ?_
 clear hK2 K2
 refine seqJH KeepsT.nil (fun (z : Unit) => []) (fun z => H) (fun z => Z20_j7  = some r) ?_ ?_
 ·intro K7 hK7
  refine seqK fun K9 hK9 => ?_
  refine region ?_
  refine s0 assignA rfl ?_
  refine nil ?_
  refine hK9 _ ?_
  clear hK9 K9
  refine block ?_
  refine loopH (KeepsT.A (k := 0) KeepsT.nil) (fun (z : Nat × Nat) => [(3, .a (.d (.int .i64 ((z.2 : Nat) : Int))))]) (fun z => H) (fun z => z.1) (fun z => Z20_l10 a0 z.1 z.2 = some r) ((a0.length + 1), 0) hE Weak.toA ?_
  rintro ⟨n10, s3_11⟩ hE K10 hK10
  try dsimp only at hE
  cases n10 with
  | zero => cases hE
  | succ n10 =>
    rw [Z20_l10] at hE
    refine seqK fun K12 hK12 => ?_
    refine seqK fun K13 hK13 => ?_
    refine region ?_
    refine s0 moveA rfl ?_
    refine s0 moveA rfl ?_
    refine sLenS (TK rfl) rfl rfl rfl rfl fun hL14 => ?_
    refine s0 (binI rfl rfl rfl) rfl ?_
    refine nil ?_
    refine hK13 _ ?_
    clear hK13 K13
    refine condE hE rfl (fun hc15 hE => ?_) (fun hc15 hE => ?_)
    ·try dsimp only at hc15
     have hf15 := of_decide_eq_true hc15
     refine AWp.skip ?_
     refine hK12 _ ?_
     clear hK12 K12
     refine seqK fun K16 hK16 => ?_
     refine block ?_
     refine seqK fun K17 hK17 => ?_
     refine region ?_
     refine s0 moveA rfl ?_
     refine s0 moveA rfl ?_
     obtain ⟨x18, gx18, hE⟩ := bindO_some hE
     refine s0 (idxSn (n := s3_11) (TK rfl) rfl rfl rfl gx18) rfl ?_
     obtain ⟨x19, gx19, hE⟩ := bindO_some hE
     refine s0 (callP rfl rfl (fun H => Z22_walk gx19 H)) rfl ?_
     refine s0 (notB rfl) rfl ?_
     refine s0 moveA rfl ?_
     refine gC rfl rfl (fun hC => moveA) rfl ?_
     refine gC rfl rfl (fun hC => ungdA (k := 24) rfl (binI rfl rfl rfl)) rfl ?_
     refine gC rfl rfl (fun hC => ungdA (k := 25) rfl moveA) rfl ?_
     refine gC rfl rfl (fun hC => moveA) rfl ?_
     refine gC rfl rfl (fun hC => moveA) rfl ?_
     obtain ⟨x20, gx20, hE⟩ := guardO_some hE
     refine gC rfl rfl (fun hC => ungdA (k := 27) rfl (ungdA (k := 28) rfl (idxSn (n := s3_11) (TK rfl) rfl rfl rfl (gx20 hC)))) rfl ?_
     obtain ⟨x21, gx21, hE⟩ := guardO_some hE
     refine gC rfl rfl (fun hC => ungdA (k := 29) rfl (callP rfl rfl (fun H => Z21_walk (gx21 hC) H))) rfl ?_
     refine gC rfl rfl (fun hC => ungdA (k := 30) rfl (notB rfl)) rfl ?_
     refine gC rfl rfl (fun hC => ungdA (k := 26) rfl (pickOrA rfl rfl rfl)) rfl ?_
     refine s0 (pickAndA rfl rfl rfl) rfl ?_
     refine nil ?_
     refine hK17 _ ?_
     clear hK17 K17
     refine condE hE rfl (fun hc22 hE => ?_) (fun hc22 hE => ?_)
     ·refine seqK fun K23 hK23 => ?_
      refine region ?_
      refine s0 assignA rfl ?_
      refine nil ?_
      refine hK23 _ ?_
      clear hK23 K23
      refine AWp.ret ?_
      repeat (first | refine xBlock_ret ?_ | refine xThen_ret ?_)
      obtain rfl := Option.some.inj hE
      refine retQ.retF H rfl ⟨rfl, rfl⟩ ?_
      exact (fun _ _ h => h)
     refine AWp.skip ?_
     refine hK16 _ ?_
     clear hK16 K16
     refine region ?_
     refine s0 moveA rfl ?_
     refine s0 (addIA rfl rfl) rfl ?_
     refine s0 assignA rfl ?_
     refine nil ?_
     exact hK10 _ (n10, (s3_11 + 1)) Weak.toA hE (Nat.lt_succ_self _)
    refine AWp.exit ?_
    exact hK7 _ () Weak.toA hE
 rintro _ hE
 try dsimp only at hE
 unfold Z20_j7 at hE
 refine seqK fun K8 hK8 => ?_
 refine region ?_
 refine s0 assignA rfl ?_
 refine nil ?_
 refine hK8 _ ?_
 clear hK8 K8
 refine AWp.ret ?_
 repeat (first | refine xBlock_ret ?_ | refine xThen_ret ?_)
 obtain rfl := Option.some.inj hE
 refine retQ.retF H rfl ⟨rfl, rfl⟩ ?_
 exact (fun _ _ h => h)
def Z28_j2   : Option Bool := some false
def Z28_j11 (s3_6 : Nat) (k_next_5 : Nat → Option Bool)  : Option Bool := k_next_5 (s3_6 + 1)
def Z28_l13 (a0 : (Sl Bs)) (s3_6 : Nat) (k_next_5 : Nat → Option Bool) : Nat → Nat → Option Bool
 | 0, _ => none
 | n13 + 1, s4_14 => bif (decide (((s4_14 : Nat) : Int) < ((s3_6 : Nat) : Int))) then ((a0.l[s3_6]?).bind fun x20 => (a0.l[s4_14]?).bind fun x21 => bif ((x20 == x21)) then (some true) else ((Z28_l13 a0 s3_6 k_next_5 n13) (s4_14 + 1))) else (Z28_j11 s3_6 k_next_5 )
def Z28_l5 (a0 : (Sl Bs))  : Nat → Nat → Option Bool
 | 0, _ => none
 | n5 + 1, s3_6 => bif (decide (((s3_6 : Nat) : Int) < ((a0.l.length : Nat) : Int))) then (Z28_l13 a0 s3_6 ((Z28_l5 a0 n5)) (s3_6 + 1) 0) else (Z28_j2   )
def Z28 (a0 : (Sl Bs)) : Option Bool := Z28_l5 a0 (a0.l.length + 1) 0
theorem Z28_walk {a0 : (Sl Bs)} {w0 : Option Nat}  {r : Bool} (hE : Z28 a0 = some r) (H : Heap)  : ACalls Tryd.prog 67 [.d (Sl.d 1 strE w0 a0)] H fun v h' => v = .a (.d (.bool r)) ∧ h' = H := by
 unfold Z28 at hE
 refine ACalls.of_wp (fn := Tryd.f67) (c := _) Tryd.tab_ok (fun _ _ => Tryd.call67 _ _) Tryd.func67 rfl (n := 25) rfl (rs := [.tmp 2]) rfl rfl ?_
 refine seqK fun K1 hK1 => ?_
 refine region ?_
 refine s0 assignA rfl ?_
 refine nil ?_
 refine hK1 _ ?_
 clear hK1 K1
 refine seqJH KeepsT.nil (fun (z : Unit) => []) (fun z => H) (fun z => Z28_j2  = some r) ?_ ?_
 ·intro K2 hK2
  refine seqK fun K4 hK4 => ?_
  refine region ?_
  refine s0 assignA rfl ?_
  refine nil ?_
  refine hK4 _ ?_
  clear hK4 K4
  refine block ?_
  refine loopH (KeepsT.A (k := 0) KeepsT.nil) (fun (z : Nat × Nat) => [(3, .a (.d (.int .i64 ((z.2 : Nat) : Int))))]) (fun z => H) (fun z => z.1) (fun z => Z28_l5 a0 z.1 z.2 = some r) ((a0.l.length + 1), 0) hE Weak.toA ?_
  rintro ⟨n5, s3_6⟩ hE K5 hK5
  try dsimp only at hE
  cases n5 with
  | zero => cases hE
  | succ n5 =>
    rw [Z28_l5] at hE
    refine seqK fun K7 hK7 => ?_
    refine seqK fun K8 hK8 => ?_
    refine region ?_
    refine s0 moveA rfl ?_
    refine s0 moveA rfl ?_
    refine sLen (f := strE) (s := a0) (TK rfl) rfl rfl rfl rfl fun hL9 => ?_
    refine s0 (binI rfl rfl rfl) rfl ?_
    refine nil ?_
    refine hK8 _ ?_
    clear hK8 K8
    refine condE hE rfl (fun hc10 hE => ?_) (fun hc10 hE => ?_)
    ·try dsimp only at hc10
     have hf10 := of_decide_eq_true hc10
     refine AWp.skip ?_
     refine hK7 _ ?_
     clear hK7 K7
     refine seqJH (KeepsT.A (k := 0) (KeepsT.A (k := 3) KeepsT.nil)) (fun (z : Unit) => []) (fun z => H) (fun z => Z28_j11 s3_6 ((Z28_l5 a0 n5))  = some r) ?_ ?_
     ·intro K11 hK11
      refine block ?_
      refine seqK fun K12 hK12 => ?_
      refine region ?_
      refine s0 assignA rfl ?_
      refine nil ?_
      refine hK12 _ ?_
      clear hK12 K12
      refine block ?_
      refine loopH (KeepsT.A (k := 0) (KeepsT.A (k := 3) KeepsT.nil)) (fun (z : Nat × Nat) => [(4, .a (.d (.int .i64 ((z.2 : Nat) : Int))))]) (fun z => H) (fun z => z.1) (fun z => Z28_l13 a0 s3_6 ((Z28_l5 a0 n5)) z.1 z.2 = some r) ((s3_6 + 1), 0) hE Weak.toA ?_
      rintro ⟨n13, s4_14⟩ hE K13 hK13
      try dsimp only at hE
      cases n13 with
      | zero => cases hE
      | succ n13 =>
        rw [Z28_l13] at hE
        refine seqK fun K15 hK15 => ?_
        refine seqK fun K16 hK16 => ?_
        refine region ?_
        refine s0 moveA rfl ?_
        refine s0 moveA rfl ?_
        refine s0 (binI rfl rfl rfl) rfl ?_
        refine nil ?_
        refine hK16 _ ?_
        clear hK16 K16
        refine condE hE rfl (fun hc17 hE => ?_) (fun hc17 hE => ?_)
        ·try dsimp only at hc17
         have hf17 := of_decide_eq_true hc17
         refine AWp.skip ?_
         refine hK15 _ ?_
         clear hK15 K15
         refine seqK fun K18 hK18 => ?_
         refine block ?_
         refine seqK fun K19 hK19 => ?_
         refine AWp.draw rfl ?_
         refine DOps.s0 moveA rfl ?_
         refine DOps.s0 moveA rfl ?_
         obtain ⟨x20, gx20, hE⟩ := bindO_some hE
         refine DOps.s0 (idxMn (f := strE) (n := s3_6) (TK rfl) rfl (TK rfl) rfl rfl rfl gx20) rfl ?_
         refine DOps.s0 (loadV (TK rfl) rfl rfl rfl) rfl ?_
         refine DOps.s0 moveA rfl ?_
         refine DOps.s0 moveA rfl ?_
         obtain ⟨x21, gx21, hE⟩ := bindO_some hE
         refine DOps.s0 (idxMn (f := strE) (n := s4_14) (TK rfl) rfl (TK rfl) rfl rfl rfl gx21) rfl ?_
         refine DOps.s0 (loadV (TK rfl) rfl rfl rfl) rfl ?_
         refine DOps.s0 (binS rfl rfl rfl) rfl ?_
         refine DOps.nil (by decide +kernel) ?_
         refine hK19 _ ?_
         clear hK19 K19
         refine condE hE rfl (fun hc22 hE => ?_) (fun hc22 hE => ?_)
         ·refine seqK fun K23 hK23 => ?_
          refine region ?_
          refine s0 assignA rfl ?_
          refine nil ?_
          refine hK23 _ ?_
          clear hK23 K23
          refine AWp.ret ?_
          repeat (first | refine xBlock_ret ?_ | refine xThen_ret ?_)
          obtain rfl := Option.some.inj hE
          refine retQ.retF H rfl ⟨rfl, rfl⟩ ?_
          exact (fun _ _ h => h)
         refine AWp.skip ?_
         refine hK18 _ ?_
         clear hK18 K18
         refine region ?_
         refine s0 moveA rfl ?_
         refine s0 (addIA rfl rfl) rfl ?_
         refine s0 assignA rfl ?_
         refine nil ?_
         exact hK13 _ (n13, (s4_14 + 1)) Weak.toA hE (Nat.lt_succ_self _)
        refine AWp.exit ?_
        exact hK11 _ () Weak.toA hE
     rintro _ hE
     try dsimp only at hE
     unfold Z28_j11 at hE
     refine region ?_
     refine s0 moveA rfl ?_
     refine s0 (addIA rfl rfl) rfl ?_
     refine s0 assignA rfl ?_
     refine nil ?_
     exact hK5 _ (n5, (s3_6 + 1)) Weak.toA hE (Nat.lt_succ_self _)
    refine AWp.exit ?_
    exact hK2 _ () Weak.toA hE
 rintro _ hE
 try dsimp only at hE
 unfold Z28_j2 at hE
 refine seqK fun K3 hK3 => ?_
 refine region ?_
 refine s0 assignA rfl ?_
 refine nil ?_
 refine hK3 _ ?_
 clear hK3 K3
 refine AWp.ret ?_
 repeat (first | refine xBlock_ret ?_ | refine xThen_ret ?_)
 obtain rfl := Option.some.inj hE
 refine retQ.retF H rfl ⟨rfl, rfl⟩ ?_
 exact (fun _ _ h => h)
end Go.Proofs

namespace Go.Proofs
open Go Go.Ab
open AOps Cert AWp
variable {lou : Lou}
def Z27 (a0 : TValue) (a1 : Bool) : Option Bool := bif (decide (a0.FKind = (0 : Int))) then (some ((((decide (a0.FInt = (0 : Int))) && ((a0.FText == ([] : Bs)))) && (decide (((a0.FItems.l.length : Nat) : Int) = (0 : Int)))) && (decide (((a0.FKeys.l.length : Nat) : Int) = (0 : Int))))) else (bif (decide (a0.FKind = (1 : Int))) then (some (((((decide (a0.FInt = (0 : Int))) || (decide (a0.FInt = (1 : Int)))) && ((a0.FText == ([] : Bs)))) && (decide (((a0.FItems.l.length : Nat) : Int) = (0 : Int)))) && (decide (((a0.FKeys.l.length : Nat) : Int) = (0 : Int))))) else (bif (decide (a0.FKind = (2 : Int))) then (some ((((a0.FText == ([] : Bs))) && (decide (((a0.FItems.l.length : Nat) : Int) = (0 : Int)))) && (decide (((a0.FKeys.l.length : Nat) : Int) = (0 : Int))))) else (bif (decide (a0.FKind = (3 : Int))) then (some (((decide (a0.FInt = (0 : Int))) && (decide (((a0.FItems.l.length : Nat) : Int) = (0 : Int)))) && (decide (((a0.FKeys.l.length : Nat) : Int) = (0 : Int))))) else (bif (decide (a0.FKind = (4 : Int))) then (guardO ((((decide (a0.FInt = (0 : Int))) && (decide (((a0.FItems.l.length : Nat) : Int) = (0 : Int)))) && (decide (((a0.FKeys.l.length : Nat) : Int) = (0 : Int))))) (Z20 a0.FText) false fun x19 => some (((((((decide (a0.FInt = (0 : Int))) && (decide (((a0.FItems.l.length : Nat) : Int) = (0 : Int)))) && (decide (((a0.FKeys.l.length : Nat) : Int) = (0 : Int)))) && x19) && (!(a0.FText == ([116, 114, 117, 101] : Bs)))) && (!(a0.FText == ([102, 97, 108, 115, 101] : Bs)))) && (!(a0.FText == ([110, 117, 108, 108] : Bs))))) else (bif (decide (a0.FKind = (5 : Int))) then (some (((decide (a0.FInt = (0 : Int))) && ((a0.FText == ([] : Bs)))) && (decide (((a0.FKeys.l.length : Nat) : Int) = (0 : Int))))) else (bif (decide (a0.FKind = (6 : Int))) then (guardO ((((decide (a0.FInt = (0 : Int))) && ((a0.FText == ([] : Bs)))) && (decide (((a0.FKeys.l.length : Nat) : Int) = ((a0.FItems.l.length : Nat) : Int))))) (Z28 a0.FKeys) false fun x26 => some ((((decide (a0.FInt = (0 : Int))) && ((a0.FText == ([] : Bs)))) && (decide (((a0.FKeys.l.length : Nat) : Int) = ((a0.FItems.l.length : Nat) : Int)))) && (!x26))) else (bif (decide (a0.FKind = (7 : Int))) then (guardO ((((a1 && (decide (a0.FInt = (0 : Int)))) && (decide (((a0.FItems.l.length : Nat) : Int) = (0 : Int)))) && (decide (((a0.FKeys.l.length : Nat) : Int) = (0 : Int))))) (Z20 a0.FText) false fun x30 => some ((((a1 && (decide (a0.FInt = (0 : Int)))) && (decide (((a0.FItems.l.length : Nat) : Int) = (0 : Int)))) && (decide (((a0.FKeys.l.length : Nat) : Int) = (0 : Int)))) && x30)) else (some false))))))))
theorem Z27_walk {a0 : TValue} {a1 : Bool}   {r : Bool} (hE : Z27 a0 a1 = some r) (H : Heap)  : ACalls Tryd.prog 39 [.agg (TValue.c a0), .d (.bool a1)] H fun v h' => v = .a (.d (.bool r)) ∧ h' = H := by
 unfold Z27 at hE
 refine ACalls.of_wp (fn := Tryd.f39) (c := _) Tryd.tab_ok (fun _ _ => Tryd.call39 _ _) Tryd.func39 rfl (n := 193) rfl (rs := [.tmp 4]) rfl rfl ?_
 refine seqK fun K1 hK1 => ?_
 refine region ?_
 refine s0 (boxV rfl) rfl ?_
 refine s0 assignA rfl ?_
 refine nil ?_
 refine hK1 _ ?_
 clear hK1 K1
 refine seqK fun K2 hK2 => ?_
 refine seqK fun K3 hK3 => ?_
 refine region ?_
 refine s0 (fieldVA (TK rfl) rfl rfl (TK rfl) rfl rfl) rfl ?_
 refine s0 (loadV (TK rfl) rfl rfl rfl) rfl ?_
 refine nil ?_
 refine hK3 _ ?_
 clear hK3 K3
 refine block ?_
 refine seqK fun K4 hK4 => ?_
 refine region ?_
 refine s0 (binI rfl rfl rfl) rfl ?_
 refine s0 assignA rfl ?_
 refine nil ?_
 refine hK4 _ ?_
 clear hK4 K4
 refine condE hE rfl (fun hc5 hE => ?_) (fun hc5 hE => ?_)
 ·refine seqK fun K6 hK6 => ?_
  refine region ?_
  refine s0 (fieldVA (TK rfl) rfl rfl (TK rfl) rfl rfl) rfl ?_
  refine s0 (loadV (TK rfl) rfl rfl rfl) rfl ?_
  refine s0 (binI rfl rfl rfl) rfl ?_
  refine s0 moveA rfl ?_
  refine gC rfl rfl (fun hC => fieldVA (TK rfl) rfl rfl (TK rfl) rfl rfl) rfl ?_
  refine gC rfl rfl (fun hC => ungdA (k := 13) rfl (loadV (TK rfl) rfl rfl rfl)) rfl ?_
  refine gC rfl rfl (fun hC => ungdA (k := 14) rfl (binS rfl rfl rfl)) rfl ?_
  refine s0 (pickAndA rfl rfl rfl) rfl ?_
  refine s0 moveA rfl ?_
  refine gC rfl rfl (fun hC => fieldVA (TK rfl) rfl rfl (TK rfl) rfl rfl) rfl ?_
  refine gC rfl rfl (fun hC => ungdA (k := 18) rfl (loadV (TK rfl) rfl rfl (congrArg (fun x => some (A.d x)) (TValue.FItemsD_eq _)))) rfl ?_
  refine gC rfl rfl (fun hC => ungdA (k := 19) rfl (lenM' (f := TValue.c) (s := a0.FItems) (TK rfl) rfl rfl rfl)) rfl ?_
  refine gC rfl rfl (fun hC => ungdA (k := 20) rfl (binI rfl rfl rfl)) rfl ?_
  refine s0 (pickAndA rfl rfl rfl) rfl ?_
  refine s0 moveA rfl ?_
  refine gC rfl rfl (fun hC => fieldVA (TK rfl) rfl rfl (TK rfl) rfl rfl) rfl ?_
  refine gC rfl rfl (fun hC => ungdA (k := 24) rfl (loadV (TK rfl) rfl rfl rfl)) rfl ?_
  refine gC rfl rfl (fun hC => ungdA (k := 25) rfl (lenM' (f := strE) (s := a0.FKeys) (TK rfl) rfl rfl rfl)) rfl ?_
  refine gC rfl rfl (fun hC => ungdA (k := 26) rfl (binI rfl rfl rfl)) rfl ?_
  refine s0 (pickAndA rfl rfl rfl) rfl ?_
  refine s0 assignA rfl ?_
  refine nil ?_
  refine hK6 _ ?_
  clear hK6 K6
  refine AWp.ret ?_
  repeat (first | refine xBlock_ret ?_ | refine xThen_ret ?_)
  obtain rfl := Option.some.inj hE
  refine retQ.retF H rfl ⟨rfl, rfl⟩ ?_
  exact (fun _ _ h => h)
 refine seqK fun K7 hK7 => ?_
 refine region ?_
 refine s0 (binI rfl rfl rfl) rfl ?_
 refine s0 assignA rfl ?_
 refine nil ?_
 refine hK7 _ ?_
 clear hK7 K7
 refine condE hE rfl (fun hc8 hE => ?_) (fun hc8 hE => ?_)
 ·refine seqK fun K9 hK9 => ?_
  refine region ?_
  refine s0 (fieldVA (TK rfl) rfl rfl (TK rfl) rfl rfl) rfl ?_
  refine s0 (loadV (TK rfl) rfl rfl rfl) rfl ?_
  refine s0 (binI rfl rfl rfl) rfl ?_
  refine s0 moveA rfl ?_
  refine gC rfl rfl (fun hC => fieldVA (TK rfl) rfl rfl (TK rfl) rfl rfl) rfl ?_
  refine gC rfl rfl (fun hC => ungdA (k := 35) rfl (loadV (TK rfl) rfl rfl rfl)) rfl ?_
  refine gC rfl rfl (fun hC => ungdA (k := 36) rfl (binI rfl rfl rfl)) rfl ?_
  refine s0 (pickOrA rfl rfl rfl) rfl ?_
  refine s0 moveA rfl ?_
  refine gC rfl rfl (fun hC => fieldVA (TK rfl) rfl rfl (TK rfl) rfl rfl) rfl ?_
  refine gC rfl rfl (fun hC => ungdA (k := 40) rfl (loadV (TK rfl) rfl rfl rfl)) rfl ?_
  refine gC rfl rfl (fun hC => ungdA (k := 41) rfl (binS rfl rfl rfl)) rfl ?_
  refine s0 (pickAndA rfl rfl rfl) rfl ?_
  refine s0 moveA rfl ?_
  refine gC rfl rfl (fun hC => fieldVA (TK rfl) rfl rfl (TK rfl) rfl rfl) rfl ?_
  refine gC rfl rfl (fun hC => ungdA (k := 45) rfl (loadV (TK rfl) rfl rfl (congrArg (fun x => some (A.d x)) (TValue.FItemsD_eq _)))) rfl ?_
  refine gC rfl rfl (fun hC => ungdA (k := 46) rfl (lenM' (f := TValue.c) (s := a0.FItems) (TK rfl) rfl rfl rfl)) rfl ?_
  refine gC rfl rfl (fun hC => ungdA (k := 47) rfl (binI rfl rfl rfl)) rfl ?_
  refine s0 (pickAndA rfl rfl rfl) rfl ?_
  refine s0 moveA rfl ?_
  refine gC rfl rfl (fun hC => fieldVA (TK rfl) rfl rfl (TK rfl) rfl rfl) rfl ?_
  refine gC rfl rfl (fun hC => ungdA (k := 51) rfl (loadV (TK rfl) rfl rfl rfl)) rfl ?_
  refine gC rfl rfl (fun hC => ungdA (k := 52) rfl (lenM' (f := strE) (s := a0.FKeys) (TK rfl) rfl rfl rfl)) rfl ?_
  refine gC rfl rfl (fun hC => ungdA (k := 53) rfl (binI rfl rfl rfl)) rfl ?_
  refine s0 (pickAndA rfl rfl rfl) rfl ?_
  refine s0 assignA rfl ?_
  refine nil ?_
  refine hK9 _ ?_
  clear hK9 K9
  refine AWp.ret ?_
  repeat (first | refine xBlock_ret ?_ | refine xThen_ret ?_)
  obtain rfl := Option.some.inj hE
  refine retQ.retF H rfl ⟨rfl, rfl⟩ ?_
  exact (fun _ _ h => h)
 refine seqK fun K10 hK10 => ?_
 refine region ?_
 refine s0 (binI rfl rfl rfl) rfl ?_
 refine s0 assignA rfl ?_
 refine nil ?_
 refine hK10 _ ?_
 clear hK10 K10
 refine condE hE rfl (fun hc11 hE => ?_) (fun hc11 hE => ?_)
 ·refine seqK fun K12 hK12 => ?_
  refine region ?_
  refine s0 (fieldVA (TK rfl) rfl rfl (TK rfl) rfl rfl) rfl ?_
  refine s0 (loadV (TK rfl) rfl rfl rfl) rfl ?_
  refine s0 (binS rfl rfl rfl) rfl ?_
  refine s0 moveA rfl ?_
  refine gC rfl rfl (fun hC => fieldVA (TK rfl) rfl rfl (TK rfl) rfl rfl) rfl ?_
  refine gC rfl rfl (fun hC => ungdA (k := 62) rfl (loadV (TK rfl) rfl rfl (congrArg (fun x => some (A.d x)) (TValue.FItemsD_eq _)))) rfl ?_
  refine gC rfl rfl (fun hC => ungdA (k := 63) rfl (lenM' (f := TValue.c) (s := a0.FItems) (TK rfl) rfl rfl rfl)) rfl ?_
  refine gC rfl rfl (fun hC => ungdA (k := 64) rfl (binI rfl rfl rfl)) rfl ?_
  refine s0 (pickAndA rfl rfl rfl) rfl ?_
  refine s0 moveA rfl ?_
  refine gC rfl rfl (fun hC => fieldVA (TK rfl) rfl rfl (TK rfl) rfl rfl) rfl ?_
  refine gC rfl rfl (fun hC => ungdA (k := 68) rfl (loadV (TK rfl) rfl rfl rfl)) rfl ?_
  refine gC rfl rfl (fun hC => ungdA (k := 69) rfl (lenM' (f := strE) (s := a0.FKeys) (TK rfl) rfl rfl rfl)) rfl ?_
  refine gC rfl rfl (fun hC => ungdA (k := 70) rfl (binI rfl rfl rfl)) rfl ?_
  refine s0 (pickAndA rfl rfl rfl) rfl ?_
  refine s0 assignA rfl ?_
  refine nil ?_
  refine hK12 _ ?_
  clear hK12 K12
  refine AWp.ret ?_
  repeat (first | refine xBlock_ret ?_ | refine xThen_ret ?_)
  obtain rfl := Option.some.inj hE
  refine retQ.retF H rfl ⟨rfl, rfl⟩ ?_
  exact (fun _ _ h => h)
 refine seqK fun K13 hK13 => ?_
 refine region ?_
 refine s0 (binI rfl rfl rfl) rfl ?_
 refine s0 assignA rfl ?_
 refine nil ?_
 refine hK13 _ ?_
 clear hK13 K13
 refine condE hE rfl (fun hc14 hE => ?_) (fun hc14 hE => ?_)
 ·refine seqK fun K15 hK15 => ?_
  refine region ?_
  refine s0 (fieldVA (TK rfl) rfl rfl (TK rfl) rfl rfl) rfl ?_
  refine s0 (loadV (TK rfl) rfl rfl rfl) rfl ?_
  refine s0 (binI rfl rfl rfl) rfl ?_
  refine s0 moveA rfl ?_
  refine gC rfl rfl (fun hC => fieldVA (TK rfl) rfl rfl (TK rfl) rfl rfl) rfl ?_
  refine gC rfl rfl (fun hC => ungdA (k := 79) rfl (loadV (TK rfl) rfl rfl (congrArg (fun x => some (A.d x)) (TValue.FItemsD_eq _)))) rfl ?_
  refine gC rfl rfl (fun hC => ungdA (k := 80) rfl (lenM' (f := TValue.c) (s := a0.FItems) (TK rfl) rfl rfl rfl)) rfl ?_
  refine gC rfl rfl (fun hC => ungdA (k := 81) rfl (binI rfl rfl rfl)) rfl ?_
  refine s0 (pickAndA rfl rfl rfl) rfl ?_
  refine s0 moveA rfl ?_
  refine gC rfl rfl (fun hC => fieldVA (TK rfl) rfl rfl (TK rfl) rfl rfl) rfl ?_
  refine gC rfl rfl (fun hC => ungdA (k := 85) rfl (loadV (TK rfl) rfl rfl rfl)) rfl ?_
  refine gC rfl rfl (fun hC => ungdA (k := 86) rfl (lenM' (f := strE) (s := a0.FKeys) (TK rfl) rfl rfl rfl)) rfl ?_
  refine gC rfl rfl (fun hC => ungdA (k := 87) rfl (binI rfl rfl rfl)) rfl ?_
  refine s0 (pickAndA rfl rfl rfl) rfl ?_
  refine s0 assignA rfl ?_
  refine nil ?_
  refine hK15 _ ?_
  clear hK15 K15
  refine AWp.ret ?_
  repeat (first | refine xBlock_ret ?_ | refine xThen_ret ?_)
  obtain rfl := Option.some.inj hE
  refine retQ.retF H rfl ⟨rfl, rfl⟩ ?_
  exact (fun _ _ h => h)
 refine seqK fun K16 hK16 => ?_
 refine region ?_
 refine s0 (binI rfl rfl rfl) rfl ?_
 refine s0 assignA rfl ?_
 refine nil ?_
 refine hK16 _ ?_
 clear hK16 K16
 refine condE hE rfl (fun hc17 hE => ?_) (fun hc17 hE => ?_)
 ·refine seqK fun K18 hK18 => ?_
  refine region ?_
  refine s0 (fieldVA (TK rfl) rfl rfl (TK rfl) rfl rfl) rfl ?_
  refine s0 (loadV (TK rfl) rfl rfl rfl) rfl ?_
  refine s0 (binI rfl rfl rfl) rfl ?_
  refine s0 moveA rfl ?_
  refine gC rfl rfl (fun hC => fieldVA (TK rfl) rfl rfl (TK rfl) rfl rfl) rfl ?_
  refine gC rfl rfl (fun hC => ungdA (k := 96) rfl (loadV (TK rfl) rfl rfl (congrArg (fun x => some (A.d x)) (TValue.FItemsD_eq _)))) rfl ?_
  refine gC rfl rfl (fun hC => ungdA (k := 97) rfl (lenM' (f := TValue.c) (s := a0.FItems) (TK rfl) rfl rfl rfl)) rfl ?_
  refine gC rfl rfl (fun hC => ungdA (k := 98) rfl (binI rfl rfl rfl)) rfl ?_
  refine s0 (pickAndA rfl rfl rfl) rfl ?_
  refine s0 moveA rfl ?_
  refine gC rfl rfl (fun hC => fieldVA (TK rfl) rfl rfl (TK rfl) rfl rfl) rfl ?_
  refine gC rfl rfl (fun hC => ungdA (k := 102) rfl (loadV (TK rfl) rfl rfl rfl)) rfl ?_
  refine gC rfl rfl (fun hC => ungdA (k := 103) rfl (lenM' (f := strE) (s := a0.FKeys) (TK rfl) rfl rfl rfl)) rfl ?_
  refine gC rfl rfl (fun hC => ungdA (k := 104) rfl (binI rfl rfl rfl)) rfl ?_
  refine s0 (pickAndA rfl rfl rfl) rfl ?_
  refine s0 moveA rfl ?_
  refine gC rfl rfl (fun hC => fieldVA (TK rfl) rfl rfl (TK rfl) rfl rfl) rfl ?_
  refine gC rfl rfl (fun hC => ungdA (k := 108) rfl (loadV (TK rfl) rfl rfl rfl)) rfl ?_
  obtain ⟨x19, gx19, hE⟩ := guardO_some hE
  refine gC rfl rfl (fun hC => ungdA (k := 109) rfl (callP rfl rfl (fun H => Z20_walk (gx19 hC) H))) rfl ?_
  refine s0 (pickAndA rfl rfl rfl) rfl ?_
  refine s0 moveA rfl ?_
  refine gC rfl rfl (fun hC => fieldVA (TK rfl) rfl rfl (TK rfl) rfl rfl) rfl ?_
  refine gC rfl rfl (fun hC => ungdA (k := 113) rfl (loadV (TK rfl) rfl rfl rfl)) rfl ?_
  refine gC rfl rfl (fun hC => ungdA (k := 114) rfl (binS rfl rfl rfl)) rfl ?_
  refine s0 (pickAndA rfl rfl rfl) rfl ?_
  refine s0 moveA rfl ?_
  refine gC rfl rfl (fun hC => fieldVA (TK rfl) rfl rfl (TK rfl) rfl rfl) rfl ?_
  refine gC rfl rfl (fun hC => ungdA (k := 118) rfl (loadV (TK rfl) rfl rfl rfl)) rfl ?_
  refine gC rfl rfl (fun hC => ungdA (k := 119) rfl (binS rfl rfl rfl)) rfl ?_
  refine s0 (pickAndA rfl rfl rfl) rfl ?_
  refine s0 moveA rfl ?_
  refine gC rfl rfl (fun hC => fieldVA (TK rfl) rfl rfl (TK rfl) rfl rfl) rfl ?_
  refine gC rfl rfl (fun hC => ungdA (k := 123) rfl (loadV (TK rfl) rfl rfl rfl)) rfl ?_
  refine gC rfl rfl (fun hC => ungdA (k := 124) rfl (binS rfl rfl rfl)) rfl ?_
  refine s0 (pickAndA rfl rfl rfl) rfl ?_
  refine s0 assignA rfl ?_
  refine nil ?_
  refine hK18 _ ?_
  clear hK18 K18
  refine AWp.ret ?_
  repeat (first | refine xBlock_ret ?_ | refine xThen_ret ?_)
  obtain rfl := Option.some.inj hE
  refine retQ.retF H rfl ⟨rfl, rfl⟩ ?_
  exact (fun _ _ h => h)
 refine seqK fun K20 hK20 => ?_
 refine region ?_
 refine s0 (binI rfl rfl rfl) rfl ?_
 refine s0 assignA rfl ?_
 refine nil ?_
 refine hK20 _ ?_
 clear hK20 K20
 refine condE hE rfl (fun hc21 hE => ?_) (fun hc21 hE => ?_)
 ·refine seqK fun K22 hK22 => ?_
  refine region ?_
  refine s0 (fieldVA (TK rfl) rfl rfl (TK rfl) rfl rfl) rfl ?_
  refine s0 (loadV (TK rfl) rfl rfl rfl) rfl ?_
  refine s0 (binI rfl rfl rfl) rfl ?_
  refine s0 moveA rfl ?_
  refine gC rfl rfl (fun hC => fieldVA (TK rfl) rfl rfl (TK rfl) rfl rfl) rfl ?_
  refine gC rfl rfl (fun hC => ungdA (k := 133) rfl (loadV (TK rfl) rfl rfl rfl)) rfl ?_
  refine gC rfl rfl (fun hC => ungdA (k := 134) rfl (binS rfl rfl rfl)) rfl ?_
  refine s0 (pickAndA rfl rfl rfl) rfl ?_
  refine s0 moveA rfl ?_
  refine gC rfl rfl (fun hC => fieldVA (TK rfl) rfl rfl (TK rfl) rfl rfl) rfl ?_
  refine gC rfl rfl (fun hC => ungdA (k := 138) rfl (loadV (TK rfl) rfl rfl rfl)) rfl ?_
  refine gC rfl rfl (fun hC => ungdA (k := 139) rfl (lenM' (f := strE) (s := a0.FKeys) (TK rfl) rfl rfl rfl)) rfl ?_
  refine gC rfl rfl (fun hC => ungdA (k := 140) rfl (binI rfl rfl rfl)) rfl ?_
  refine s0 (pickAndA rfl rfl rfl) rfl ?_
  refine s0 assignA rfl ?_
  refine nil ?_
  refine hK22 _ ?_
  clear hK22 K22
  refine AWp.ret ?_
  repeat (first | refine xBlock_ret ?_ | refine xThen_ret ?_)
  obtain rfl := Option.some.inj hE
  refine retQ.retF H rfl ⟨rfl, rfl⟩ ?_
  exact (fun _ _ h => h)
 refine seqK fun K23 hK23 => ?_
 refine region ?_
 refine s0 (binI rfl rfl rfl) rfl ?_
 refine s0 assignA rfl ?_
 refine nil ?_
 refine hK23 _ ?_
 clear hK23 K23
 refine condE hE rfl (fun hc24 hE => ?_) (fun hc24 hE => ?_)
 ·refine seqK fun K25 hK25 => ?_
  refine region ?_
  refine s0 (fieldVA (TK rfl) rfl rfl (TK rfl) rfl rfl) rfl ?_
  refine s0 (loadV (TK rfl) rfl rfl rfl) rfl ?_
  refine s0 (binI rfl rfl rfl) rfl ?_
  refine s0 moveA rfl ?_
  refine gC rfl rfl (fun hC => fieldVA (TK rfl) rfl rfl (TK rfl) rfl rfl) rfl ?_
  refine gC rfl rfl (fun hC => ungdA (k := 149) rfl (loadV (TK rfl) rfl rfl rfl)) rfl ?_
  refine gC rfl rfl (fun hC => ungdA (k := 150) rfl (binS rfl rfl rfl)) rfl ?_
  refine s0 (pickAndA rfl rfl rfl) rfl ?_
  refine s0 moveA rfl ?_
  refine gC rfl rfl (fun hC => fieldVA (TK rfl) rfl rfl (TK rfl) rfl rfl) rfl ?_
  refine gC rfl rfl (fun hC => ungdA (k := 154) rfl (loadV (TK rfl) rfl rfl rfl)) rfl ?_
  refine gC rfl rfl (fun hC => ungdA (k := 155) rfl (lenM' (f := strE) (s := a0.FKeys) (TK rfl) rfl rfl rfl)) rfl ?_
  refine gC rfl rfl (fun hC => fieldVA (TK rfl) rfl rfl (TK rfl) rfl rfl) rfl ?_
  refine gC rfl rfl (fun hC => ungdA (k := 157) rfl (loadV (TK rfl) rfl rfl (congrArg (fun x => some (A.d x)) (TValue.FItemsD_eq _)))) rfl ?_
  refine gC rfl rfl (fun hC => ungdA (k := 158) rfl (lenM' (f := TValue.c) (s := a0.FItems) (TK rfl) rfl rfl rfl)) rfl ?_
  refine gC rfl rfl (fun hC => ungdA (k := 156) rfl (ungdA (k := 159) rfl (binI rfl rfl rfl))) rfl ?_
  refine s0 (pickAndA rfl rfl rfl) rfl ?_
  refine s0 moveA rfl ?_
  refine gC rfl rfl (fun hC => fieldVA (TK rfl) rfl rfl (TK rfl) rfl rfl) rfl ?_
  refine gC rfl rfl (fun hC => ungdA (k := 163) rfl (loadV (TK rfl) rfl rfl rfl)) rfl ?_
  obtain ⟨x26, gx26, hE⟩ := guardO_some hE
  refine gC rfl rfl (fun hC => ungdA (k := 164) rfl (callP rfl rfl (fun H => Z28_walk (gx26 hC) H))) rfl ?_
  refine gC rfl rfl (fun hC => ungdA (k := 165) rfl (notB rfl)) rfl ?_
  refine s0 (pickAndA rfl rfl rfl) rfl ?_
  refine s0 assignA rfl ?_
  refine nil ?_
  refine hK25 _ ?_
  clear hK25 K25
  refine AWp.ret ?_
  repeat (first | refine xBlock_ret ?_ | refine xThen_ret ?_)
  obtain rfl := Option.some.inj hE
  refine retQ.retF H rfl ⟨rfl, rfl⟩ ?_
  exact (fun _ _ h => h)
 refine seqK fun K27 hK27 => ?_
 refine region ?_
 refine s0 (binI rfl rfl rfl) rfl ?_
 refine s0 assignA rfl ?_
 refine nil ?_
 refine hK27 _ ?_
 clear hK27 K27
 refine condE hE rfl (fun hc28 hE => ?_) (fun hc28 hE => ?_)
 ·refine seqK fun K29 hK29 => ?_
  refine region ?_
  refine s0 moveA rfl ?_
  refine s0 moveA rfl ?_
  refine gC rfl rfl (fun hC => fieldVA (TK rfl) rfl rfl (TK rfl) rfl rfl) rfl ?_
  refine gC rfl rfl (fun hC => ungdA (k := 172) rfl (loadV (TK rfl) rfl rfl rfl)) rfl ?_
  refine gC rfl rfl (fun hC => ungdA (k := 173) rfl (binI rfl rfl rfl)) rfl ?_
  refine s0 (pickAndA rfl rfl rfl) rfl ?_
  refine s0 moveA rfl ?_
  refine gC rfl rfl (fun hC => fieldVA (TK rfl) rfl rfl (TK rfl) rfl rfl) rfl ?_
  refine gC rfl rfl (fun hC => ungdA (k := 177) rfl (loadV (TK rfl) rfl rfl (congrArg (fun x => some (A.d x)) (TValue.FItemsD_eq _)))) rfl ?_
  refine gC rfl rfl (fun hC => ungdA (k := 178) rfl (lenM' (f := TValue.c) (s := a0.FItems) (TK rfl) rfl rfl rfl)) rfl ?_
  refine gC rfl rfl (fun hC => ungdA (k := 179) rfl (binI rfl rfl rfl)) rfl ?_
  refine s0 (pickAndA rfl rfl rfl) rfl ?_
  refine s0 moveA rfl ?_
  refine gC rfl rfl (fun hC => fieldVA (TK rfl) rfl rfl (TK rfl) rfl rfl) rfl ?_
  refine gC rfl rfl (fun hC => ungdA (k := 183) rfl (loadV (TK rfl) rfl rfl rfl)) rfl ?_
  refine gC rfl rfl (fun hC => ungdA (k := 184) rfl (lenM' (f := strE) (s := a0.FKeys) (TK rfl) rfl rfl rfl)) rfl ?_
  refine gC rfl rfl (fun hC => ungdA (k := 185) rfl (binI rfl rfl rfl)) rfl ?_
  refine s0 (pickAndA rfl rfl rfl) rfl ?_
  refine s0 moveA rfl ?_
  refine gC rfl rfl (fun hC => fieldVA (TK rfl) rfl rfl (TK rfl) rfl rfl) rfl ?_
  refine gC rfl rfl (fun hC => ungdA (k := 189) rfl (loadV (TK rfl) rfl rfl rfl)) rfl ?_
  obtain ⟨x30, gx30, hE⟩ := guardO_some hE
  refine gC rfl rfl (fun hC => ungdA (k := 190) rfl (callP rfl rfl (fun H => Z20_walk (gx30 hC) H))) rfl ?_
  refine s0 (pickAndA rfl rfl rfl) rfl ?_
  refine s0 assignA rfl ?_
  refine nil ?_
  refine hK29 _ ?_
  clear hK29 K29
  refine AWp.ret ?_
  repeat (first | refine xBlock_ret ?_ | refine xThen_ret ?_)
  obtain rfl := Option.some.inj hE
  refine retQ.retF H rfl ⟨rfl, rfl⟩ ?_
  exact (fun _ _ h => h)
 refine AWp.skip ?_
 refine hK2 _ ?_
 clear hK2 K2
 refine seqK fun K31 hK31 => ?_
 refine region ?_
 refine s0 assignA rfl ?_
 refine nil ?_
 refine hK31 _ ?_
 clear hK31 K31
 refine AWp.ret ?_
 repeat (first | refine xBlock_ret ?_ | refine xThen_ret ?_)
 obtain rfl := Option.some.inj hE
 refine retQ.retF H rfl ⟨rfl, rfl⟩ ?_
 exact (fun _ _ h => h)
def Z29_j8   : Option Bool := some true
def Z29_l11 (a0 : TValue) (a1 : Bool) (k_rec_20 : TValue → Bool → Option Bool) : Nat → Nat → Option Bool
 | 0, _ => none
 | n11 + 1, s6_12 => bif (decide (((s6_12 : Nat) : Int) < ((a0.FItems.l.length : Nat) : Int))) then ((a0.FItems.l[s6_12]?).bind fun x19 => (k_rec_20 x19 a1).bind fun x20 => bif (!x20) then (some false) else ((Z29_l11 a0 a1 k_rec_20 n11) (s6_12 + 1))) else (Z29_j8   )
def Z29_j7 (a0 : TValue) (a1 : Bool) (k_rec_20 : TValue → Bool → Option Bool)  : Option Bool := Z29_l11 a0 a1 k_rec_20 (a0.FItems.l.length + 1) 0
def Z29_l24 (a0 : TValue) (a1 : Bool) (k_rec_20 : TValue → Bool → Option Bool) : Nat → Nat → Option Bool
 | 0, _ => none
 | n24 + 1, s5_25 => bif (decide (((s5_25 : Nat) : Int) < ((a0.FKeys.l.length : Nat) : Int))) then (guardO (a1) (a0.FKeys.l[s5_25]?) ([] : Bs) fun x32 => guardO (a1) (Z20 x32) false fun x33 => bif (a1 && (!x33)) then (some false) else ((Z29_l24 a0 a1 k_rec_20 n24) (s5_25 + 1))) else (Z29_j7 a0 a1 k_rec_20 )
def Z29_n : Nat → TValue → Bool → Option Bool
 | 0, _, _ => none
 | n + 1, a0, a1 => (Z27 a0 a1).bind fun x4 => bif (!x4) then (some false) else (Z29_l24 a0 a1 (Z29_n n) (a0.FKeys.l.length + 1) 0)
theorem Z29_step (n : Nat) (ih_20 : ∀ {a0 : TValue} {a1 : Bool}   {r : Bool}, Z29_n n a0 a1 = some r → ∀ (H : Heap), ACalls Tryd.prog 20 [.agg (TValue.c a0), .d (.bool a1)] H fun v h' => v = .a (.d (.bool r)) ∧ h' = H) : ∀ {a0 : TValue} {a1 : Bool}   {r : Bool}, Z29_n (n + 1) a0 a1 = some r → ∀ (H : Heap), ACalls Tryd.prog 20 [.agg (TValue.c a0), .d (.bool a1)] H fun v h' => v = .a (.d (.bool r)) ∧ h' = H := by
 intro a0 a1   r hE H 
 rw [Z29_n] at hE
 refine ACalls.of_wp (fn := Tryd.f20) (c := _) Tryd.tab_ok (fun _ _ => Tryd.call20 _ _) Tryd.func20 rfl (n := 43) rfl (rs := [.tmp 4]) rfl rfl ?_
 refine seqK fun K1 hK1 => ?_
 refine region ?_
 refine s0 (boxV rfl) rfl ?_
 refine s0 assignA rfl ?_
 refine nil ?_
 refine hK1 _ ?_
 clear hK1 K1
 refine seqK fun K2 hK2 => ?_
 refine seqK fun K3 hK3 => ?_
 refine region ?_
 refine s0 (loadV (TK rfl) rfl rfl rfl) rfl ?_
 refine s0 moveA rfl ?_
 obtain ⟨x4, gx4, hE⟩ := bindO_some hE
 refine s0 (callP rfl rfl (fun H => Z27_walk gx4 H)) rfl ?_
 refine s0 (notB rfl) rfl ?_
 refine nil ?_
 refine hK3 _ ?_
 clear hK3 K3
 refine condE hE rfl (fun hc5 hE => ?_) (fun hc5 hE => ?_)
 ·refine seqK fun K6 hK6 => ?_
  refine region ?_
  refine s0 assignA rfl ?_
  refine nil ?_
  refine hK6 _ ?_
  clear hK6 K6
  refine AWp.ret ?_
  repeat (first | refine xBlock_ret ?_ | refine xThen_ret ?_)
  obtain rfl := Option.some.inj hE
  refine retQ.retF H rfl ⟨rfl, rfl⟩ ?_
  exact (fun _ _ h => h)
 refine AWp.skip ?_
 refine hK2 _ ?_
 clear hK2 K2
 refine seqJH (KeepsT.A (k := 1) (KeepsT.A (k := 2) KeepsT.nil)) (fun (z : Unit) => []) (fun z => H) (fun z => Z29_j7 a0 a1 (Z29_n n)  = some r) ?_ ?_
 ·intro K7 hK7
  refine seqK fun K23 hK23 => ?_
  refine region ?_
  refine s0 assignA rfl ?_
  refine nil ?_
  refine hK23 _ ?_
  clear hK23 K23
  refine block ?_
  refine loopH (KeepsT.A (k := 1) (KeepsT.A (k := 2) KeepsT.nil)) (fun (z : Nat × Nat) => [(5, .a (.d (.int .i64 ((z.2 : Nat) : Int))))]) (fun z => H) (fun z => z.1) (fun z => Z29_l24 a0 a1 (Z29_n n) z.1 z.2 = some r) ((a0.FKeys.l.length + 1), 0) hE Weak.toA ?_
  rintro ⟨n24, s5_25⟩ hE K24 hK24
  try dsimp only at hE
  cases n24 with
  | zero => cases hE
  | succ n24 =>
    rw [Z29_l24] at hE
    refine seqK fun K26 hK26 => ?_
    refine seqK fun K27 hK27 => ?_
    refine region ?_
    refine s0 moveA rfl ?_
    refine s0 (fieldVA (TK rfl) rfl rfl (TK rfl) rfl rfl) rfl ?_
    refine s0 (loadV (TK rfl) rfl rfl rfl) rfl ?_
    refine sLen (f := strE) (s := a0.FKeys) (TK rfl) rfl rfl rfl rfl fun hL28 => ?_
    refine s0 (binI rfl rfl rfl) rfl ?_
    refine nil ?_
    refine hK27 _ ?_
    clear hK27 K27
    refine condE hE rfl (fun hc29 hE => ?_) (fun hc29 hE => ?_)
    ·try dsimp only at hc29
     have hf29 := of_decide_eq_true hc29
     refine AWp.skip ?_
     refine hK26 _ ?_
     clear hK26 K26
     refine seqK fun K30 hK30 => ?_
     refine block ?_
     refine seqK fun K31 hK31 => ?_
     refine region ?_
     refine s0 moveA rfl ?_
     refine s0 moveA rfl ?_
     refine gC rfl rfl (fun hC => fieldVA (TK rfl) rfl rfl (TK rfl) rfl rfl) rfl ?_
     refine gC rfl rfl (fun hC => ungdA (k := 20) rfl (loadV (TK rfl) rfl rfl rfl)) rfl ?_
     refine gC rfl rfl (fun hC => moveA) rfl ?_
     obtain ⟨x32, gx32, hE⟩ := guardO_some hE
     refine gC rfl rfl (fun hC => ungdA (k := 21) rfl (ungdA (k := 22) rfl (idxMn (f := strE) (n := s5_25) (TK rfl) rfl (TK rfl) rfl rfl rfl (gx32 hC)))) rfl ?_
     refine gC rfl rfl (fun hC => ungdA (k := 23) rfl (loadV (TK rfl) rfl rfl rfl)) rfl ?_
     obtain ⟨x33, gx33, hE⟩ := guardO_some hE
     refine gC rfl rfl (fun hC => ungdA (k := 24) rfl (callP rfl rfl (fun H => Z20_walk (gx33 hC) H))) rfl ?_
     refine gC rfl rfl (fun hC => ungdA (k := 25) rfl (notB rfl)) rfl ?_
     refine s0 (pickAndA rfl rfl rfl) rfl ?_
     refine nil ?_
     refine hK31 _ ?_
     clear hK31 K31
     refine condE hE rfl (fun hc34 hE => ?_) (fun hc34 hE => ?_)
     ·refine seqK fun K35 hK35 => ?_
      refine region ?_
      refine s0 assignA rfl ?_
      refine nil ?_
      refine hK35 _ ?_
      clear hK35 K35
      refine AWp.ret ?_
      repeat (first | refine xBlock_ret ?_ | refine xThen_ret ?_)
      obtain rfl := Option.some.inj hE
      refine retQ.retF H rfl ⟨rfl, rfl⟩ ?_
      exact (fun _ _ h => h)
     refine AWp.skip ?_
     refine hK30 _ ?_
     clear hK30 K30
     refine region ?_
     refine s0 moveA rfl ?_
     refine s0 (addIA rfl rfl) rfl ?_
     refine s0 assignA rfl ?_
     refine nil ?_
     exact hK24 _ (n24, (s5_25 + 1)) Weak.toA hE (Nat.lt_succ_self _)
    refine AWp.exit ?_
    exact hK7 _ () Weak.toA hE
 rintro _ hE
 try dsimp only at hE
 unfold Z29_j7 at hE
 refine seqJH KeepsT.nil (fun (z : Unit) => []) (fun z => H) (fun z => Z29_j8  = some r) ?_ ?_
 ·intro K8 hK8
  refine seqK fun K10 hK10 => ?_
  refine region ?_
  refine s0 assignA rfl ?_
  refine nil ?_
  refine hK10 _ ?_
  clear hK10 K10
  refine block ?_
  refine loopH (KeepsT.A (k := 1) (KeepsT.A (k := 2) KeepsT.nil)) (fun (z : Nat × Nat) => [(6, .a (.d (.int .i64 ((z.2 : Nat) : Int))))]) (fun z => H) (fun z => z.1) (fun z => Z29_l11 a0 a1 (Z29_n n) z.1 z.2 = some r) ((a0.FItems.l.length + 1), 0) hE Weak.toA ?_
  rintro ⟨n11, s6_12⟩ hE K11 hK11
  try dsimp only at hE
  cases n11 with
  | zero => cases hE
  | succ n11 =>
    rw [Z29_l11] at hE
    refine seqK fun K13 hK13 => ?_
    refine seqK fun K14 hK14 => ?_
    refine region ?_
    refine s0 moveA rfl ?_
    refine s0 (fieldVA (TK rfl) rfl rfl (TK rfl) rfl rfl) rfl ?_
    refine s0 (loadV (TK rfl) rfl rfl (congrArg (fun x => some (A.d x)) (TValue.FItemsD_eq _))) rfl ?_
    refine sLen (f := TValue.c) (s := a0.FItems) (TK rfl) rfl rfl rfl rfl fun hL15 => ?_
    refine s0 (binI rfl rfl rfl) rfl ?_
    refine nil ?_
    refine hK14 _ ?_
    clear hK14 K14
    refine condE hE rfl (fun hc16 hE => ?_) (fun hc16 hE => ?_)
    ·try dsimp only at hc16
     have hf16 := of_decide_eq_true hc16
     refine AWp.skip ?_
     refine hK13 _ ?_
     clear hK13 K13
     refine seqK fun K17 hK17 => ?_
     refine block ?_
     refine seqK fun K18 hK18 => ?_
     refine region ?_
     refine s0 (fieldVA (TK rfl) rfl rfl (TK rfl) rfl rfl) rfl ?_
     refine s0 (loadV (TK rfl) rfl rfl (congrArg (fun x => some (A.d x)) (TValue.FItemsD_eq _))) rfl ?_
     refine s0 moveA rfl ?_
     obtain ⟨x19, gx19, hE⟩ := bindO_some hE
     refine s0 (idxMn (f := TValue.c) (n := s6_12) (TK rfl) rfl (TK rfl) rfl rfl rfl gx19) rfl ?_
     refine s0 (loadV (TK rfl) rfl rfl rfl) rfl ?_
     refine s0 moveA rfl ?_
     obtain ⟨x20, gx20, hE⟩ := bindO_some hE
     refine s0 (callP rfl rfl (fun H => ih_20 gx20 H)) rfl ?_
     refine s0 (notB rfl) rfl ?_
     refine nil ?_
     refine hK18 _ ?_
     clear hK18 K18
     refine condE hE rfl (fun hc21 hE => ?_) (fun hc21 hE => ?_)
     ·refine seqK fun K22 hK22 => ?_
      refine region ?_
      refine s0 assignA rfl ?_
      refine nil ?_
      refine hK22 _ ?_
      clear hK22 K22
      refine AWp.ret ?_
      repeat (first | refine xBlock_ret ?_ | refine xThen_ret ?_)
      obtain rfl := Option.some.inj hE
      refine retQ.retF H rfl ⟨rfl, rfl⟩ ?_
      exact (fun _ _ h => h)
     refine AWp.skip ?_
     refine hK17 _ ?_
     clear hK17 K17
     refine region ?_
     refine s0 moveA rfl ?_
     refine s0 (addIA rfl rfl) rfl ?_
     refine s0 assignA rfl ?_
     refine nil ?_
     exact hK11 _ (n11, (s6_12 + 1)) Weak.toA hE (Nat.lt_succ_self _)
    refine AWp.exit ?_
    exact hK8 _ () Weak.toA hE
 rintro _ hE
 try dsimp only at hE
 unfold Z29_j8 at hE
 refine seqK fun K9 hK9 => ?_
 refine region ?_
 refine s0 assignA rfl ?_
 refine nil ?_
 refine hK9 _ ?_
 clear hK9 K9
 refine AWp.ret ?_
 repeat (first | refine xBlock_ret ?_ | refine xThen_ret ?_)
 obtain rfl := Option.some.inj hE
 refine retQ.retF H rfl ⟨rfl, rfl⟩ ?_
 exact (fun _ _ h => h)
theorem Z29_all : ∀ (n : Nat), (∀ {a0 : TValue} {a1 : Bool}   {r : Bool}, Z29_n n a0 a1 = some r → ∀ (H : Heap), ACalls Tryd.prog 20 [.agg (TValue.c a0), .d (.bool a1)] H fun v h' => v = .a (.d (.bool r)) ∧ h' = H)
 | 0 => fun hE => by first | cases hE | (rw [Z29_n] at hE; cases hE)
 | n + 1 => Z29_step n (Z29_all n)
def Z29 (a0 : TValue) (a1 : Bool) : Option Bool := Z29_n F0 a0 a1
theorem Z29_walk {a0 : TValue} {a1 : Bool}   {r : Bool} (hE : Z29 a0 a1 = some r) (H : Heap)  : ACalls Tryd.prog 20 [.agg (TValue.c a0), .d (.bool a1)] H fun v h' => v = .a (.d (.bool r)) ∧ h' = H := (Z29_all F0) hE H 
def Z24 (a0 : TValue) : Option Bool := (Z26 a0).bind fun x3 => guardO ((decide (x3 ≤ (4096 : Int)))) (Z23 a0) (0 : Int) fun x4 => guardO (((decide (x3 ≤ (4096 : Int))) && (decide (x4 ≤ (24 : Int))))) (Z29 a0 true) false fun x5 => some (((decide (x3 ≤ (4096 : Int))) && (decide (x4 ≤ (24 : Int)))) && x5)
theorem Z24_walk {a0 : TValue}   {r : Bool} (hE : Z24 a0 = some r) (H : Heap)  : ACalls Tryd.prog 7 [.agg (TValue.c a0)] H fun v h' => v = .a (.d (.bool r)) ∧ h' = H := by
 unfold Z24 at hE
 refine ACalls.of_wp (fn := Tryd.f7) (c := _) Tryd.tab_ok (fun _ _ => Tryd.call7 _ _) Tryd.func7 rfl (n := 15) rfl (rs := [.tmp 2]) rfl rfl ?_
 refine seqK fun K1 hK1 => ?_
 refine region ?_
 refine s0 (boxV rfl) rfl ?_
 refine s0 assignA rfl ?_
 refine nil ?_
 refine hK1 _ ?_
 clear hK1 K1
 refine seqK fun K2 hK2 => ?_
 refine region ?_
 refine s0 (loadV (TK rfl) rfl rfl rfl) rfl ?_
 obtain ⟨x3, gx3, hE⟩ := bindO_some hE
 refine s0 (callP rfl rfl (fun H => Z26_walk gx3 H)) rfl ?_
 refine s0 (binI rfl rfl rfl) rfl ?_
 refine s0 moveA rfl ?_
 refine gC rfl rfl (fun hC => loadV (TK rfl) rfl rfl rfl) rfl ?_
 obtain ⟨x4, gx4, hE⟩ := guardO_some hE
 refine gC rfl rfl (fun hC => ungdA (k := 7) rfl (callP rfl rfl (fun H => Z23_walk (gx4 hC) H))) rfl ?_
 refine gC rfl rfl (fun hC => ungdA (k := 8) rfl (binI rfl rfl rfl)) rfl ?_
 refine s0 (pickAndA rfl rfl rfl) rfl ?_
 refine s0 moveA rfl ?_
 refine gC rfl rfl (fun hC => loadV (TK rfl) rfl rfl rfl) rfl ?_
 obtain ⟨x5, gx5, hE⟩ := guardO_some hE
 refine gC rfl rfl (fun hC => ungdA (k := 12) rfl (callP rfl rfl (fun H => Z29_walk (gx5 hC) H))) rfl ?_
 refine s0 (pickAndA rfl rfl rfl) rfl ?_
 refine s0 assignA rfl ?_
 refine nil ?_
 refine hK2 _ ?_
 clear hK2 K2
 refine AWp.ret ?_
 repeat (first | refine xBlock_ret ?_ | refine xThen_ret ?_)
 obtain rfl := Option.some.inj hE
 refine retQ.retF H rfl ⟨rfl, rfl⟩ ?_
 exact (fun _ _ h => h)
def Z25 (a0 : TValue) : Option Bool := (Z26 a0).bind fun x3 => guardO ((decide (x3 ≤ (4096 : Int)))) (Z23 a0) (0 : Int) fun x4 => guardO (((decide (x3 ≤ (4096 : Int))) && (decide (x4 ≤ (24 : Int))))) (Z29 a0 false) false fun x5 => some (((decide (x3 ≤ (4096 : Int))) && (decide (x4 ≤ (24 : Int)))) && x5)
theorem Z25_walk {a0 : TValue}   {r : Bool} (hE : Z25 a0 = some r) (H : Heap)  : ACalls Tryd.prog 8 [.agg (TValue.c a0)] H fun v h' => v = .a (.d (.bool r)) ∧ h' = H := by
 unfold Z25 at hE
 refine ACalls.of_wp (fn := Tryd.f8) (c := _) Tryd.tab_ok (fun _ _ => Tryd.call8 _ _) Tryd.func8 rfl (n := 15) rfl (rs := [.tmp 2]) rfl rfl ?_
 refine seqK fun K1 hK1 => ?_
 refine region ?_
 refine s0 (boxV rfl) rfl ?_
 refine s0 assignA rfl ?_
 refine nil ?_
 refine hK1 _ ?_
 clear hK1 K1
 refine seqK fun K2 hK2 => ?_
 refine region ?_
 refine s0 (loadV (TK rfl) rfl rfl rfl) rfl ?_
 obtain ⟨x3, gx3, hE⟩ := bindO_some hE
 refine s0 (callP rfl rfl (fun H => Z26_walk gx3 H)) rfl ?_
 refine s0 (binI rfl rfl rfl) rfl ?_
 refine s0 moveA rfl ?_
 refine gC rfl rfl (fun hC => loadV (TK rfl) rfl rfl rfl) rfl ?_
 obtain ⟨x4, gx4, hE⟩ := guardO_some hE
 refine gC rfl rfl (fun hC => ungdA (k := 7) rfl (callP rfl rfl (fun H => Z23_walk (gx4 hC) H))) rfl ?_
 refine gC rfl rfl (fun hC => ungdA (k := 8) rfl (binI rfl rfl rfl)) rfl ?_
 refine s0 (pickAndA rfl rfl rfl) rfl ?_
 refine s0 moveA rfl ?_
 refine gC rfl rfl (fun hC => loadV (TK rfl) rfl rfl rfl) rfl ?_
 obtain ⟨x5, gx5, hE⟩ := guardO_some hE
 refine gC rfl rfl (fun hC => ungdA (k := 12) rfl (callP rfl rfl (fun H => Z29_walk (gx5 hC) H))) rfl ?_
 refine s0 (pickAndA rfl rfl rfl) rfl ?_
 refine s0 assignA rfl ?_
 refine nil ?_
 refine hK2 _ ?_
 clear hK2 K2
 refine AWp.ret ?_
 repeat (first | refine xBlock_ret ?_ | refine xThen_ret ?_)
 obtain rfl := Option.some.inj hE
 refine retQ.retF H rfl ⟨rfl, rfl⟩ ?_
 exact (fun _ _ h => h)
def Z47_j3  (s5_4 : Int) : Option Int := some s5_4
def Z47_j14 (s6_9 : Nat) (k_next_7 : Int → Nat → Option Int) (s5_15 : Int) : Option Int := k_next_7 s5_15 (s6_9 + 1)
def Z47_l19 (a0 : (Sl TDir)) (a1 : Int) (s6_9 : Nat) (k_next_7 : Int → Nat → Option Int) : Nat → Int → Nat → Option Int
 | 0, _, _ => none
 | n19 + 1, s5_20, s7_21 => (a0.l[s6_9]?).bind fun x24 => bif ((decide (((s7_21 : Nat) : Int) < ((x24.FArgs.l.length : Nat) : Int))) && (decide (s5_20 ≤ a1))) then ((addC s5_20 (1 : Int)).bind fun x28 => (a0.l[s6_9]?).bind fun x29 => (x29.FArgs.l[s7_21]?).bind fun x30 => (Z31 x30.FValue a1).bind fun x31 => (addC x28 x31).bind fun x32 => (Z47_l19 a0 a1 s6_9 k_next_7 n19) x32 (s7_21 + 1)) else (Z47_j14 s6_9 k_next_7 s5_20)
def Z47_l7 (a0 : (Sl TDir)) (a1 : Int)  : Nat → Int → Nat → Option Int
 | 0, _, _ => none
 | n7 + 1, s5_8, s6_9 => bif ((decide (((s6_9 : Nat) : Int) < ((a0.l.length : Nat) : Int))) && (decide (s5_8 ≤ a1))) then ((addC s5_8 (1 : Int)).bind fun x17 => Z47_l19 a0 a1 s6_9 ((Z47_l7 a0 a1 n7)) (Option.elim (a0.l[s6_9]?) 1 (fun x24 => x24.FArgs.l.length + 1)) x17 0) else (Z47_j3   s5_8)
def Z47 (a0 : (Sl TDir)) (a1 : Int) : Option Int := Z47_l7 a0 a1 (a0.l.length + 1) (0 : Int) 0
theorem Z47_walk {a0 : (Sl TDir)} {a1 : Int} {w0 : Option Nat}  {r : Int} (hE : Z47 a0 a1 = some r) (H : Heap)  : ACalls Tryd.prog 48 [.d (Sl.d 2 TDir.c w0 a0), .d (.int .i64 a1)] H fun v h' => v = .a (.d (.int .i64 r)) ∧ h' = H := by
 unfold Z47 at hE
 refine ACalls.of_wp (fn := Tryd.f48) (c := _) Tryd.tab_ok (fun _ _ => Tryd.call48 _ _) Tryd.func48 rfl (n := 51) rfl (rs := [.tmp 4]) rfl rfl ?_
 refine seqK fun K1 hK1 => ?_
 refine region ?_
 refine s0 assignA rfl ?_
 refine nil ?_
 refine hK1 _ ?_
 clear hK1 K1
 refine seqK fun K2 hK2 => ?_
 refine region ?_
 refine s0 assignA rfl ?_
 refine nil ?_
 refine hK2 _ ?_
 clear hK2 K2
 refine seqJH KeepsT.nil (fun (z : Int) => [(5, .a (.d (.int .i64 z)))]) (fun z => H) (fun z => Z47_j3 z = some r) ?_ ?_
 ·intro K3 hK3
  refine seqK fun K6 hK6 => ?_
  refine region ?_
  refine s0 assignA rfl ?_
  refine nil ?_
  refine hK6 _ ?_
  clear hK6 K6
  refine block ?_
  refine loopH (KeepsT.A (k := 0) (KeepsT.A (k := 1) KeepsT.nil)) (fun (z : Nat × Int × Nat) => [(5, .a (.d (.int .i64 z.2.1))), (6, .a (.d (.int .i64 ((z.2.2 : Nat) : Int))))]) (fun z => H) (fun z => z.1) (fun z => Z47_l7 a0 a1 z.1 z.2.1 z.2.2 = some r) ((a0.l.length + 1), (0 : Int), 0) hE Weak.toA ?_
  rintro ⟨n7, s5_8, s6_9⟩ hE K7 hK7
  try dsimp only at hE
  cases n7 with
  | zero => cases hE
  | succ n7 =>
    rw [Z47_l7] at hE
    refine seqK fun K10 hK10 => ?_
    refine seqK fun K11 hK11 => ?_
    refine region ?_
    refine s0 moveA rfl ?_
    refine s0 moveA rfl ?_
    refine sLen (f := TDir.c) (s := a0) (TK rfl) rfl rfl rfl rfl fun hL12 => ?_
    refine s0 (binI rfl rfl rfl) rfl ?_
    refine s0 moveA rfl ?_
    refine gC rfl rfl (fun hC => moveA) rfl ?_
    refine gC rfl rfl (fun hC => moveA) rfl ?_
    refine gC rfl rfl (fun hC => ungdA (k := 13) rfl (ungdA (k := 14) rfl (binI rfl rfl rfl))) rfl ?_
    refine s0 (pickAndA rfl rfl rfl) rfl ?_
    refine nil ?_
    refine hK11 _ ?_
    clear hK11 K11
    refine condE hE rfl (fun hc13 hE => ?_) (fun hc13 hE => ?_)
    ·try dsimp only at hc13
     have hf13 := of_decide_eq_true (and_left hc13)
     refine AWp.skip ?_
     refine hK10 _ ?_
     clear hK10 K10
     refine seqJH (KeepsT.A (k := 0) (KeepsT.A (k := 1) (KeepsT.A (k := 6) KeepsT.nil))) (fun (z : Int) => [(5, .a (.d (.int .i64 z)))]) (fun z => H) (fun z => Z47_j14 s6_9 ((Z47_l7 a0 a1 n7)) z = some r) ?_ ?_
     ·intro K14 hK14
      refine block ?_
      refine seqK fun K16 hK16 => ?_
      refine region ?_
      refine s0 moveA rfl ?_
      obtain ⟨x17, gx17, hE⟩ := bindO_some hE
      refine s0 (addM rfl rfl gx17) rfl ?_
      refine s0 assignA rfl ?_
      refine nil ?_
      refine hK16 _ ?_
      clear hK16 K16
      refine seqK fun K18 hK18 => ?_
      refine region ?_
      refine s0 assignA rfl ?_
      refine nil ?_
      refine hK18 _ ?_
      clear hK18 K18
      refine block ?_
      refine loopH (KeepsT.A (k := 0) (KeepsT.A (k := 1) (KeepsT.A (k := 6) KeepsT.nil))) (fun (z : Nat × Int × Nat) => [(5, .a (.d (.int .i64 z.2.1))), (7, .a (.d (.int .i64 ((z.2.2 : Nat) : Int))))]) (fun z => H) (fun z => z.1) (fun z => Z47_l19 a0 a1 s6_9 ((Z47_l7 a0 a1 n7)) z.1 z.2.1 z.2.2 = some r) ((Option.elim (a0.l[s6_9]?) 1 (fun x24 => x24.FArgs.l.length + 1)), x17, 0) hE Weak.toA ?_
      rintro ⟨n19, s5_20, s7_21⟩ hE K19 hK19
      try dsimp only at hE
      cases n19 with
      | zero => cases hE
      | succ n19 =>
        rw [Z47_l19] at hE
        refine seqK fun K22 hK22 => ?_
        refine seqK fun K23 hK23 => ?_
        refine region ?_
        refine s0 moveA rfl ?_
        refine s0 moveA rfl ?_
        refine s0 moveA rfl ?_
        obtain ⟨x24, gx24, hE⟩ := bindO_some hE
        refine s0 (idxMn (f := TDir.c) (n := s6_9) (TK rfl) rfl (TK rfl) rfl rfl rfl gx24) rfl ?_
        refine s0 (fieldVA (TK rfl) rfl rfl (TK rfl) rfl rfl) rfl ?_
        refine s0 (loadV (TK rfl) rfl rfl rfl) rfl ?_
        refine sLen (f := TArg.c) (s := x24.FArgs) (TK rfl) rfl rfl rfl rfl fun hL25 => ?_
        refine s0 (binI rfl rfl rfl) rfl ?_
        refine s0 moveA rfl ?_
        refine gC rfl rfl (fun hC => moveA) rfl ?_
        refine gC rfl rfl (fun hC => moveA) rfl ?_
        refine gC rfl rfl (fun hC => ungdA (k := 30) rfl (ungdA (k := 31) rfl (binI rfl rfl rfl))) rfl ?_
        refine s0 (pickAndA rfl rfl rfl) rfl ?_
        refine nil ?_
        refine hK23 _ ?_
        clear hK23 K23
        refine condE hE rfl (fun hc26 hE => ?_) (fun hc26 hE => ?_)
        ·try dsimp only at hc26
         have hf26 := of_decide_eq_true (and_left hc26)
         refine AWp.skip ?_
         refine hK22 _ ?_
         clear hK22 K22
         refine seqK fun K27 hK27 => ?_
         refine block ?_
         refine region ?_
         refine s0 moveA rfl ?_
         obtain ⟨x28, gx28, hE⟩ := bindO_some hE
         refine s0 (addM rfl rfl gx28) rfl ?_
         refine s0 moveA rfl ?_
         refine s0 moveA rfl ?_
         obtain ⟨x29, gx29, hE⟩ := bindO_some hE
         refine s0 (idxMn (f := TDir.c) (n := s6_9) (TK rfl) rfl (TK rfl) rfl rfl rfl gx29) rfl ?_
         refine s0 (fieldVA (TK rfl) rfl rfl (TK rfl) rfl rfl) rfl ?_
         refine s0 (loadV (TK rfl) rfl rfl rfl) rfl ?_
         refine s0 moveA rfl ?_
         obtain ⟨x30, gx30, hE⟩ := bindO_some hE
         refine s0 (idxMn (f := TArg.c) (n := s7_21) (TK rfl) rfl (TK rfl) rfl rfl rfl gx30) rfl ?_
         refine s0 (fieldVA (TK rfl) rfl rfl (TK rfl) rfl rfl) rfl ?_
         refine s0 (loadV (TK rfl) rfl rfl rfl) rfl ?_
         refine s0 moveA rfl ?_
         obtain ⟨x31, gx31, hE⟩ := bindO_some hE
         refine s0 (callP rfl rfl (fun H => Z31_walk gx31 H)) rfl ?_
         obtain ⟨x32, gx32, hE⟩ := bindO_some hE
         refine s0 (addM rfl rfl gx32) rfl ?_
         refine s0 assignA rfl ?_
         refine nil ?_
         refine hK27 _ ?_
         clear hK27 K27
         refine region ?_
         refine s0 moveA rfl ?_
         refine s0 (addIA rfl rfl) rfl ?_
         refine s0 assignA rfl ?_
         refine nil ?_
         exact hK19 _ (n19, x32, (s7_21 + 1)) Weak.toA hE (Nat.lt_succ_self _)
        refine AWp.exit ?_
        exact hK14 _ s5_20 Weak.toA hE
     rintro s5_15 hE
     try dsimp only at hE
     unfold Z47_j14 at hE
     refine region ?_
     refine s0 moveA rfl ?_
     refine s0 (addIA rfl rfl) rfl ?_
     refine s0 assignA rfl ?_
     refine nil ?_
     exact hK7 _ (n7, s5_15, (s6_9 + 1)) Weak.toA hE (Nat.lt_succ_self _)
    refine AWp.exit ?_
    exact hK3 _ s5_8 Weak.toA hE
 rintro s5_4 hE
 try dsimp only at hE
 unfold Z47_j3 at hE
 refine seqK fun K5 hK5 => ?_
 refine region ?_
 refine s0 moveA rfl ?_
 refine s0 assignA rfl ?_
 refine nil ?_
 refine hK5 _ ?_
 clear hK5 K5
 refine AWp.ret ?_
 repeat (first | refine xBlock_ret ?_ | refine xThen_ret ?_)
 obtain rfl := Option.some.inj hE
 refine retQ.retF H rfl ⟨rfl, rfl⟩ ?_
 exact (fun _ _ h => h)
end Go.Proofs
