import Derived.Test.YtnbbdamkdkhjkaaGreatV4
set_option maxRecDepth 100000
set_option maxHeartbeats 2000000
set_option linter.unusedVariables false
set_option linter.unusedSimpArgs false
namespace Go.Proofs
open Go Go.Ab
open AOps Cert AWp
def Z1_j3   : Option Int := some (0 : Int)
def Z1_l7 (a0 : (Sl Int))  : Nat → Nat → Option Int
 | 0, _ => none
 | n7 + 1, s8_8 => bif (decide (((s8_8 : Nat) : Int) < ((a0.l.length : Nat) : Int))) then ((a0.l[s8_8]?).bind fun x14 => bif (!decide (x14 = (0 : Int))) then (some x14) else ((Z1_l7 a0 n7) (s8_8 + 1))) else (Z1_j3   )
def Z1 (a0 : (Sl Int)) : Option Int := Z1_l7 a0 (a0.l.length + 1) 0
theorem Z1_walk {a0 : (Sl Int)} {w0 : Option Nat}  {r : Int} (hE : Z1 a0 = some r) (H : Heap)  : ACalls Tryz.prog 58 [.d (Sl.d 1 (intE .i64) w0 a0)] H fun v h' => v = .a (.d (.int .i64 r)) ∧ h' = H := by
 unfold Z1 at hE
 refine ACalls.of_wp (fn := Tryz.f58) (c := _) Tryz.tab_ok (fun _ _ => Tryz.call58 _ _) Tryz.func58 rfl (n := 18) rfl (rs := [.tmp 2]) rfl rfl ?_
 refine seqK fun K1 hK1 => ?_
 refine region ?_
 refine s0 assignA rfl ?_
 refine nil ?_
 refine hK1 _ ?_
 clear hK1 K1
 refine seqK fun K2 hK2 => ?_
 refine region ?_
 refine s0 assignA rfl ?_
 refine nil ?_
 refine hK2 _ ?_
 clear hK2 K2
 refine seqJH (KeepsT.A (k := 3) KeepsT.nil) (fun (z : Unit) => []) (fun z => H) (fun z => Z1_j3  = some r) ?_ ?_
 ·intro K3 hK3
  refine seqK fun K5 hK5 => ?_
  refine region ?_
  refine s0 moveA rfl ?_
  refine sLen (f := (intE .i64)) (s := a0) (TK rfl) rfl rfl rfl rfl fun hL6 => ?_
  refine s0 moveA rfl ?_
  refine nil ?_
  refine hK5 _ ?_
  clear hK5 K5
  refine block ?_
  refine loopH (KeepsT.A (k := 3) (KeepsT.A (k := 6) (KeepsT.A (k := 7) KeepsT.nil))) (fun (z : Nat × Nat) => [(8, .a (.d (.int .i64 ((z.2 : Nat) : Int))))]) (fun z => H) (fun z => z.1) (fun z => Z1_l7 a0 z.1 z.2 = some r) ((a0.l.length + 1), 0) hE Weak.toA ?_
  rintro ⟨n7, s8_8⟩ hE K7 hK7
  try dsimp only at hE
  cases n7 with
  | zero => cases hE
  | succ n7 =>
    rw [Z1_l7] at hE
    refine seqK fun K9 hK9 => ?_
    refine region ?_
    refine s0 (binI rfl rfl rfl) rfl ?_
    refine nil ?_
    refine hK9 _ ?_
    clear hK9 K9
    refine seqK fun K10 hK10 => ?_
    refine condE hE rfl (fun hc11 hE => ?_) (fun hc11 hE => ?_)
    ·try dsimp only at hc11
     have hf11 := of_decide_eq_true hc11
     refine AWp.skip ?_
     refine hK10 _ ?_
     clear hK10 K10
     refine seqK fun K12 hK12 => ?_
     refine block ?_
     refine seqK fun K13 hK13 => ?_
     refine region ?_
     obtain ⟨x14, gx14, hE⟩ := bindO_some hE
     refine s0 (idxMn (f := (intE .i64)) (n := s8_8) (TK rfl) rfl (TK rfl) rfl rfl rfl gx14) rfl ?_
     refine s0 (loadV (TK rfl) rfl rfl rfl) rfl ?_
     refine s0 assignA rfl ?_
     refine nil ?_
     refine hK13 _ ?_
     clear hK13 K13
     refine seqK fun K15 hK15 => ?_
     refine region ?_
     refine s0 moveA rfl ?_
     refine s0 moveA rfl ?_
     refine s0 (binI rfl rfl rfl) rfl ?_
     refine nil ?_
     refine hK15 _ ?_
     clear hK15 K15
     refine condE hE rfl (fun hc16 hE => ?_) (fun hc16 hE => ?_)
     ·refine seqK fun K17 hK17 => ?_
      refine region ?_
      refine s0 moveA rfl ?_
      refine s0 assignA rfl ?_
      refine nil ?_
      refine hK17 _ ?_
      clear hK17 K17
      refine AWp.ret ?_
      repeat (first | refine xBlock_ret ?_ | refine xThen_ret ?_)
      obtain rfl := Option.some.inj hE
      refine retQ.retF H rfl ⟨rfl, rfl⟩ ?_
      exact (fun _ _ h => h)
     refine AWp.skip ?_
     refine hK12 _ ?_
     clear hK12 K12
     refine region ?_
     refine s0 (addIA rfl rfl) rfl ?_
     refine s0 moveA rfl ?_
     refine nil ?_
     exact hK7 _ (n7, (s8_8 + 1)) Weak.toA hE (Nat.lt_succ_self _)
    refine AWp.exit ?_
    exact hK3 _ () Weak.toA hE
 rintro _ hE
 try dsimp only at hE
 unfold Z1_j3 at hE
 refine seqK fun K4 hK4 => ?_
 refine region ?_
 refine s0 moveA rfl ?_
 refine s0 assignA rfl ?_
 refine nil ?_
 refine hK4 _ ?_
 clear hK4 K4
 refine AWp.ret ?_
 repeat (first | refine xBlock_ret ?_ | refine xThen_ret ?_)
 obtain rfl := Option.some.inj hE
 refine retQ.retF H rfl ⟨rfl, rfl⟩ ?_
 exact (fun _ _ h => h)
def Z2 (a0 : Bs) : Option Bool := some (!(a0 == a0))
theorem Z2_walk {a0 : Bs}   {r : Bool} (hE : Z2 a0 = some r) (H : Heap)  : ACalls Tryz.prog 104 [.d (.str a0)] H fun v h' => v = .a (.d (.bool r)) ∧ h' = H := by
 unfold Z2 at hE
 refine ACalls.of_wp (fn := Tryz.f104) (c := _) Tryz.tab_ok (fun _ _ => Tryz.call104 _ _) Tryz.func104 rfl (n := 6) rfl (rs := [.tmp 2]) rfl rfl ?_
 refine seqK fun K1 hK1 => ?_
 refine region ?_
 refine s0 assignA rfl ?_
 refine nil ?_
 refine hK1 _ ?_
 clear hK1 K1
 refine seqK fun K2 hK2 => ?_
 refine region ?_
 refine s0 moveA rfl ?_
 refine s0 moveA rfl ?_
 refine s0 (binS rfl rfl rfl) rfl ?_
 refine s0 assignA rfl ?_
 refine nil ?_
 refine hK2 _ ?_
 clear hK2 K2
 refine AWp.ret ?_
 repeat (first | refine xBlock_ret ?_ | refine xThen_ret ?_)
 obtain rfl := Option.some.inj hE
 refine retQ.retF H rfl ⟨rfl, rfl⟩ ?_
 exact (fun _ _ h => h)
def Z0 (a0 : Bs) (a1 : Bs) : Option Int := (Z2 a0).bind fun x3 => (Z2 a1).bind fun x5 => bif x3 then (bif x5 then (some (0 : Int)) else (some (-1 : Int))) else (bif x5 then (some (1 : Int)) else (bif (Op.bytesLess a0 a1) then (some (-1 : Int)) else (bif (!(Op.bytesLess a0 a1 || a0 == a1)) then (some (1 : Int)) else (some (0 : Int)))))
theorem Z0_walk {a0 : Bs} {a1 : Bs}   {r : Int} (hE : Z0 a0 a1 = some r) (H : Heap)  : ACalls Tryz.prog 59 [.d (.str a0), .d (.str a1)] H fun v h' => v = .a (.d (.int .i64 r)) ∧ h' = H := by
 unfold Z0 at hE
 refine ACalls.of_wp (fn := Tryz.f59) (c := _) Tryz.tab_ok (fun _ _ => Tryz.call59 _ _) Tryz.func59 rfl (n := 20) rfl (rs := [.tmp 4]) rfl rfl ?_
 refine seqK fun K1 hK1 => ?_
 refine region ?_
 refine s0 assignA rfl ?_
 refine nil ?_
 refine hK1 _ ?_
 clear hK1 K1
 refine seqK fun K2 hK2 => ?_
 refine region ?_
 refine s0 moveA rfl ?_
 obtain ⟨x3, gx3, hE⟩ := bindO_some hE
 refine s0 (callP rfl rfl (fun H => Z2_walk gx3 H)) rfl ?_
 refine s0 assignA rfl ?_
 refine nil ?_
 refine hK2 _ ?_
 clear hK2 K2
 refine seqK fun K4 hK4 => ?_
 refine region ?_
 refine s0 moveA rfl ?_
 obtain ⟨x5, gx5, hE⟩ := bindO_some hE
 refine s0 (callP rfl rfl (fun H => Z2_walk gx5 H)) rfl ?_
 refine s0 assignA rfl ?_
 refine nil ?_
 refine hK4 _ ?_
 clear hK4 K4
 refine seqK fun K6 hK6 => ?_
 refine seqK fun K7 hK7 => ?_
 refine region ?_
 refine s0 moveA rfl ?_
 refine nil ?_
 refine hK7 _ ?_
 clear hK7 K7
 refine condE hE rfl (fun hc8 hE => ?_) (fun hc8 hE => ?_)
 ·refine seqK fun K9 hK9 => ?_
  refine seqK fun K10 hK10 => ?_
  refine region ?_
  refine s0 moveA rfl ?_
  refine nil ?_
  refine hK10 _ ?_
  clear hK10 K10
  refine condE hE rfl (fun hc11 hE => ?_) (fun hc11 hE => ?_)
  ·refine seqK fun K12 hK12 => ?_
   refine region ?_
   refine s0 assignA rfl ?_
   refine nil ?_
   refine hK12 _ ?_
   clear hK12 K12
   refine AWp.ret ?_
   repeat (first | refine xBlock_ret ?_ | refine xThen_ret ?_)
   obtain rfl := Option.some.inj hE
   refine retQ.retF H rfl ⟨rfl, rfl⟩ ?_
   exact (fun _ _ h => h)
  refine AWp.skip ?_
  refine hK9 _ ?_
  clear hK9 K9
  refine seqK fun K13 hK13 => ?_
  refine region ?_
  refine s0 assignA rfl ?_
  refine nil ?_
  refine hK13 _ ?_
  clear hK13 K13
  refine AWp.ret ?_
  repeat (first | refine xBlock_ret ?_ | refine xThen_ret ?_)
  obtain rfl := Option.some.inj hE
  refine retQ.retF H rfl ⟨rfl, rfl⟩ ?_
  exact (fun _ _ h => h)
 refine AWp.skip ?_
 refine hK6 _ ?_
 clear hK6 K6
 refine seqK fun K14 hK14 => ?_
 refine seqK fun K15 hK15 => ?_
 refine region ?_
 refine s0 moveA rfl ?_
 refine nil ?_
 refine hK15 _ ?_
 clear hK15 K15
 refine condE hE rfl (fun hc16 hE => ?_) (fun hc16 hE => ?_)
 ·refine seqK fun K17 hK17 => ?_
  refine region ?_
  refine s0 assignA rfl ?_
  refine nil ?_
  refine hK17 _ ?_
  clear hK17 K17
  refine AWp.ret ?_
  repeat (first | refine xBlock_ret ?_ | refine xThen_ret ?_)
  obtain rfl := Option.some.inj hE
  refine retQ.retF H rfl ⟨rfl, rfl⟩ ?_
  exact (fun _ _ h => h)
 refine AWp.skip ?_
 refine hK14 _ ?_
 clear hK14 K14
 refine seqK fun K18 hK18 => ?_
 refine seqK fun K19 hK19 => ?_
 refine region ?_
 refine s0 moveA rfl ?_
 refine s0 moveA rfl ?_
 refine s0 (binS rfl rfl rfl) rfl ?_
 refine nil ?_
 refine hK19 _ ?_
 clear hK19 K19
 refine condE hE rfl (fun hc20 hE => ?_) (fun hc20 hE => ?_)
 ·refine seqK fun K21 hK21 => ?_
  refine region ?_
  refine s0 assignA rfl ?_
  refine nil ?_
  refine hK21 _ ?_
  clear hK21 K21
  refine AWp.ret ?_
  repeat (first | refine xBlock_ret ?_ | refine xThen_ret ?_)
  obtain rfl := Option.some.inj hE
  refine retQ.retF H rfl ⟨rfl, rfl⟩ ?_
  exact (fun _ _ h => h)
 refine AWp.skip ?_
 refine hK18 _ ?_
 clear hK18 K18
 refine seqK fun K22 hK22 => ?_
 refine seqK fun K23 hK23 => ?_
 refine region ?_
 refine s0 moveA rfl ?_
 refine s0 moveA rfl ?_
 refine s0 (binS rfl rfl rfl) rfl ?_
 refine nil ?_
 refine hK23 _ ?_
 clear hK23 K23
 refine condE hE rfl (fun hc24 hE => ?_) (fun hc24 hE => ?_)
 ·refine seqK fun K25 hK25 => ?_
  refine region ?_
  refine s0 assignA rfl ?_
  refine nil ?_
  refine hK25 _ ?_
  clear hK25 K25
  refine AWp.ret ?_
  repeat (first | refine xBlock_ret ?_ | refine xThen_ret ?_)
  obtain rfl := Option.some.inj hE
  refine retQ.retF H rfl ⟨rfl, rfl⟩ ?_
  exact (fun _ _ h => h)
 refine AWp.skip ?_
 refine hK22 _ ?_
 clear hK22 K22
 refine seqK fun K26 hK26 => ?_
 refine region ?_
 refine s0 assignA rfl ?_
 refine nil ?_
 refine hK26 _ ?_
 clear hK26 K26
 refine AWp.ret ?_
 repeat (first | refine xBlock_ret ?_ | refine xThen_ret ?_)
 obtain rfl := Option.some.inj hE
 refine retQ.retF H rfl ⟨rfl, rfl⟩ ?_
 exact (fun _ _ h => h)
def Z94 (a0 : TUse) (a1 : TUse) : Option Int := (Z0 a0.FType a1.FType).bind fun x3 => (Z0 a0.FField a1.FField).bind fun x4 => (Z0 a0.FArg a1.FArg).bind fun x5 => (Z1 (⟨false, [x3, x4, x5]⟩ : Sl Int)).bind fun x6 => some x6
theorem Z94_walk {a0 : TUse} {a1 : TUse}   {r : Int} (hE : Z94 a0 a1 = some r) (H : Heap)  : ACalls Tryz.prog 57 [.agg (TUse.c a0), .agg (TUse.c a1)] H fun v h' => v = .a (.d (.int .i64 r)) ∧ h' = H := by
 unfold Z94 at hE
 refine ACalls.of_wp (fn := Tryz.f57) (c := _) Tryz.tab_ok (fun _ _ => Tryz.call57 _ _) Tryz.func57 rfl (n := 22) rfl (rs := [.tmp 4]) rfl rfl ?_
 refine seqK fun K1 hK1 => ?_
 refine region ?_
 refine s0 (boxV rfl) rfl ?_
 refine s0 (boxV rfl) rfl ?_
 refine s0 assignA rfl ?_
 refine nil ?_
 refine hK1 _ ?_
 clear hK1 K1
 refine seqK fun K2 hK2 => ?_
 refine AWp.draw rfl ?_
 refine DOps.s0 (fieldVA (TK rfl) rfl rfl (TK rfl) rfl rfl) rfl ?_
 refine DOps.s0 (loadV (TK rfl) rfl rfl rfl) rfl ?_
 refine DOps.s0 (fieldVA (TK rfl) rfl rfl (TK rfl) rfl rfl) rfl ?_
 refine DOps.s0 (loadV (TK rfl) rfl rfl rfl) rfl ?_
 obtain ⟨x3, gx3, hE⟩ := bindO_some hE
 refine DOps.s0 (callP rfl rfl (fun H => Z0_walk gx3 H)) rfl ?_
 refine DOps.s0 (fieldVA (TK rfl) rfl rfl (TK rfl) rfl rfl) rfl ?_
 refine DOps.s0 (loadV (TK rfl) rfl rfl rfl) rfl ?_
 refine DOps.s0 (fieldVA (TK rfl) rfl rfl (TK rfl) rfl rfl) rfl ?_
 refine DOps.s0 (loadV (TK rfl) rfl rfl rfl) rfl ?_
 obtain ⟨x4, gx4, hE⟩ := bindO_some hE
 refine DOps.s0 (callP rfl rfl (fun H => Z0_walk gx4 H)) rfl ?_
 refine DOps.s0 (fieldVA (TK rfl) rfl rfl (TK rfl) rfl rfl) rfl ?_
 refine DOps.s0 (loadV (TK rfl) rfl rfl rfl) rfl ?_
 refine DOps.s0 (fieldVA (TK rfl) rfl rfl (TK rfl) rfl rfl) rfl ?_
 refine DOps.s0 (loadV (TK rfl) rfl rfl rfl) rfl ?_
 obtain ⟨x5, gx5, hE⟩ := bindO_some hE
 refine DOps.s0 (callP rfl rfl (fun H => Z0_walk gx5 H)) rfl ?_
 refine DOps.s0 (buildSlice (TK rfl) rfl (TK rfl) rfl rfl rfl rfl rfl rfl) rfl ?_
 obtain ⟨x6, gx6, hE⟩ := bindO_some hE
 refine DOps.s0 (callP rfl rfl (fun H => Z1_walk gx6 H)) rfl ?_
 refine DOps.s0 assignA rfl ?_
 refine DOps.nil (by decide +kernel) ?_
 refine hK2 _ ?_
 clear hK2 K2
 refine AWp.ret ?_
 repeat (first | refine xBlock_ret ?_ | refine xThen_ret ?_)
 obtain rfl := Option.some.inj hE
 refine retQ.retF H rfl ⟨rfl, rfl⟩ ?_
 exact (fun _ _ h => h)
theorem bytesLess_lt : ∀ x y : Bs, Op.bytesLess x y = decide (x < y)
 | _, [] => by simp [Op.bytesLess, List.not_lt_nil]
 | [], _ :: _ => by simp [Op.bytesLess, List.nil_lt_cons]
 | a :: x, b :: y => by
  rw [Op.bytesLess, bytesLess_lt x y, Bool.eq_iff_iff]
  simp [List.cons_lt_cons_iff]
def cmpB (a b : Bs) : Int := bif Op.bytesLess a b then -1 else bif !(Op.bytesLess a b || a == b) then 1 else 0
theorem cmp_CompareV (a b : Bs) : Z0 a b = some (cmpB a b) := by
 have h : ∀ s : Bs, Z2 s = some false := fun s => by simp [Z2]
 unfold Z0 cmpB
 rw [h a, h b]
 simp only [Option.bind_some, cond_false]
 cases Op.bytesLess a b <;> cases a == b <;> rfl
theorem cmp_OrV (a b c : Int) : Z1 ⟨false, [a, b, c]⟩ = some (if a ≠ 0 then a else if b ≠ 0 then b else c) := by
 unfold Z1
 simp only [List.length_cons, List.length_nil, Nat.reduceAdd, Z1_l7, Z1_j3]
 by_cases ha : a = 0 <;> by_cases hb : b = 0 <;> by_cases hc : c = 0 <;> simp [ha, hb, hc]
def cmpU (x y : TUse) : Int := if cmpB x.FType y.FType ≠ 0 then cmpB x.FType y.FType else if cmpB x.FField y.FField ≠ 0 then cmpB x.FField y.FField else cmpB x.FArg y.FArg
theorem Z93_1V (x y : TUse) : Z94 x y = some (cmpU x y) := by
 simp only [Z94, cmp_CompareV, Option.bind_some, cmp_OrV, cmpU]
theorem cmpB_spec (a b : Bs) : (cmpB a b < 0 ↔ a < b) ∧ (cmpB a b = 0 ↔ a = b) := by
 unfold cmpB
 rw [bytesLess_lt]
 by_cases h : a < b
 ·have : a ≠ b := fun e => List.lt_irrefl b (e ▸ h)
  simp [h, this]
 by_cases e : a = b
 ·subst e; simp [h]
 have e2 : (a == b) = false := beq_eq_false_iff_ne.2 e
 simp [h, e, e2]
def ltU (x y : TUse) : Prop := x.FType < y.FType ∨ x.FType = y.FType ∧ (x.FField < y.FField ∨ x.FField = y.FField ∧ x.FArg < y.FArg)
theorem cmpU_lt (x y : TUse) : cmpU x y < 0 ↔ ltU x y := by
 unfold cmpU ltU
 have h1 := cmpB_spec x.FType y.FType
 have h2 := cmpB_spec x.FField y.FField
 have h3 := cmpB_spec x.FArg y.FArg
 by_cases e1 : x.FType = y.FType
 ·rw [if_neg (by simp [h1.2.2 e1])]
  by_cases e2 : x.FField = y.FField
  ·rw [if_neg (by simp [h2.2.2 e2]), h3.1]
   simp [e1, e2, List.lt_irrefl]
  rw [if_pos (fun e => e2 (h2.2.1 e)), h2.1]
  simp [e1, e2, List.lt_irrefl]
 rw [if_pos (fun e => e1 (h1.2.1 e)), h1.1]
 simp [e1]
theorem bs_tri (a b : Bs) : a < b ∨ a = b ∨ b < a := by
 by_cases h : a < b
 ·exact .inl h
 by_cases h2 : b < a
 ·exact .inr (.inr h2)
 exact .inr (.inl (List.le_antisymm (List.not_lt.1 h2) (List.not_lt.1 h)))
theorem ltU_trans {x y z : TUse} (h : ltU x y) (h' : ltU y z) : ltU x z := by
 unfold ltU at *
 rcases h with h | ⟨e, h⟩ <;> rcases h' with h' | ⟨e', h'⟩
 ·exact .inl (List.lt_trans h h')
 ·exact .inl (e' ▸ h)
 ·exact .inl (e ▸ h')
 refine .inr ⟨e.trans e', ?_⟩
 rcases h with h | ⟨f, h⟩ <;> rcases h' with h' | ⟨f', h'⟩
 ·exact .inl (List.lt_trans h h')
 ·exact .inl (f' ▸ h)
 ·exact .inl (f ▸ h')
 exact .inr ⟨f.trans f', List.lt_trans h h'⟩
def sameU (x y : TUse) : Prop := x.FType = y.FType ∧ x.FField = y.FField ∧ x.FArg = y.FArg
theorem ltU_tri (x y : TUse) : ltU x y ∨ sameU x y ∨ ltU y x := by
 unfold ltU sameU
 rcases bs_tri x.FType y.FType with h | h | h
 ·exact .inl (.inl h)
 ·rcases bs_tri x.FField y.FField with g | g | g
  ·exact .inl (.inr ⟨h, .inl g⟩)
  ·rcases bs_tri x.FArg y.FArg with k | k | k
   ·exact .inl (.inr ⟨h, .inr ⟨g, k⟩⟩)
   ·exact .inr (.inl ⟨h, g, k⟩)
   exact .inr (.inr (.inr ⟨h.symm, .inr ⟨g.symm, k⟩⟩))
  exact .inr (.inr (.inr ⟨h.symm, .inl g⟩))
 exact .inr (.inr (.inl h))
theorem ltU_irrefl (x : TUse) : ¬ ltU x x := by simp [ltU, List.lt_irrefl]
theorem ltU_same {x y z : TUse} (h : sameU x y) : (ltU x z ↔ ltU y z) ∧ (ltU z x ↔ ltU z y) := by
 obtain ⟨h1, h2, h3⟩ := h
 unfold ltU; rw [h1, h2, h3]; exact ⟨Iff.rfl, Iff.rfl⟩
theorem Z94_tot (x y : TUse) : ∃ z, Z94 x y = some z := ⟨_, Z93_1V x y⟩
theorem Z94_cmp (x y : TUse) : cmpO Z94 x y = cmpU x y := by simp [cmpO, Z93_1V]
theorem Z94_swo : Go.Sort.SWO (Go.Proofs.ltOf (cmpO Z94)) := by
 have key : ∀ x y, Go.Proofs.ltOf (cmpO Z94) x y = decide (cmpU x y < 0) := fun x y => by simp [Go.Proofs.ltOf, Z94_cmp]
 refine ⟨fun x => ?_, fun x y z h h' => ?_, fun x y z h h' => ?_⟩
 ·rw [key]; exact decide_eq_false fun h => ltU_irrefl x ((cmpU_lt _ _).1 h)
 ·rw [key, decide_eq_true_eq, cmpU_lt] at *; exact ltU_trans h h'
 rw [key, decide_eq_false_iff_not, cmpU_lt] at *
 intro hxz
 rcases ltU_tri x y with g | g | g
 ·exact h g
 ·exact h' ((ltU_same g).1.1 hxz)
 exact h' (ltU_trans g hxz)
def Z93_j7  (y8_ar1 : (Sl TUse)) : Option (Sl TUse) := some y8_ar1
def Z93_j18 (s14_13 : Nat) (k_next_12 : Nat → (Sl TUse) → Option (Sl TUse)) (y19_ar1 : (Sl TUse)) : Option (Sl TUse) := k_next_12 (s14_13 + 1) y19_ar1
def Z93_l12 (x5 : (Sl TUse))  : Nat → Nat → (Sl TUse) → Option (Sl TUse)
 | 0, _, _ => none
 | n12 + 1, s14_13, y14_ar1 => bif (decide (((s14_13 : Nat) : Int) < ((x5.l.length : Nat) : Int))) then ((x5.l[s14_13]?).bind fun x21 => guardO ((decide ((0 : Int) < ((y14_ar1.l.length : Nat) : Int)))) (subC ((y14_ar1.l.length : Nat) : Int) (1 : Int)) (0 : Int) fun x26 => guardO ((decide ((0 : Int) < ((y14_ar1.l.length : Nat) : Int)))) (idxC y14_ar1.l x26) TUse.zero fun x27 => guardO (((decide ((0 : Int) < ((y14_ar1.l.length : Nat) : Int))) && ((x27.FType == x21.FType)))) (subC ((y14_ar1.l.length : Nat) : Int) (1 : Int)) (0 : Int) fun x28 => guardO (((decide ((0 : Int) < ((y14_ar1.l.length : Nat) : Int))) && ((x27.FType == x21.FType)))) (idxC y14_ar1.l x28) TUse.zero fun x29 => guardO ((((decide ((0 : Int) < ((y14_ar1.l.length : Nat) : Int))) && ((x27.FType == x21.FType))) && ((x29.FField == x21.FField)))) (subC ((y14_ar1.l.length : Nat) : Int) (1 : Int)) (0 : Int) fun x30 => guardO ((((decide ((0 : Int) < ((y14_ar1.l.length : Nat) : Int))) && ((x27.FType == x21.FType))) && ((x29.FField == x21.FField)))) (idxC y14_ar1.l x30) TUse.zero fun x31 => bif ((((decide ((0 : Int) < ((y14_ar1.l.length : Nat) : Int))) && ((x27.FType == x21.FType))) && ((x29.FField == x21.FField))) && ((x31.FArg == x21.FArg))) then ((subC ((y14_ar1.l.length : Nat) : Int) (1 : Int)).bind fun x34 => (idxC y14_ar1.l x34).bind fun x35 => (idxC y14_ar1.l x34).bind fun x36 => Z93_j18 s14_13 ((Z93_l12 x5 n12)) (Sl.setL y14_ar1 x34.toNat (TUse.mk x36.FType x36.FField x36.FArg (IntKind.wrap .i64 (x35.FCount + x21.FCount))))) else ((appC 56 y14_ar1 (⟨false, [x21]⟩ : Sl TUse)).bind fun x37 => Z93_j18 s14_13 ((Z93_l12 x5 n12)) x37)) else (Z93_j7   y14_ar1)
def Z93 (a0 : (Sl TUse)) : Option (Sl TUse) := (Z77 a0).bind fun x3 => (some (sortL TUse.c Z94 x3)).bind fun x5 => Z93_l12 x5 (x5.l.length + 1) 0 (Sl.nil : Sl TUse)
theorem Z93_walk {a0 : (Sl TUse)} {w0 : Option Nat}  {r : (Sl TUse)} (hE : Z93 a0 = some r) (H : Heap)  : ACalls Tryz.prog 24 [.d (Sl.d 4 TUse.c w0 a0)] H fun v h' => v = .a (.d (Sl.d 4 TUse.c none r)) ∧ h' = H := by
 unfold Z93 at hE
 refine ACalls.of_wp (fn := Tryz.f24) (c := _) Tryz.tab_ok (fun _ _ => Tryz.call24 _ _) Tryz.func24 rfl (n := 72) rfl (rs := [.tmp 2]) rfl rfl ?_
 refine AWp.arrO 4 fun ar1 har1 => ?_
 refine AWp.arrO 4 fun ar2 har2 => ?_
 obtain ⟨ne_ar2_ar1, har2⟩ := Heap.set_fresh har2
 refine seqK fun K1 hK1 => ?_
 refine region ?_
 refine s0 (assignNil (k' := 4) rfl) rfl ?_
 refine AOps.nilR 2 4 ar1 rfl hpG ?_
 refine nil ?_
 refine hK1 _ ?_
 clear hK1 K1
 refine seqK fun K2 hK2 => ?_
 refine region ?_
 refine s0 moveA rfl ?_
 obtain ⟨x3, gx3, hE⟩ := bindO_some hE
 refine sH (callH rfl rfl (Z77_arr gx3 _ hpG)) rfl ?_
 refine AOps.heq (h' := ((H.set ar1 (some (.arr 4 []))).set ar2 (some (.arr 4 (x3.l.map TUse.c))))) (by first | rfl | (rw [Heap.set_set]; rfl) | (funext n_; simp only [Heap.set]; (repeat' split) <;> first | rfl | (exfalso; simp_all; done) | (simp_all; done))) ?_
 refine s0 assignA rfl ?_
 refine nil ?_
 refine hK2 _ ?_
 clear hK2 K2
 refine seqK fun K4 hK4 => ?_
 refine region ?_
 refine s0 moveA rfl ?_
 obtain ⟨x5, gx5, hE⟩ := bindO_some hE
 have ex5 := Option.some.inj gx5
 refine sH (callH rfl rfl (Z83_walk (s := x3) Z94_tot Z94_swo Z94_walk hpG (by first | rfl | simp [Sl.setL, Sl.nil, sortL_len]))) rfl ?_
 refine AOps.heq (h' := ((H.set ar1 (some (.arr 4 []))).set ar2 (some (.arr 4 (x5.l.map TUse.c))))) (by subst ex5; exact (by first | rfl | (rw [Heap.set_set]; rfl) | (funext n_; simp only [Heap.set]; (repeat' split) <;> first | rfl | (exfalso; simp_all; done) | (simp_all; done)))) ?_
 refine nil ?_
 refine hK4 _ ?_
 clear hK4 K4
 refine AWp.arrEq 3 (nl' := x5.nl) (m' := x5.l.length) rfl (by first | rfl | (simp [Sl.setL, Sl.nil, sortL_len]; done) | (subst_vars; first | rfl | (simp [Sl.setL, Sl.nil, sortL_len]; done))) (by first | rfl | (simp [Sl.setL, Sl.nil, sortL_len]; done) | (subst_vars; first | rfl | (simp [Sl.setL, Sl.nil, sortL_len]; done))) ?_
 refine seqK fun K6 hK6 => ?_
 refine region ?_
 refine s0 (assignNil (k' := 4) rfl) rfl ?_
 refine AOps.nilR 4 4 ar1 rfl hpG ?_
 refine nil ?_
 refine hK6 _ ?_
 clear hK6 K6
 refine seqJH KeepsT.nil (fun (z : (Sl TUse)) => [(4, .a (.d (.arr 4 ar1 z.nl z.l.length)))]) (fun z => ((H.set ar1 (some (.arr 4 (z.l.map TUse.c)))).set ar2 (some (.arr 4 (x5.l.map TUse.c))))) (fun z => Z93_j7 z = some r) ?_ ?_
 ·intro K7 hK7
  refine seqK fun K10 hK10 => ?_
  refine region ?_
  refine s0 moveA rfl ?_
  refine AOps.sLenR (f := TUse.c) (l := x5.l) (TK rfl) rfl rfl rfl hpG (by first | rfl | simp [Sl.setL, Sl.nil, sortL_len]) rfl fun hL11 => ?_
  refine s0 moveA rfl ?_
  refine nil ?_
  refine hK10 _ ?_
  clear hK10 K10
  refine block ?_
  refine loopH (KeepsT.A (k := 12) (KeepsT.A (k := 13) KeepsT.nil)) (fun (z : Nat × Nat × (Sl TUse)) => [(14, .a (.d (.int .i64 ((z.2.1 : Nat) : Int)))), (4, .a (.d (.arr 4 ar1 z.2.2.nl z.2.2.l.length)))]) (fun z => ((H.set ar1 (some (.arr 4 (z.2.2.l.map TUse.c)))).set ar2 (some (.arr 4 (x5.l.map TUse.c))))) (fun z => z.1) (fun z => Z93_l12 x5 z.1 z.2.1 z.2.2 = some r) ((x5.l.length + 1), 0, (Sl.nil : Sl TUse)) hE Weak.toA ?_
  rintro ⟨n12, s14_13, y14_ar1⟩ hE K12 hK12
  try dsimp only at hE
  cases n12 with
  | zero => cases hE
  | succ n12 =>
    rw [Z93_l12] at hE
    refine seqK fun K15 hK15 => ?_
    refine region ?_
    refine s0 (binI rfl rfl rfl) rfl ?_
    refine nil ?_
    refine hK15 _ ?_
    clear hK15 K15
    refine seqK fun K16 hK16 => ?_
    refine condE hE rfl (fun hc17 hE => ?_) (fun hc17 hE => ?_)
    ·try dsimp only at hc17
     have hf17 := of_decide_eq_true hc17
     refine AWp.skip ?_
     refine hK16 _ ?_
     clear hK16 K16
     refine seqJH (KeepsT.A (k := 12) (KeepsT.A (k := 13) (KeepsT.A (k := 14) KeepsT.nil))) (fun (z : (Sl TUse)) => [(4, .a (.d (.arr 4 ar1 z.nl z.l.length)))]) (fun z => ((H.set ar1 (some (.arr 4 (z.l.map TUse.c)))).set ar2 (some (.arr 4 (x5.l.map TUse.c))))) (fun z => Z93_j18 s14_13 ((Z93_l12 x5 n12)) z = some r) ?_ ?_
     ·intro K18 hK18
      refine block ?_
      refine seqK fun K20 hK20 => ?_
      refine region ?_
      obtain ⟨x21, gx21, hE⟩ := bindO_some hE
      refine s0 (idxR (f := TUse.c) (n := s14_13) (TK rfl) rfl (TK rfl) rfl rfl rfl hpG (by first | rfl | simp [Sl.setL, Sl.nil, sortL_len]) gx21) rfl ?_
      refine s0 (loadR (f := TUse.c) (l := x5.l) (i := s14_13) (o := 0) (TK rfl) rfl rfl hpG (by first | rfl | simp [Sl.setL, Sl.nil, sortL_len]) gx21 rfl rfl) rfl ?_
      refine sL (allocLA (TK rfl) rfl) rfl ?_
      refine sLn (storeLFA (TK rfl) rfl rfl rfl rfl rfl) ?_
      refine nil ?_
      refine hK20 _ ?_
      clear hK20 K20
      refine freezeA 6 _ rfl (Keeps.c (k := 4) (by conv => lhs; whnf) (by rfl) (Keeps.c (k := 12) (by conv => lhs; whnf) (by rfl) (Keeps.c (k := 13) (by conv => lhs; whnf) (by rfl) (Keeps.c (k := 14) (by conv => lhs; whnf) (by rfl) Keeps.nil)))) ?_
      refine seqK fun K22 hK22 => ?_
      refine region ?_
      refine s0 moveA rfl ?_
      refine AOps.sLenR (f := TUse.c) (l := y14_ar1.l) (TK rfl) rfl rfl rfl hpG (by first | rfl | simp [Sl.setL, Sl.nil, sortL_len]) rfl fun hL23 => ?_
      refine s0 assignA rfl ?_
      refine nil ?_
      refine hK22 _ ?_
      clear hK22 K22
      refine seqK fun K24 hK24 => ?_
      refine seqK fun K25 hK25 => ?_
      refine AWp.draw rfl ?_
      refine DOps.s0 moveA rfl ?_
      refine DOps.s0 (binI rfl rfl rfl) rfl ?_
      refine DOps.s0 moveA rfl ?_
      refine DOps.gC rfl rfl (fun hC => moveA) rfl ?_
      refine DOps.gC rfl rfl (fun hC => moveA) rfl ?_
      obtain ⟨x26, gx26, hE⟩ := guardO_some hE
      refine DOps.gC rfl rfl (fun hC => ungdA (k := 24) rfl (subM rfl rfl (gx26 hC))) rfl ?_
      obtain ⟨x27, gx27, hE⟩ := guardO_some hE
      refine DOps.gC rfl rfl (fun hC => ungdA (k := 23) rfl (ungdA (k := 25) rfl (idxRi (f := TUse.c) (TK rfl) rfl (TK rfl) rfl rfl rfl hpG (by first | rfl | simp [Sl.setL, Sl.nil, sortL_len]) (gx27 hC)))) rfl ?_
      refine DOps.gC rfl rfl (fun hC => ungdA (k := 26) rfl (fieldR (TK rfl) rfl rfl (TK rfl) rfl rfl)) rfl ?_
      refine DOps.gC rfl rfl (fun hC => ungdA (k := 27) rfl (loadR (f := TUse.c) (l := y14_ar1.l) (i := x26.toNat) (o := 0) (TK rfl) rfl rfl hpG (by first | rfl | simp [Sl.setL, Sl.nil, sortL_len]) (idxC_at (gx27 hC)) rfl rfl)) rfl ?_
      refine DOps.gC rfl rfl (fun hC => fieldVA (TK rfl) rfl rfl (TK rfl) rfl rfl) rfl ?_
      refine DOps.gC rfl rfl (fun hC => ungdA (k := 29) rfl (loadV (TK rfl) rfl rfl rfl)) rfl ?_
      refine DOps.gC rfl rfl (fun hC => ungdA (k := 28) rfl (ungdA (k := 30) rfl (binS rfl rfl rfl))) rfl ?_
      refine DOps.s0 (pickAndA rfl rfl rfl) rfl ?_
      refine DOps.s0 moveA rfl ?_
      refine DOps.gC rfl rfl (fun hC => moveA) rfl ?_
      refine DOps.gC rfl rfl (fun hC => moveA) rfl ?_
      obtain ⟨x28, gx28, hE⟩ := guardO_some hE
      refine DOps.gC rfl rfl (fun hC => ungdA (k := 35) rfl (subM rfl rfl (gx28 hC))) rfl ?_
      obtain ⟨x29, gx29, hE⟩ := guardO_some hE
      refine DOps.gC rfl rfl (fun hC => ungdA (k := 34) rfl (ungdA (k := 36) rfl (idxRi (f := TUse.c) (TK rfl) rfl (TK rfl) rfl rfl rfl hpG (by first | rfl | simp [Sl.setL, Sl.nil, sortL_len]) (gx29 hC)))) rfl ?_
      refine DOps.gC rfl rfl (fun hC => ungdA (k := 37) rfl (fieldR (TK rfl) rfl rfl (TK rfl) rfl rfl)) rfl ?_
      refine DOps.gC rfl rfl (fun hC => ungdA (k := 38) rfl (loadR (f := TUse.c) (l := y14_ar1.l) (i := x28.toNat) (o := 1) (TK rfl) rfl rfl hpG (by first | rfl | simp [Sl.setL, Sl.nil, sortL_len]) (idxC_at (gx29 hC)) rfl rfl)) rfl ?_
      refine DOps.gC rfl rfl (fun hC => fieldVA (TK rfl) rfl rfl (TK rfl) rfl rfl) rfl ?_
      refine DOps.gC rfl rfl (fun hC => ungdA (k := 40) rfl (loadV (TK rfl) rfl rfl rfl)) rfl ?_
      refine DOps.gC rfl rfl (fun hC => ungdA (k := 39) rfl (ungdA (k := 41) rfl (binS rfl rfl rfl))) rfl ?_
      refine DOps.s0 (pickAndA rfl rfl rfl) rfl ?_
      refine DOps.s0 moveA rfl ?_
      refine DOps.gC rfl rfl (fun hC => moveA) rfl ?_
      refine DOps.gC rfl rfl (fun hC => moveA) rfl ?_
      obtain ⟨x30, gx30, hE⟩ := guardO_some hE
      refine DOps.gC rfl rfl (fun hC => ungdA (k := 46) rfl (subM rfl rfl (gx30 hC))) rfl ?_
      obtain ⟨x31, gx31, hE⟩ := guardO_some hE
      refine DOps.gC rfl rfl (fun hC => ungdA (k := 45) rfl (ungdA (k := 47) rfl (idxRi (f := TUse.c) (TK rfl) rfl (TK rfl) rfl rfl rfl hpG (by first | rfl | simp [Sl.setL, Sl.nil, sortL_len]) (gx31 hC)))) rfl ?_
      refine DOps.gC rfl rfl (fun hC => ungdA (k := 48) rfl (fieldR (TK rfl) rfl rfl (TK rfl) rfl rfl)) rfl ?_
      refine DOps.gC rfl rfl (fun hC => ungdA (k := 49) rfl (loadR (f := TUse.c) (l := y14_ar1.l) (i := x30.toNat) (o := 2) (TK rfl) rfl rfl hpG (by first | rfl | simp [Sl.setL, Sl.nil, sortL_len]) (idxC_at (gx31 hC)) rfl rfl)) rfl ?_
      refine DOps.gC rfl rfl (fun hC => fieldVA (TK rfl) rfl rfl (TK rfl) rfl rfl) rfl ?_
      refine DOps.gC rfl rfl (fun hC => ungdA (k := 51) rfl (loadV (TK rfl) rfl rfl rfl)) rfl ?_
      refine DOps.gC rfl rfl (fun hC => ungdA (k := 50) rfl (ungdA (k := 52) rfl (binS rfl rfl rfl))) rfl ?_
      refine DOps.s0 (pickAndA rfl rfl rfl) rfl ?_
      refine DOps.nil (by decide +kernel) ?_
      refine hK25 _ ?_
      clear hK25 K25
      refine condE hE rfl (fun hc32 hE => ?_) (fun hc32 hE => ?_)
      ·refine seqK fun K33 hK33 => ?_
       refine AWp.draw rfl ?_
       refine DOps.s0 moveA rfl ?_
       refine DOps.s0 moveA rfl ?_
       obtain ⟨x34, gx34, hE⟩ := bindO_some hE
       refine DOps.s0 (subM rfl rfl gx34) rfl ?_
       obtain ⟨x35, gx35, hE⟩ := bindO_some hE
       refine DOps.s0 (idxRi (f := TUse.c) (TK rfl) rfl (TK rfl) rfl rfl rfl hpG (by first | rfl | simp [Sl.setL, Sl.nil, sortL_len]) gx35) rfl ?_
       refine DOps.s0 (fieldR (TK rfl) rfl rfl (TK rfl) rfl rfl) rfl ?_
       refine DOps.s0 (loadR (f := TUse.c) (l := y14_ar1.l) (i := x34.toNat) (o := 3) (TK rfl) rfl rfl hpG (by first | rfl | simp [Sl.setL, Sl.nil, sortL_len]) (idxC_at gx35) rfl rfl) rfl ?_
       refine DOps.s0 (fieldVA (TK rfl) rfl rfl (TK rfl) rfl rfl) rfl ?_
       refine DOps.s0 (loadV (TK rfl) rfl rfl rfl) rfl ?_
       refine DOps.s0 (binI rfl rfl rfl) rfl ?_
       obtain ⟨x36, gx36, hE⟩ := bindO_some hE
       refine DOps.s0 (idxRi (f := TUse.c) (TK rfl) rfl (TK rfl) rfl rfl rfl hpG (by first | rfl | simp [Sl.setL, Sl.nil, sortL_len]) gx36) rfl ?_
       refine DOps.s0 (fieldR (TK rfl) rfl rfl (TK rfl) rfl rfl) rfl ?_
       refine DOps.sHn (storeR (f := TUse.c) (l := y14_ar1.l) (i := x34.toNat) (o := 3) (u := x36) (u' := (TUse.mk x36.FType x36.FField x36.FArg (IntKind.wrap .i64 (x35.FCount + x21.FCount)))) (TK rfl) rfl rfl hpG (by first | rfl | simp [Sl.setL, Sl.nil, sortL_len]) (idxC_at gx36) rfl rfl (by decide) rfl rfl) rfl rfl ?_
       refine DOps.heq (h' := ((H.set ar1 (some (.arr 4 ((Sl.setL y14_ar1 x34.toNat (TUse.mk x36.FType x36.FField x36.FArg (IntKind.wrap .i64 (x35.FCount + x21.FCount)))).l.map TUse.c)))).set ar2 (some (.arr 4 (x5.l.map TUse.c))))) (by first | rfl | (rw [Heap.set_set]; rfl) | (funext n_; simp only [Heap.set]; (repeat' split) <;> first | rfl | (exfalso; simp_all; done) | (simp_all; done))) ?_
       refine DOps.nil (by decide +kernel) ?_
       refine hK33 _ ?_
       clear hK33 K33
       refine AWp.arrEq 4 (nl' := (Sl.setL y14_ar1 x34.toNat (TUse.mk x36.FType x36.FField x36.FArg (IntKind.wrap .i64 (x35.FCount + x21.FCount)))).nl) (m' := (Sl.setL y14_ar1 x34.toNat (TUse.mk x36.FType x36.FField x36.FArg (IntKind.wrap .i64 (x35.FCount + x21.FCount)))).l.length) rfl (by first | rfl | (simp [Sl.setL, Sl.nil, sortL_len]; done) | (subst_vars; first | rfl | (simp [Sl.setL, Sl.nil, sortL_len]; done))) (by first | rfl | (simp [Sl.setL, Sl.nil, sortL_len]; done) | (subst_vars; first | rfl | (simp [Sl.setL, Sl.nil, sortL_len]; done))) ?_
       refine AWp.exit ?_
       exact hK18 _ (Sl.setL y14_ar1 x34.toNat (TUse.mk x36.FType x36.FField x36.FArg (IntKind.wrap .i64 (x35.FCount + x21.FCount)))) Weak.toA hE
      refine AWp.skip ?_
      refine hK24 _ ?_
      clear hK24 K24
      refine region ?_
      refine s0 moveA rfl ?_
      refine s0 (loadV (TK rfl) rfl rfl rfl) rfl ?_
      refine s0 (buildSlice (TK rfl) rfl (TK rfl) rfl rfl rfl rfl rfl rfl) rfl ?_
      obtain ⟨x37, gx37, hE⟩ := bindO_some hE
      refine sH (appR (f := TUse.c) (s := y14_ar1) (TK rfl) rfl (TK rfl) (TK rfl) ⟨_, rfl⟩ rfl rfl rfl rfl rfl rfl hpG (by first | rfl | simp [Sl.setL, Sl.nil, sortL_len]) rfl gx37) rfl ?_
      refine AOps.heq (h' := ((H.set ar1 (some (.arr 4 (x37.l.map TUse.c)))).set ar2 (some (.arr 4 (x5.l.map TUse.c))))) (by first | rfl | (rw [Heap.set_set]; rfl) | (funext n_; simp only [Heap.set]; (repeat' split) <;> first | rfl | (exfalso; simp_all; done) | (simp_all; done))) ?_
      refine s0 assignA rfl ?_
      refine nil ?_
      exact hK18 _ x37 Weak.toA hE
     rintro y19_ar1 hE
     try dsimp only at hE
     unfold Z93_j18 at hE
     refine region ?_
     refine s0 (addIA rfl rfl) rfl ?_
     refine s0 moveA rfl ?_
     refine nil ?_
     exact hK12 _ (n12, (s14_13 + 1), y19_ar1) Weak.toA hE (Nat.lt_succ_self _)
    refine AWp.exit ?_
    exact hK7 _ y14_ar1 Weak.toA hE
 rintro y8_ar1 hE
 try dsimp only at hE
 unfold Z93_j7 at hE
 refine seqK fun K9 hK9 => ?_
 refine region ?_
 refine s0 moveA rfl ?_
 refine s0 assignA rfl ?_
 refine nil ?_
 refine hK9 _ ?_
 clear hK9 K9
 refine AWp.frzR 2 ar1 rfl hpG (by first | rfl | (simp [Sl.setL, Sl.nil, sortL_len]; done) | (subst_vars; first | rfl | (simp [Sl.setL, Sl.nil, sortL_len]; done))) ?_
 refine AWp.heqA (h' := (H.set ar2 (some (.arr 4 (x5.l.map TUse.c))))) (by first | rfl | (rw [Heap.set_set]; rfl) | (funext n_; simp only [Heap.set]; (repeat' split) <;> first | rfl | (exfalso; simp_all; done) | (simp_all; done))) ?_
 refine AWp.ret ?_
 repeat (first | refine xBlock_ret ?_ | refine xThen_ret ?_)
 obtain rfl := Option.some.inj hE
 refine retQ.retF H rfl ⟨rfl, rfl⟩ ?_
 first | exact Heap.sub_set har2 | (simp only [Heap.set_set]; exact Heap.sub_set har2)
def Z75 (a0 : Bs) : Option Bool := some (((((a0 == ([73, 110, 116] : Bs))) || ((a0 == ([83, 116, 114, 105, 110, 103] : Bs)))) || ((a0 == ([66, 111, 111, 108, 101, 97, 110] : Bs)))) || ((a0 == ([73, 68] : Bs))))
theorem Z75_walk {a0 : Bs}   {r : Bool} (hE : Z75 a0 = some r) (H : Heap)  : ACalls Tryz.prog 63 [.d (.str a0)] H fun v h' => v = .a (.d (.bool r)) ∧ h' = H := by
 unfold Z75 at hE
 refine ACalls.of_wp (fn := Tryz.f63) (c := _) Tryz.tab_ok (fun _ _ => Tryz.call63 _ _) Tryz.func63 rfl (n := 17) rfl (rs := [.tmp 2]) rfl rfl ?_
 refine seqK fun K1 hK1 => ?_
 refine region ?_
 refine s0 assignA rfl ?_
 refine nil ?_
 refine hK1 _ ?_
 clear hK1 K1
 refine seqK fun K2 hK2 => ?_
 refine region ?_
 refine s0 moveA rfl ?_
 refine s0 (binS rfl rfl rfl) rfl ?_
 refine s0 moveA rfl ?_
 refine gC rfl rfl (fun hC => moveA) rfl ?_
 refine gC rfl rfl (fun hC => ungdA (k := 6) rfl (binS rfl rfl rfl)) rfl ?_
 refine s0 (pickOrA rfl rfl rfl) rfl ?_
 refine s0 moveA rfl ?_
 refine gC rfl rfl (fun hC => moveA) rfl ?_
 refine gC rfl rfl (fun hC => ungdA (k := 10) rfl (binS rfl rfl rfl)) rfl ?_
 refine s0 (pickOrA rfl rfl rfl) rfl ?_
 refine s0 moveA rfl ?_
 refine gC rfl rfl (fun hC => moveA) rfl ?_
 refine gC rfl rfl (fun hC => ungdA (k := 14) rfl (binS rfl rfl rfl)) rfl ?_
 refine s0 (pickOrA rfl rfl rfl) rfl ?_
 refine s0 assignA rfl ?_
 refine nil ?_
 refine hK2 _ ?_
 clear hK2 K2
 refine AWp.ret ?_
 repeat (first | refine xBlock_ret ?_ | refine xThen_ret ?_)
 obtain rfl := Option.some.inj hE
 refine retQ.retF H rfl ⟨rfl, rfl⟩ ?_
 exact (fun _ _ h => h)
def Z72_j2  (y3_l0 : TDef) : Option (TDef × Bool) := some ((TDef.mk (0 : Int) ([] : Bs) (Sl.nil : Sl Bs) (Sl.nil : Sl TDir) (Sl.nil : Sl TField) (Sl.nil : Sl TMember) (Sl.nil : Sl TInput)), false)
def Z72_l7 (a0 : TDoc) (a1 : Bs)  : Nat → Nat → TDef → Option (TDef × Bool)
 | 0, _, _ => none
 | n7 + 1, s11_8, y9_l0 => bif (decide (((s11_8 : Nat) : Int) < ((a0.FDefs.l.length : Nat) : Int))) then ((a0.FDefs.l[s11_8]?).bind fun x15 => bif ((x15.FName == a1)) then (some (x15, true)) else ((Z72_l7 a0 a1 n7) (s11_8 + 1) y9_l0)) else (Z72_j2   y9_l0)
def Z72 (a0 : TDoc) (a1 : Bs) : Option (TDef × Bool) := Z72_l7 a0 a1 (a0.FDefs.l.length + 1) 0 TDef.zero
theorem Z72_walk {a0 : TDoc} {a1 : Bs}   {r : (TDef × Bool)} (hE : Z72 a0 a1 = some r) (H : Heap)  : ACalls Tryz.prog 37 [.agg (TDoc.c a0), .d (.str a1)] H fun v h' => v = .tup [.agg (TDef.c r.1), .d (.bool r.2)] ∧ h' = H := by
 unfold Z72 at hE
 refine ACalls.of_wp (fn := Tryz.f37) (c := _) Tryz.tab_ok (fun _ _ => Tryz.call37 _ _) Tryz.func37 rfl (n := 22) rfl (rs := [.cell 4 88, .tmp 5]) rfl rfl ?_
 refine seqK fun K1 hK1 => ?_
 refine region ?_
 refine s0 (boxV rfl) rfl ?_
 refine sL (allocLA (TK rfl) rfl) rfl ?_
 refine s0 assignA rfl ?_
 refine nil ?_
 refine hK1 _ ?_
 clear hK1 K1
 refine seqJ (KeepsT.A (k := 4) KeepsT.nil) (fun (z : TDef) => []) (fun z => [TDef.c z]) (fun z => H) (fun z => Z72_j2 z = some r) ?_ ?_
 ·intro K2 hK2
  refine seqK fun K5 hK5 => ?_
  refine region ?_
  refine s0 (fieldVA (TK rfl) rfl rfl (TK rfl) rfl rfl) rfl ?_
  refine s0 (loadV (TK rfl) rfl rfl rfl) rfl ?_
  refine sLen (f := TDef.c) (s := a0.FDefs) (TK rfl) rfl rfl rfl rfl fun hL6 => ?_
  refine s0 moveA rfl ?_
  refine nil ?_
  refine hK5 _ ?_
  clear hK5 K5
  refine block ?_
  refine loopO (KeepsT.A (k := 1) (KeepsT.A (k := 4) (KeepsT.A (k := 9) (KeepsT.A (k := 10) KeepsT.nil)))) (fun (z : Nat × Nat × TDef) => [(11, .a (.d (.int .i64 ((z.2.1 : Nat) : Int))))]) (fun z => [TDef.c z.2.2]) (fun z => H) (fun z => z.1) (fun z => Z72_l7 a0 a1 z.1 z.2.1 z.2.2 = some r) ((a0.FDefs.l.length + 1), 0, TDef.zero) hE Weak.toA ?_
  rintro ⟨n7, s11_8, y9_l0⟩ hE K7 hK7
  try dsimp only at hE
  cases n7 with
  | zero => cases hE
  | succ n7 =>
    rw [Z72_l7] at hE
    refine seqK fun K10 hK10 => ?_
    refine region ?_
    refine s0 (binI rfl rfl rfl) rfl ?_
    refine nil ?_
    refine hK10 _ ?_
    clear hK10 K10
    refine seqK fun K11 hK11 => ?_
    refine condE hE rfl (fun hc12 hE => ?_) (fun hc12 hE => ?_)
    ·try dsimp only at hc12
     have hf12 := of_decide_eq_true hc12
     refine AWp.skip ?_
     refine hK11 _ ?_
     clear hK11 K11
     refine seqK fun K13 hK13 => ?_
     refine block ?_
     refine seqK fun K14 hK14 => ?_
     refine region ?_
     obtain ⟨x15, gx15, hE⟩ := bindO_some hE
     refine s0 (idxMn (f := TDef.c) (n := s11_8) (TK rfl) rfl (TK rfl) rfl rfl rfl gx15) rfl ?_
     refine s0 (loadV (TK rfl) rfl rfl rfl) rfl ?_
     refine sL (allocLA (TK rfl) rfl) rfl ?_
     refine sLn (storeLFA (TK rfl) rfl rfl rfl rfl rfl) ?_
     refine nil ?_
     refine hK14 _ ?_
     clear hK14 K14
     refine freezeA 7 _ rfl (Keeps.c (k := 1) (by conv => lhs; whnf) (by rfl) (Keeps.c (k := 4) (by conv => lhs; whnf) (by rfl) (Keeps.c (k := 9) (by conv => lhs; whnf) (by rfl) (Keeps.c (k := 10) (by conv => lhs; whnf) (by rfl) (Keeps.c (k := 11) (by conv => lhs; whnf) (by rfl) Keeps.nil))))) ?_
     refine seqK fun K16 hK16 => ?_
     refine region ?_
     refine s0 (fieldVA (TK rfl) rfl rfl (TK rfl) rfl rfl) rfl ?_
     refine s0 (loadV (TK rfl) rfl rfl rfl) rfl ?_
     refine s0 moveA rfl ?_
     refine s0 (binS rfl rfl rfl) rfl ?_
     refine nil ?_
     refine hK16 _ ?_
     clear hK16 K16
     refine condE hE rfl (fun hc17 hE => ?_) (fun hc17 hE => ?_)
     ·refine seqK fun K18 hK18 => ?_
      refine region ?_
      refine s0 (loadV (TK rfl) rfl rfl rfl) rfl ?_
      refine sLn (storeLFA (TK rfl) rfl rfl rfl rfl rfl) ?_
      refine s0 assignA rfl ?_
      refine nil ?_
      refine hK18 _ ?_
      clear hK18 K18
      refine AWp.ret ?_
      repeat (first | refine xBlock_ret ?_ | refine xThen_ret ?_)
      obtain rfl := Option.some.inj hE
      refine retQ.retF H rfl ⟨rfl, rfl⟩ ?_
      exact (fun _ _ h => h)
     refine AWp.skip ?_
     refine hK13 _ ?_
     clear hK13 K13
     refine region ?_
     refine s0 (addIA rfl rfl) rfl ?_
     refine s0 moveA rfl ?_
     refine nil ?_
     exact hK7 _ (n7, (s11_8 + 1), y9_l0) Weak.toA hE (Nat.lt_succ_self _)
    refine AWp.exit ?_
    exact hK2 _ y9_l0 Weak.toA hE
 rintro y3_l0 hE
 try dsimp only at hE
 unfold Z72_j2 at hE
 refine seqK fun K4 hK4 => ?_
 refine region ?_
 refine s0 (build Tryz.tab_ok rfl rfl rfl rfl rfl rfl) rfl ?_
 refine sLn (storeLFA (TK rfl) rfl rfl rfl rfl rfl) ?_
 refine s0 assignA rfl ?_
 refine nil ?_
 refine hK4 _ ?_
 clear hK4 K4
 refine AWp.ret ?_
 repeat (first | refine xBlock_ret ?_ | refine xThen_ret ?_)
 obtain rfl := Option.some.inj hE
 refine retQ.retF H rfl ⟨rfl, rfl⟩ ?_
 exact (fun _ _ h => h)
def Z76 (a0 : TDoc) (a1 : Bs) : Option Int := (Z72 a0 a1).bind fun x3 => some x3.1.FKind
theorem Z76_walk {a0 : TDoc} {a1 : Bs}   {r : Int} (hE : Z76 a0 a1 = some r) (H : Heap)  : ACalls Tryz.prog 84 [.agg (TDoc.c a0), .d (.str a1)] H fun v h' => v = .a (.d (.int .i64 r)) ∧ h' = H := by
 unfold Z76 at hE
 refine ACalls.of_wp (fn := Tryz.f84) (c := _) Tryz.tab_ok (fun _ _ => Tryz.call84 _ _) Tryz.func84 rfl (n := 15) rfl (rs := [.tmp 4]) rfl rfl ?_
 refine seqK fun K1 hK1 => ?_
 refine region ?_
 refine s0 (boxV rfl) rfl ?_
 refine s0 assignA rfl ?_
 refine nil ?_
 refine hK1 _ ?_
 clear hK1 K1
 refine seqK fun K2 hK2 => ?_
 refine region ?_
 refine s0 (loadV (TK rfl) rfl rfl rfl) rfl ?_
 refine s0 moveA rfl ?_
 obtain ⟨x3, gx3, hE⟩ := bindO_some hE
 refine s0 (callP rfl rfl (fun H => Z72_walk gx3 H)) rfl ?_
 refine s0 moveA rfl ?_
 refine s0 (extract rfl rfl) rfl ?_
 refine s0 (extract rfl rfl) rfl ?_
 refine sL (allocLA (TK rfl) rfl) rfl ?_
 refine sLn (storeLFA (TK rfl) rfl rfl rfl rfl rfl) ?_
 refine s0 assignA rfl ?_
 refine nil ?_
 refine hK2 _ ?_
 clear hK2 K2
 refine freezeA 5 _ rfl Keeps.nil ?_
 refine seqK fun K4 hK4 => ?_
 refine region ?_
 refine s0 (fieldVA (TK rfl) rfl rfl (TK rfl) rfl rfl) rfl ?_
 refine s0 (loadV (TK rfl) rfl rfl rfl) rfl ?_
 refine s0 assignA rfl ?_
 refine nil ?_
 refine hK4 _ ?_
 clear hK4 K4
 refine AWp.ret ?_
 repeat (first | refine xBlock_ret ?_ | refine xThen_ret ?_)
 obtain rfl := Option.some.inj hE
 refine retQ.retF H rfl ⟨rfl, rfl⟩ ?_
 exact (fun _ _ h => h)
def Z70 (a0 : TDoc) (a1 : Bs) : Option Bool := (Z76 a0 a1).bind fun x3 => (Z75 a1).bind fun x5 => some ((!x5) && (((decide (x3 = (1 : Int))) || (decide (x3 = (2 : Int)))) || (decide (x3 = (3 : Int)))))
theorem Z70_walk {a0 : TDoc} {a1 : Bs}   {r : Bool} (hE : Z70 a0 a1 = some r) (H : Heap)  : ACalls Tryz.prog 42 [.agg (TDoc.c a0), .d (.str a1)] H fun v h' => v = .a (.d (.bool r)) ∧ h' = H := by
 unfold Z70 at hE
 refine ACalls.of_wp (fn := Tryz.f42) (c := _) Tryz.tab_ok (fun _ _ => Tryz.call42 _ _) Tryz.func42 rfl (n := 24) rfl (rs := [.tmp 4]) rfl rfl ?_
 refine seqK fun K1 hK1 => ?_
 refine region ?_
 refine s0 (boxV rfl) rfl ?_
 refine s0 assignA rfl ?_
 refine nil ?_
 refine hK1 _ ?_
 clear hK1 K1
 refine seqK fun K2 hK2 => ?_
 refine region ?_
 refine s0 (loadV (TK rfl) rfl rfl rfl) rfl ?_
 refine s0 moveA rfl ?_
 obtain ⟨x3, gx3, hE⟩ := bindO_some hE
 refine s0 (callP rfl rfl (fun H => Z76_walk gx3 H)) rfl ?_
 refine s0 assignA rfl ?_
 refine nil ?_
 refine hK2 _ ?_
 clear hK2 K2
 refine seqK fun K4 hK4 => ?_
 refine region ?_
 refine s0 moveA rfl ?_
 obtain ⟨x5, gx5, hE⟩ := bindO_some hE
 refine s0 (callP rfl rfl (fun H => Z75_walk gx5 H)) rfl ?_
 refine s0 (notB rfl) rfl ?_
 refine s0 moveA rfl ?_
 refine gC rfl rfl (fun hC => moveA) rfl ?_
 refine gC rfl rfl (fun hC => ungdA (k := 13) rfl (binI rfl rfl rfl)) rfl ?_
 refine gC rfl rfl (fun hC => ungdA (k := 14) rfl moveA) rfl ?_
 refine gC rfl rfl (fun hC => moveA) rfl ?_
 refine gC rfl rfl (fun hC => ungdA (k := 16) rfl (binI rfl rfl rfl)) rfl ?_
 refine gC rfl rfl (fun hC => ungdA (k := 15) rfl (pickOrA rfl rfl rfl)) rfl ?_
 refine gC rfl rfl (fun hC => ungdA (k := 18) rfl moveA) rfl ?_
 refine gC rfl rfl (fun hC => moveA) rfl ?_
 refine gC rfl rfl (fun hC => ungdA (k := 20) rfl (binI rfl rfl rfl)) rfl ?_
 refine gC rfl rfl (fun hC => ungdA (k := 19) rfl (pickOrA rfl rfl rfl)) rfl ?_
 refine s0 (pickAndA rfl rfl rfl) rfl ?_
 refine s0 assignA rfl ?_
 refine nil ?_
 refine hK4 _ ?_
 clear hK4 K4
 refine AWp.ret ?_
 repeat (first | refine xBlock_ret ?_ | refine xThen_ret ?_)
 obtain rfl := Option.some.inj hE
 refine retQ.retF H rfl ⟨rfl, rfl⟩ ?_
 exact (fun _ _ h => h)
end Go.Proofs

namespace Go.Proofs
open Go Go.Ab
open AOps Cert AWp
def Z98 (a0 : Usage_recorder) (a1 : Bs) (a2 : Bs) (a3 : Bs) : Option Usage_recorder := (appC 56 a0.Fout (⟨false, [(TUse.mk a1 a2 a3 (1 : Int))]⟩ : Sl TUse)).bind fun x1 => some (Usage_recorder.mk a0.Fd a0.Fq x1)
theorem Z98_walk {a0 : Usage_recorder} {a1 : Bs} {a2 : Bs} {a3 : Bs}  {c0 : Nat} {c0_2 : Nat} {r : Usage_recorder} (hE : Z98 a0 a1 a2 a3 = some r) (H : Heap) (hc0 : H c0 = some (.cells (Usage_recorder.cg (some c0_2) a0))) (ht0_2 : H c0_2 = some (.tok 4 a0.Fout.l.length)) : ACalls Tryz.prog 61 [.d (.ptr c0 0), .d (.str a1), .d (.str a2), .d (.str a3)] H fun v h' => v = .tup [] ∧ h' = ((H.set c0_2 (some (.tok 4 r.Fout.l.length))).set c0 (some (.cells (Usage_recorder.cg (some c0_2) r)))) := by
 unfold Z98 at hE
 refine ACalls.of_wp (fn := Tryz.f61) (c := _) Tryz.tab_ok (fun _ _ => Tryz.call61 _ _) Tryz.func61 rfl (n := 21) rfl (rs := []) rfl rfl ?_
 have ne_c0_c0_2 : c0 ≠ c0_2 := fun e_ => by subst e_; simp_all
 refine AWp.heqA (h' := ((H.set c0_2 (some (.tok 4 a0.Fout.l.length))).set c0 (some (.cells (Usage_recorder.cg (some c0_2) a0))))) (by funext n_; simp only [Heap.set]; (repeat' split) <;> simp_all) ?_
 refine region ?_
 refine s0 moveA rfl ?_
 refine s0 moveA rfl ?_
 refine s0 (nilP rfl) rfl ?_
 refine s0 (fieldP (TK rfl) rfl rfl (TK rfl) rfl rfl) rfl ?_
 refine s0 (loadP (TK rfl) rfl rfl hpG rfl) rfl ?_
 refine s0 moveA rfl ?_
 refine s0 moveA rfl ?_
 refine s0 moveA rfl ?_
 refine s0 (build Tryz.tab_ok rfl rfl rfl rfl rfl rfl) rfl ?_
 refine s0 (buildSlice (TK rfl) rfl (TK rfl) rfl rfl rfl rfl rfl rfl) rfl ?_
 obtain ⟨x1, gx1, hE⟩ := bindO_some hE
 refine sH (appM (f := TUse.c) (TK rfl) rfl (TK rfl) (TK rfl) ⟨_, rfl⟩ rfl rfl (by decide) rfl rfl rfl rfl hpG rfl gx1) rfl ?_
 refine AOps.heq (h' := ((H.set c0_2 (some (.tok 4 x1.l.length))).set c0 (some (.cells (Usage_recorder.cg (some c0_2) a0))))) (by first | rfl | (rw [Heap.set_set]; rfl) | (funext n_; simp only [Heap.set]; (repeat' split) <;> first | rfl | (exfalso; simp_all; done) | (simp_all; done))) ?_
 refine s0 (nilP rfl) rfl ?_
 refine s0 (fieldP (TK rfl) rfl rfl (TK rfl) rfl rfl) rfl ?_
 refine sHn (storeP1 (TK rfl) rfl rfl hpG rfl (by repeat (first | exact SetAt.zero | apply SetAt.succ))) rfl rfl ?_
 refine AOps.heq (h' := ((H.set c0_2 (some (.tok 4 x1.l.length))).set c0 (some (.cells (Usage_recorder.cg (some c0_2) (Usage_recorder.mk a0.Fd a0.Fq x1)))))) (by first | rfl | (rw [Heap.set_set]; rfl) | (funext n_; simp only [Heap.set]; (repeat' split) <;> first | rfl | (exfalso; simp_all; done) | (simp_all; done))) ?_
 refine nil ?_
 repeat (first | refine xBlock_normal ?_ | refine xThen_exit ?_ | refine xBlock_exit ?_)
 obtain rfl := Option.some.inj hE
 refine retQ.normalF ((H.set c0_2 (some (.tok 4 x1.l.length))).set c0 (some (.cells (Usage_recorder.cg (some c0_2) (Usage_recorder.mk a0.Fd a0.Fq x1))))) (xs := []) rfl ⟨rfl, rfl⟩ ?_
 exact (fun _ _ h => h)
def Z95 (a0 : Usage_recorder) (a1 : Bs) : Option Usage_recorder := (Z70 a0.Fd a1).bind fun x2 => bif x2 then ((Z98 a0 a1 ([] : Bs) ([] : Bs)).bind fun x4 => some x4) else (some a0)
theorem Z95_walk {a0 : Usage_recorder} {a1 : Bs}  {c0 : Nat} {c0_2 : Nat} {r : Usage_recorder} (hE : Z95 a0 a1 = some r) (H : Heap) (hc0 : H c0 = some (.cells (Usage_recorder.cg (some c0_2) a0))) (ht0_2 : H c0_2 = some (.tok 4 a0.Fout.l.length)) : ACalls Tryz.prog 26 [.d (.ptr c0 0), .d (.str a1)] H fun v h' => v = .tup [] ∧ h' = ((H.set c0_2 (some (.tok 4 r.Fout.l.length))).set c0 (some (.cells (Usage_recorder.cg (some c0_2) r)))) := by
 unfold Z95 at hE
 refine ACalls.of_wp (fn := Tryz.f26) (c := _) Tryz.tab_ok (fun _ _ => Tryz.call26 _ _) Tryz.func26 rfl (n := 13) rfl (rs := []) rfl rfl ?_
 have ne_c0_c0_2 : c0 ≠ c0_2 := fun e_ => by subst e_; simp_all
 refine AWp.heqA (h' := ((H.set c0_2 (some (.tok 4 a0.Fout.l.length))).set c0 (some (.cells (Usage_recorder.cg (some c0_2) a0))))) (by funext n_; simp only [Heap.set]; (repeat' split) <;> simp_all) ?_
 refine seqK fun K1 hK1 => ?_
 refine region ?_
 refine s0 moveA rfl ?_
 refine s0 (nilP rfl) rfl ?_
 refine s0 (fieldP (TK rfl) rfl rfl (TK rfl) rfl rfl) rfl ?_
 refine s0 (loadP (TK rfl) rfl rfl hpG rfl) rfl ?_
 refine s0 moveA rfl ?_
 obtain ⟨x2, gx2, hE⟩ := bindO_some hE
 refine s0 (callP rfl rfl (fun H => Z70_walk gx2 H)) rfl ?_
 refine nil ?_
 refine hK1 _ ?_
 clear hK1 K1
 refine condE hE rfl (fun hc3 hE => ?_) (fun hc3 hE => ?_)
 ·refine region ?_
  refine s0 moveA rfl ?_
  refine s0 moveA rfl ?_
  obtain ⟨x4, gx4, hE⟩ := bindO_some hE
  refine sH (callH rfl rfl (Z98_walk gx4 _ hpG hpG)) rfl ?_
  refine AOps.heq (h' := ((H.set c0_2 (some (.tok 4 x4.Fout.l.length))).set c0 (some (.cells (Usage_recorder.cg (some c0_2) x4))))) (by first | rfl | (rw [Heap.set_set]; rfl) | (funext n_; simp only [Heap.set]; (repeat' split) <;> first | rfl | (exfalso; simp_all; done) | (simp_all; done))) ?_
  refine nil ?_
  repeat (first | refine xBlock_normal ?_ | refine xThen_exit ?_ | refine xBlock_exit ?_)
  obtain rfl := Option.some.inj hE
  refine retQ.normalF ((H.set c0_2 (some (.tok 4 x4.Fout.l.length))).set c0 (some (.cells (Usage_recorder.cg (some c0_2) x4)))) (xs := []) rfl ⟨rfl, rfl⟩ ?_
  exact (fun _ _ h => h)
 refine AWp.skip ?_
 repeat (first | refine xBlock_normal ?_ | refine xThen_exit ?_ | refine xBlock_exit ?_)
 obtain rfl := Option.some.inj hE
 refine retQ.normalF ((H.set c0_2 (some (.tok 4 a0.Fout.l.length))).set c0 (some (.cells (Usage_recorder.cg (some c0_2) a0)))) (xs := []) rfl ⟨rfl, rfl⟩ ?_
 exact (fun _ _ h => h)
def Z78 (a0 : (Sl Int)) : Option (Sl Int) := bif a0.nl then (some (Sl.nil : Sl Int)) else ((appC 8 (⟨false, []⟩ : Sl Int) a0).bind fun x7 => some x7)
theorem Z78_walk {a0 : (Sl Int)} {w0 : Option Nat}  {r : (Sl Int)} (hE : Z78 a0 = some r) (H : Heap)  : ACalls Tryz.prog 89 [.d (Sl.d 1 (intE .i64) w0 a0)] H fun v h' => v = .a (.d (Sl.d 1 (intE .i64) none r)) ∧ h' = H := by
 unfold Z78 at hE
 refine ACalls.of_wp (fn := Tryz.f89) (c := _) Tryz.tab_ok (fun _ _ => Tryz.call89 _ _) Tryz.func89 rfl (n := 8) rfl (rs := [.tmp 2]) rfl rfl ?_
 refine seqK fun K1 hK1 => ?_
 refine region ?_
 refine s0 (assignNil (k' := 1) rfl) rfl ?_
 refine nil ?_
 refine hK1 _ ?_
 clear hK1 K1
 refine seqK fun K2 hK2 => ?_
 refine seqK fun K3 hK3 => ?_
 refine region ?_
 refine s0 moveA rfl ?_
 refine s0 (eqNil (TK rfl) rfl rfl) rfl ?_
 refine nil ?_
 refine hK3 _ ?_
 clear hK3 K3
 refine condE hE rfl (fun hc4 hE => ?_) (fun hc4 hE => ?_)
 ·refine seqK fun K5 hK5 => ?_
  refine region ?_
  refine s0 (assignNil (k' := 1) rfl) rfl ?_
  refine nil ?_
  refine hK5 _ ?_
  clear hK5 K5
  refine AWp.ret ?_
  repeat (first | refine xBlock_ret ?_ | refine xThen_ret ?_)
  obtain rfl := Option.some.inj hE
  refine retQ.retF H rfl ⟨rfl, rfl⟩ ?_
  exact (fun _ _ h => h)
 refine AWp.skip ?_
 refine hK2 _ ?_
 clear hK2 K2
 refine seqK fun K6 hK6 => ?_
 refine region ?_
 refine s0 (buildSliceF (TK rfl) rfl (TK rfl) rfl rfl rfl rfl rfl rfl) rfl ?_
 refine s0 moveA rfl ?_
 obtain ⟨x7, gx7, hE⟩ := bindO_some hE
 refine s0 (appFM (f := (intE .i64)) (TK rfl) rfl (TK rfl) (TK rfl) ⟨_, rfl⟩ rfl rfl (by decide) rfl rfl rfl (by intro q h; cases h <;> decide) rfl rfl gx7) rfl ?_
 refine s0 assignA rfl ?_
 refine nil ?_
 refine hK6 _ ?_
 clear hK6 K6
 refine AWp.ret ?_
 repeat (first | refine xBlock_ret ?_ | refine xThen_ret ?_)
 obtain rfl := Option.some.inj hE
 refine retQ.retF H rfl ⟨rfl, rfl⟩ ?_
 exact (fun _ _ h => h)
def Z86 (a0 : TRef) : Option Bool := guardO ((decide ((0 : Int) < ((a0.FWraps.l.length : Nat) : Int)))) (a0.FWraps.l[0]?) (0 : Int) fun x4 => some ((decide ((0 : Int) < ((a0.FWraps.l.length : Nat) : Int))) && (decide (x4 = (1 : Int))))
theorem Z86_walk {a0 : TRef}   {r : Bool} (hE : Z86 a0 = some r) (H : Heap)  : ACalls Tryz.prog 127 [.agg (TRef.c a0)] H fun v h' => v = .a (.d (.bool r)) ∧ h' = H := by
 unfold Z86 at hE
 refine ACalls.of_wp (fn := Tryz.f127) (c := _) Tryz.tab_ok (fun _ _ => Tryz.call127 _ _) Tryz.func127 rfl (n := 14) rfl (rs := [.tmp 2]) rfl rfl ?_
 refine seqK fun K1 hK1 => ?_
 refine region ?_
 refine s0 (boxV rfl) rfl ?_
 refine s0 assignA rfl ?_
 refine nil ?_
 refine hK1 _ ?_
 clear hK1 K1
 refine seqK fun K2 hK2 => ?_
 refine region ?_
 refine s0 (fieldVA (TK rfl) rfl rfl (TK rfl) rfl rfl) rfl ?_
 refine s0 (loadV (TK rfl) rfl rfl rfl) rfl ?_
 refine sLen (f := (intE .i64)) (s := a0.FWraps) (TK rfl) rfl rfl rfl rfl fun hL3 => ?_
 refine s0 (binI rfl rfl rfl) rfl ?_
 refine s0 moveA rfl ?_
 refine gC rfl rfl (fun hC => fieldVA (TK rfl) rfl rfl (TK rfl) rfl rfl) rfl ?_
 refine gC rfl rfl (fun hC => ungdA (k := 8) rfl (loadV (TK rfl) rfl rfl rfl)) rfl ?_
 obtain ⟨x4, gx4, hE⟩ := guardO_some hE
 refine gC rfl rfl (fun hC => ungdA (k := 9) rfl (idxMn (f := (intE .i64)) (n := 0) (TK rfl) rfl (TK rfl) rfl rfl rfl (gx4 hC))) rfl ?_
 refine gC rfl rfl (fun hC => ungdA (k := 10) rfl (loadV (TK rfl) rfl rfl rfl)) rfl ?_
 refine gC rfl rfl (fun hC => ungdA (k := 11) rfl (binI rfl rfl rfl)) rfl ?_
 refine s0 (pickAndA rfl rfl rfl) rfl ?_
 refine s0 assignA rfl ?_
 refine nil ?_
 refine hK2 _ ?_
 clear hK2 K2
 refine AWp.ret ?_
 repeat (first | refine xBlock_ret ?_ | refine xThen_ret ?_)
 obtain rfl := Option.some.inj hE
 refine retQ.retF H rfl ⟨rfl, rfl⟩ ?_
 exact (fun _ _ h => h)
def Z89_j3 (a0 : TRef)  (s3_4 : (Sl Int)) : Option TRef := (Z78 s3_4).bind fun x6 => some (TRef.mk a0.FName x6)
def Z89 (a0 : TRef) : Option TRef := (Z86 a0).bind fun x8 => bif x8 then ((partC a0.FWraps (some (1 : Int)) none).bind fun x10 => Z89_j3 a0  x10) else (Z89_j3 a0  a0.FWraps)
theorem Z89_walk {a0 : TRef}   {r : TRef} (hE : Z89 a0 = some r) (H : Heap)  : ACalls Tryz.prog 106 [.agg (TRef.c a0)] H fun v h' => v = .a (.agg (TRef.c r)) ∧ h' = H := by
 unfold Z89 at hE
 refine ACalls.of_wp (fn := Tryz.f106) (c := _) Tryz.tab_ok (fun _ _ => Tryz.call106 _ _) Tryz.func106 rfl (n := 15) rfl (rs := [.cell 2 67]) rfl rfl ?_
 refine seqK fun K1 hK1 => ?_
 refine region ?_
 refine s0 (boxV rfl) rfl ?_
 refine sL (allocLA (TK rfl) rfl) rfl ?_
 refine nil ?_
 refine hK1 _ ?_
 clear hK1 K1
 refine seqK fun K2 hK2 => ?_
 refine region ?_
 refine s0 (fieldVA (TK rfl) rfl rfl (TK rfl) rfl rfl) rfl ?_
 refine s0 (loadV (TK rfl) rfl rfl rfl) rfl ?_
 refine s0 assignA rfl ?_
 refine nil ?_
 refine hK2 _ ?_
 clear hK2 K2
 refine seqJH (KeepsT.A (k := 1) (KeepsT.A (k := 2) KeepsT.nil)) (fun (z : (Sl Int)) => [(3, .a (.d (Sl.d 1 (intE .i64) none z)))]) (fun z => H) (fun z => Z89_j3 a0 z = some r) ?_ ?_
 ·intro K3 hK3
  refine seqK fun K7 hK7 => ?_
  refine region ?_
  refine s0 (loadV (TK rfl) rfl rfl rfl) rfl ?_
  obtain ⟨x8, gx8, hE⟩ := bindO_some hE
  refine s0 (callP rfl rfl (fun H => Z86_walk gx8 H)) rfl ?_
  refine nil ?_
  refine hK7 _ ?_
  clear hK7 K7
  refine condE hE rfl (fun hc9 hE => ?_) (fun hc9 hE => ?_)
  ·refine region ?_
   refine s0 moveA rfl ?_
   obtain ⟨x10, gx10, hE⟩ := bindO_some hE
   refine s0 (partM (f := (intE .i64)) (l := (some (1 : Int))) (r := none) (TK rfl) rfl (TK rfl) rfl rfl rfl trivial gx10) rfl ?_
   refine s0 assignA rfl ?_
   refine nil ?_
   exact hK3 _ x10 Weak.toA hE
  refine AWp.skip ?_
  exact hK3 _ a0.FWraps Weak.toA hE
 rintro s3_4 hE
 try dsimp only at hE
 unfold Z89_j3 at hE
 refine seqK fun K5 hK5 => ?_
 refine AWp.draw rfl ?_
 refine DOps.s0 (fieldVA (TK rfl) rfl rfl (TK rfl) rfl rfl) rfl ?_
 refine DOps.s0 (loadV (TK rfl) rfl rfl rfl) rfl ?_
 refine DOps.s0 moveA rfl ?_
 obtain ⟨x6, gx6, hE⟩ := bindO_some hE
 refine DOps.s0 (callP rfl rfl (fun H => Z78_walk gx6 H)) rfl ?_
 refine DOps.s0 (build Tryz.tab_ok rfl rfl rfl rfl rfl rfl) rfl ?_
 refine DOps.sLn (storeLFA (TK rfl) rfl rfl rfl rfl rfl) ?_
 refine DOps.nil (by decide +kernel) ?_
 refine hK5 _ ?_
 clear hK5 K5
 refine AWp.ret ?_
 repeat (first | refine xBlock_ret ?_ | refine xThen_ret ?_)
 obtain rfl := Option.some.inj hE
 refine retQ.retF H rfl ⟨rfl, rfl⟩ ?_
 exact (fun _ _ h => h)
def Z85 (a0 : TRef) : Option Bool := (Z89 a0).bind fun x3 => guardO ((decide ((0 : Int) < ((x3.FWraps.l.length : Nat) : Int)))) (x3.FWraps.l[0]?) (0 : Int) fun x6 => some ((decide ((0 : Int) < ((x3.FWraps.l.length : Nat) : Int))) && (decide (x6 = (2 : Int))))
theorem Z85_walk {a0 : TRef}   {r : Bool} (hE : Z85 a0 = some r) (H : Heap)  : ACalls Tryz.prog 105 [.agg (TRef.c a0)] H fun v h' => v = .a (.d (.bool r)) ∧ h' = H := by
 unfold Z85 at hE
 refine ACalls.of_wp (fn := Tryz.f105) (c := _) Tryz.tab_ok (fun _ _ => Tryz.call105 _ _) Tryz.func105 rfl (n := 16) rfl (rs := [.tmp 2]) rfl rfl ?_
 refine seqK fun K1 hK1 => ?_
 refine region ?_
 refine sL (boxL rfl (by repeat (first | exact Snoc.nil | apply Snoc.cons))) rfl ?_
 refine s0 assignA rfl ?_
 refine nil ?_
 refine hK1 _ ?_
 clear hK1 K1
 refine seqK fun K2 hK2 => ?_
 refine region ?_
 refine s0 (loadL (TK rfl) rfl rfl rfl rfl) rfl ?_
 obtain ⟨x3, gx3, hE⟩ := bindO_some hE
 refine s0 (callP rfl rfl (fun H => Z89_walk gx3 H)) rfl ?_
 refine sLn (storeLFA (TK rfl) rfl rfl rfl rfl rfl) ?_
 refine nil ?_
 refine hK2 _ ?_
 clear hK2 K2
 refine seqK fun K4 hK4 => ?_
 refine region ?_
 refine s0 (fieldL (TK rfl) rfl rfl (TK rfl) rfl rfl) rfl ?_
 refine s0 (loadL (TK rfl) rfl rfl rfl rfl) rfl ?_
 refine sLen (f := (intE .i64)) (s := x3.FWraps) (TK rfl) rfl rfl rfl rfl fun hL5 => ?_
 refine s0 (binI rfl rfl rfl) rfl ?_
 refine s0 moveA rfl ?_
 refine gC rfl rfl (fun hC => fieldL (TK rfl) rfl rfl (TK rfl) rfl rfl) rfl ?_
 refine gC rfl rfl (fun hC => ungdLA (k := 10) rfl (loadL (TK rfl) rfl rfl rfl rfl)) rfl ?_
 obtain ⟨x6, gx6, hE⟩ := guardO_some hE
 refine gC rfl rfl (fun hC => ungdA (k := 11) rfl (idxMn (f := (intE .i64)) (n := 0) (TK rfl) rfl (TK rfl) rfl rfl rfl (gx6 hC))) rfl ?_
 refine gC rfl rfl (fun hC => ungdA (k := 12) rfl (loadV (TK rfl) rfl rfl rfl)) rfl ?_
 refine gC rfl rfl (fun hC => ungdA (k := 13) rfl (binI rfl rfl rfl)) rfl ?_
 refine s0 (pickAndA rfl rfl rfl) rfl ?_
 refine s0 assignA rfl ?_
 refine nil ?_
 refine hK4 _ ?_
 clear hK4 K4
 refine AWp.ret ?_
 repeat (first | refine xBlock_ret ?_ | refine xThen_ret ?_)
 obtain rfl := Option.some.inj hE
 refine retQ.retF H rfl ⟨rfl, rfl⟩ ?_
 exact (fun _ _ h => h)
def Z84 (a0 : TRef) : Option (TRef × Bool) := (Z85 a0).bind fun x4 => bif (!x4) then (some ((TRef.mk ([] : Bs) (Sl.nil : Sl Int)), false)) else ((Z89 a0).bind fun x8 => (partC x8.FWraps (some (1 : Int)) none).bind fun x10 => some ((TRef.mk x8.FName x10), true))
theorem Z84_walk {a0 : TRef}   {r : (TRef × Bool)} (hE : Z84 a0 = some r) (H : Heap)  : ACalls Tryz.prog 62 [.agg (TRef.c a0)] H fun v h' => v = .tup [.agg (TRef.c r.1), .d (.bool r.2)] ∧ h' = H := by
 unfold Z84 at hE
 refine ACalls.of_wp (fn := Tryz.f62) (c := _) Tryz.tab_ok (fun _ _ => Tryz.call62 _ _) Tryz.func62 rfl (n := 15) rfl (rs := [.cell 2 67, .tmp 3]) rfl rfl ?_
 refine seqK fun K1 hK1 => ?_
 refine region ?_
 refine sL (boxL rfl (by repeat (first | exact Snoc.nil | apply Snoc.cons))) rfl ?_
 refine sL (allocLA (TK rfl) rfl) rfl ?_
 refine s0 assignA rfl ?_
 refine nil ?_
 refine hK1 _ ?_
 clear hK1 K1
 refine seqK fun K2 hK2 => ?_
 refine seqK fun K3 hK3 => ?_
 refine region ?_
 refine s0 (loadL (TK rfl) rfl rfl rfl rfl) rfl ?_
 obtain ⟨x4, gx4, hE⟩ := bindO_some hE
 refine s0 (callP rfl rfl (fun H => Z85_walk gx4 H)) rfl ?_
 refine s0 (notB rfl) rfl ?_
 refine nil ?_
 refine hK3 _ ?_
 clear hK3 K3
 refine condE hE rfl (fun hc5 hE => ?_) (fun hc5 hE => ?_)
 ·refine seqK fun K6 hK6 => ?_
  refine region ?_
  refine s0 (build Tryz.tab_ok rfl rfl rfl rfl rfl rfl) rfl ?_
  refine sLn (storeLFA (TK rfl) rfl rfl rfl rfl rfl) ?_
  refine s0 assignA rfl ?_
  refine nil ?_
  refine hK6 _ ?_
  clear hK6 K6
  refine AWp.ret ?_
  repeat (first | refine xBlock_ret ?_ | refine xThen_ret ?_)
  obtain rfl := Option.some.inj hE
  refine retQ.retF H rfl ⟨rfl, rfl⟩ ?_
  exact (fun _ _ h => h)
 refine AWp.skip ?_
 refine hK2 _ ?_
 clear hK2 K2
 refine seqK fun K7 hK7 => ?_
 refine region ?_
 refine s0 (loadL (TK rfl) rfl rfl rfl rfl) rfl ?_
 obtain ⟨x8, gx8, hE⟩ := bindO_some hE
 refine s0 (callP rfl rfl (fun H => Z89_walk gx8 H)) rfl ?_
 refine sLn (storeLFA (TK rfl) rfl rfl rfl rfl rfl) ?_
 refine nil ?_
 refine hK7 _ ?_
 clear hK7 K7
 refine seqK fun K9 hK9 => ?_
 refine region ?_
 refine s0 (fieldL (TK rfl) rfl rfl (TK rfl) rfl rfl) rfl ?_
 refine s0 (loadL (TK rfl) rfl rfl rfl rfl) rfl ?_
 obtain ⟨x10, gx10, hE⟩ := bindO_some hE
 refine s0 (partM (f := (intE .i64)) (l := (some (1 : Int))) (r := none) (TK rfl) rfl (TK rfl) rfl rfl rfl trivial gx10) rfl ?_
 refine s0 (fieldL (TK rfl) rfl rfl (TK rfl) rfl rfl) rfl ?_
 refine sLn (storeL1 (TK rfl) rfl rfl rfl rfl (by repeat (first | exact SetAt.zero | apply SetAt.succ)) (by repeat (first | exact SetAt.zero | apply SetAt.succ))) ?_
 refine nil ?_
 refine hK9 _ ?_
 clear hK9 K9
 refine seqK fun K11 hK11 => ?_
 refine region ?_
 refine s0 (loadL (TK rfl) rfl rfl rfl rfl) rfl ?_
 refine sLn (storeLFA (TK rfl) rfl rfl rfl rfl rfl) ?_
 refine s0 assignA rfl ?_
 refine nil ?_
 refine hK11 _ ?_
 clear hK11 K11
 refine AWp.ret ?_
 repeat (first | refine xBlock_ret ?_ | refine xThen_ret ?_)
 obtain rfl := Option.some.inj hE
 refine retQ.retF H rfl ⟨rfl, rfl⟩ ?_
 exact (fun _ _ h => h)
def Z73_j2  (y3_l0 : TInput) : Option (TInput × Bool) := some ((TInput.mk ([] : Bs) TRef.zero false TValue.zero (Sl.nil : Sl TDir)), false)
def Z73_l7 (a0 : (Sl TInput)) (a1 : Bs)  : Nat → Nat → TInput → Option (TInput × Bool)
 | 0, _, _ => none
 | n7 + 1, s10_8, y9_l0 => bif (decide (((s10_8 : Nat) : Int) < ((a0.l.length : Nat) : Int))) then ((a0.l[s10_8]?).bind fun x15 => bif ((x15.FName == a1)) then (some (x15, true)) else ((Z73_l7 a0 a1 n7) (s10_8 + 1) y9_l0)) else (Z73_j2   y9_l0)
def Z73 (a0 : (Sl TInput)) (a1 : Bs) : Option (TInput × Bool) := Z73_l7 a0 a1 (a0.l.length + 1) 0 TInput.zero
theorem Z73_walk {a0 : (Sl TInput)} {a1 : Bs} {w0 : Option Nat}  {r : (TInput × Bool)} (hE : Z73 a0 a1 = some r) (H : Heap)  : ACalls Tryz.prog 64 [.d (Sl.d 10 TInput.c w0 a0), .d (.str a1)] H fun v h' => v = .tup [.agg (TInput.c r.1), .d (.bool r.2)] ∧ h' = H := by
 unfold Z73 at hE
 refine ACalls.of_wp (fn := Tryz.f64) (c := _) Tryz.tab_ok (fun _ _ => Tryz.call64 _ _) Tryz.func64 rfl (n := 21) rfl (rs := [.cell 4 117, .tmp 5]) rfl rfl ?_
 refine seqK fun K1 hK1 => ?_
 refine region ?_
 refine sL (allocLA (TK rfl) rfl) rfl ?_
 refine s0 assignA rfl ?_
 refine nil ?_
 refine hK1 _ ?_
 clear hK1 K1
 refine seqJ (KeepsT.A (k := 4) KeepsT.nil) (fun (z : TInput) => []) (fun z => [TInput.c z]) (fun z => H) (fun z => Z73_j2 z = some r) ?_ ?_
 ·intro K2 hK2
  refine seqK fun K5 hK5 => ?_
  refine region ?_
  refine s0 moveA rfl ?_
  refine sLen (f := TInput.c) (s := a0) (TK rfl) rfl rfl rfl rfl fun hL6 => ?_
  refine s0 moveA rfl ?_
  refine nil ?_
  refine hK5 _ ?_
  clear hK5 K5
  refine block ?_
  refine loopO (KeepsT.A (k := 1) (KeepsT.A (k := 4) (KeepsT.A (k := 8) (KeepsT.A (k := 9) KeepsT.nil)))) (fun (z : Nat × Nat × TInput) => [(10, .a (.d (.int .i64 ((z.2.1 : Nat) : Int))))]) (fun z => [TInput.c z.2.2]) (fun z => H) (fun z => z.1) (fun z => Z73_l7 a0 a1 z.1 z.2.1 z.2.2 = some r) ((a0.l.length + 1), 0, TInput.zero) hE Weak.toA ?_
  rintro ⟨n7, s10_8, y9_l0⟩ hE K7 hK7
  try dsimp only at hE
  cases n7 with
  | zero => cases hE
  | succ n7 =>
    rw [Z73_l7] at hE
    refine seqK fun K10 hK10 => ?_
    refine region ?_
    refine s0 (binI rfl rfl rfl) rfl ?_
    refine nil ?_
    refine hK10 _ ?_
    clear hK10 K10
    refine seqK fun K11 hK11 => ?_
    refine condE hE rfl (fun hc12 hE => ?_) (fun hc12 hE => ?_)
    ·try dsimp only at hc12
     have hf12 := of_decide_eq_true hc12
     refine AWp.skip ?_
     refine hK11 _ ?_
     clear hK11 K11
     refine seqK fun K13 hK13 => ?_
     refine block ?_
     refine seqK fun K14 hK14 => ?_
     refine region ?_
     obtain ⟨x15, gx15, hE⟩ := bindO_some hE
     refine s0 (idxMn (f := TInput.c) (n := s10_8) (TK rfl) rfl (TK rfl) rfl rfl rfl gx15) rfl ?_
     refine s0 (loadV (TK rfl) rfl rfl rfl) rfl ?_
     refine sL (allocLA (TK rfl) rfl) rfl ?_
     refine sLn (storeLFA (TK rfl) rfl rfl rfl rfl rfl) ?_
     refine nil ?_
     refine hK14 _ ?_
     clear hK14 K14
     refine freezeA 7 _ rfl (Keeps.c (k := 1) (by conv => lhs; whnf) (by rfl) (Keeps.c (k := 4) (by conv => lhs; whnf) (by rfl) (Keeps.c (k := 8) (by conv => lhs; whnf) (by rfl) (Keeps.c (k := 9) (by conv => lhs; whnf) (by rfl) (Keeps.c (k := 10) (by conv => lhs; whnf) (by rfl) Keeps.nil))))) ?_
     refine seqK fun K16 hK16 => ?_
     refine region ?_
     refine s0 (fieldVA (TK rfl) rfl rfl (TK rfl) rfl rfl) rfl ?_
     refine s0 (loadV (TK rfl) rfl rfl rfl) rfl ?_
     refine s0 moveA rfl ?_
     refine s0 (binS rfl rfl rfl) rfl ?_
     refine nil ?_
     refine hK16 _ ?_
     clear hK16 K16
     refine condE hE rfl (fun hc17 hE => ?_) (fun hc17 hE => ?_)
     ·refine seqK fun K18 hK18 => ?_
      refine region ?_
      refine s0 (loadV (TK rfl) rfl rfl rfl) rfl ?_
      refine sLn (storeLFA (TK rfl) rfl rfl rfl rfl rfl) ?_
      refine s0 assignA rfl ?_
      refine nil ?_
      refine hK18 _ ?_
      clear hK18 K18
      refine AWp.ret ?_
      repeat (first | refine xBlock_ret ?_ | refine xThen_ret ?_)
      obtain rfl := Option.some.inj hE
      refine retQ.retF H rfl ⟨rfl, rfl⟩ ?_
      exact (fun _ _ h => h)
     refine AWp.skip ?_
     refine hK13 _ ?_
     clear hK13 K13
     refine region ?_
     refine s0 (addIA rfl rfl) rfl ?_
     refine s0 moveA rfl ?_
     refine nil ?_
     exact hK7 _ (n7, (s10_8 + 1), y9_l0) Weak.toA hE (Nat.lt_succ_self _)
    refine AWp.exit ?_
    exact hK2 _ y9_l0 Weak.toA hE
 rintro y3_l0 hE
 try dsimp only at hE
 unfold Z73_j2 at hE
 refine seqK fun K4 hK4 => ?_
 refine region ?_
 refine s0 (build Tryz.tab_ok rfl rfl rfl rfl rfl rfl) rfl ?_
 refine sLn (storeLFA (TK rfl) rfl rfl rfl rfl rfl) ?_
 refine s0 assignA rfl ?_
 refine nil ?_
 refine hK4 _ ?_
 clear hK4 K4
 refine AWp.ret ?_
 repeat (first | refine xBlock_ret ?_ | refine xThen_ret ?_)
 obtain rfl := Option.some.inj hE
 refine retQ.retF H rfl ⟨rfl, rfl⟩ ?_
 exact (fun _ _ h => h)
def Z99_j5  (y6_c0 : Usage_recorder) : Option Usage_recorder := some y6_c0
def Z99_l13 (a1 : TValue) (x8 : (TRef × Bool)) (k_rec_27 : Usage_recorder → TValue → TRef → Option Usage_recorder) : Nat → Nat → Usage_recorder → Option Usage_recorder
 | 0, _, _ => none
 | n13 + 1, s27_14, y15_c0 => bif (decide (((s27_14 : Nat) : Int) < ((a1.FItems.l.length : Nat) : Int))) then ((a1.FItems.l[s27_14]?).bind fun x21 => (k_rec_27 y15_c0 x21 x8.1).bind fun x22 => (Z99_l13 a1 x8 k_rec_27 n13) (s27_14 + 1) x22) else (Z99_j5   y15_c0)
def Z99_j41 (s89_36 : Int) (k_next_35 : Int → Usage_recorder → Option Usage_recorder) (y42_c0 : Usage_recorder) : Option Usage_recorder := (addC s89_36 (1 : Int)).bind fun x43 => k_next_35 x43 y42_c0
def Z99_l35 (a1 : TValue) (x24 : (TDef × Bool)) (k_rec_27 : Usage_recorder → TValue → TRef → Option Usage_recorder) : Nat → Int → Usage_recorder → Option Usage_recorder
 | 0, _, _ => none
 | n35 + 1, s89_36, y37_c0 => bif (decide (s89_36 < (if ((a1.FItems.l.length : Nat) : Int) < ((a1.FKeys.l.length : Nat) : Int) then ((a1.FItems.l.length : Nat) : Int) else ((a1.FKeys.l.length : Nat) : Int)))) then ((idxC a1.FKeys.l s89_36).bind fun x46 => (Z73 x24.1.FInputs x46).bind fun x47 => bif x47.2 then ((idxC a1.FItems.l s89_36).bind fun x50 => (k_rec_27 y37_c0 x50 x47.1.FType).bind fun x51 => Z99_j41 s89_36 ((Z99_l35 a1 x24 k_rec_27 n35)) x51) else (Z99_j41 s89_36 ((Z99_l35 a1 x24 k_rec_27 n35)) y37_c0)) else (some y37_c0)
def Z99_n : Nat → Usage_recorder → TValue → TRef → Option Usage_recorder
 | 0, _, _, _ => none
 | n + 1, a0, a1, a2 => bif (decide (a1.FKind = (5 : Int))) then ((Z84 a2).bind fun x8 => bif x8.2 then (Z99_l13 a1 x8 (Z99_n n) (a1.FItems.l.length + 1) 0 a0) else (Z99_j5   a0)) else ((Z72 a0.Fd a2.FName).bind fun x24 => guardO (((decide (a1.FKind = (4 : Int))) && (decide (x24.1.FKind = (4 : Int))))) (Z75 a2.FName) false fun x26 => bif (((decide (a1.FKind = (4 : Int))) && (decide (x24.1.FKind = (4 : Int)))) && (!x26)) then ((Z98 a0 a2.FName a1.FText ([] : Bs)).bind fun x28 => some x28) else (guardO (((decide (a1.FKind = (6 : Int))) && (decide (x24.1.FKind = (5 : Int))))) (Z75 a2.FName) false fun x30 => bif (((decide (a1.FKind = (6 : Int))) && (decide (x24.1.FKind = (5 : Int)))) && (!x30)) then (Z99_l35 a1 x24 (Z99_n n) F0 (0 : Int) a0) else (some a0)))
theorem Z99_step (n : Nat) (ih_27 : ∀ {a0 : Usage_recorder} {a1 : TValue} {a2 : TRef}  {c0 : Nat} {c0_2 : Nat} {r : Usage_recorder}, Z99_n n a0 a1 a2 = some r → ∀ (H : Heap) (hc0 : H c0 = some (.cells (Usage_recorder.cg (some c0_2) a0))) (ht0_2 : H c0_2 = some (.tok 4 a0.Fout.l.length)), ACalls Tryz.prog 27 [.d (.ptr c0 0), .agg (TValue.c a1), .agg (TRef.c a2)] H fun v h' => v = .tup [] ∧ h' = ((H.set c0_2 (some (.tok 4 r.Fout.l.length))).set c0 (some (.cells (Usage_recorder.cg (some c0_2) r))))) : ∀ {a0 : Usage_recorder} {a1 : TValue} {a2 : TRef}  {c0 : Nat} {c0_2 : Nat} {r : Usage_recorder}, Z99_n (n + 1) a0 a1 a2 = some r → ∀ (H : Heap) (hc0 : H c0 = some (.cells (Usage_recorder.cg (some c0_2) a0))) (ht0_2 : H c0_2 = some (.tok 4 a0.Fout.l.length)), ACalls Tryz.prog 27 [.d (.ptr c0 0), .agg (TValue.c a1), .agg (TRef.c a2)] H fun v h' => v = .tup [] ∧ h' = ((H.set c0_2 (some (.tok 4 r.Fout.l.length))).set c0 (some (.cells (Usage_recorder.cg (some c0_2) r)))) := by
 intro a0 a1 a2  c0 c0_2 r hE H hc0 ht0_2
 rw [Z99_n] at hE
 refine ACalls.of_wp (fn := Tryz.f27) (c := _) Tryz.tab_ok (fun _ _ => Tryz.call27 _ _) Tryz.func27 rfl (n := 114) rfl (rs := []) rfl rfl ?_
 have ne_c0_c0_2 : c0 ≠ c0_2 := fun e_ => by subst e_; simp_all
 refine AWp.heqA (h' := ((H.set c0_2 (some (.tok 4 a0.Fout.l.length))).set c0 (some (.cells (Usage_recorder.cg (some c0_2) a0))))) (by funext n_; simp only [Heap.set]; (repeat' split) <;> simp_all) ?_
 refine seqK fun K1 hK1 => ?_
 refine region ?_
 refine s0 (boxV rfl) rfl ?_
 refine s0 (boxV rfl) rfl ?_
 refine nil ?_
 refine hK1 _ ?_
 clear hK1 K1
 refine seqK fun K2 hK2 => ?_
 refine seqK fun K3 hK3 => ?_
 refine region ?_
 refine s0 (fieldVA (TK rfl) rfl rfl (TK rfl) rfl rfl) rfl ?_
 refine s0 (loadV (TK rfl) rfl rfl rfl) rfl ?_
 refine s0 (binI rfl rfl rfl) rfl ?_
 refine nil ?_
 refine hK3 _ ?_
 clear hK3 K3
 refine condE hE rfl (fun hc4 hE => ?_) (fun hc4 hE => ?_)
 ·refine seqJH KeepsT.nil (fun (z : Usage_recorder) => []) (fun z => ((H.set c0_2 (some (.tok 4 z.Fout.l.length))).set c0 (some (.cells (Usage_recorder.cg (some c0_2) z))))) (fun z => Z99_j5 z = some r) ?_ ?_
  ·intro K5 hK5
   refine seqK fun K7 hK7 => ?_
   refine region ?_
   refine s0 (loadV (TK rfl) rfl rfl rfl) rfl ?_
   obtain ⟨x8, gx8, hE⟩ := bindO_some hE
   refine s0 (callP rfl rfl (fun H => Z84_walk gx8 H)) rfl ?_
   refine s0 moveA rfl ?_
   refine s0 (extract rfl rfl) rfl ?_
   refine s0 (extract rfl rfl) rfl ?_
   refine sL (allocLA (TK rfl) rfl) rfl ?_
   refine sLn (storeLFA (TK rfl) rfl rfl rfl rfl rfl) ?_
   refine s0 assignA rfl ?_
   refine nil ?_
   refine hK7 _ ?_
   clear hK7 K7
   refine freezeA 6 _ rfl (Keeps.c (k := 0) (by conv => lhs; whnf) (by rfl) (Keeps.c (k := 4) (by conv => lhs; whnf) (by rfl) (Keeps.c (k := 7) (by conv => lhs; whnf) (by rfl) Keeps.nil))) ?_
   refine seqK fun K9 hK9 => ?_
   refine region ?_
   refine s0 moveA rfl ?_
   refine nil ?_
   refine hK9 _ ?_
   clear hK9 K9
   refine condE hE rfl (fun hc10 hE => ?_) (fun hc10 hE => ?_)
   ·refine seqK fun K11 hK11 => ?_
    refine region ?_
    refine s0 (fieldVA (TK rfl) rfl rfl (TK rfl) rfl rfl) rfl ?_
    refine s0 (loadV (TK rfl) rfl rfl (congrArg (fun x => some (A.d x)) (TValue.FItemsD_eq _))) rfl ?_
    refine sLen (f := TValue.c) (s := a1.FItems) (TK rfl) rfl rfl rfl rfl fun hL12 => ?_
    refine s0 moveA rfl ?_
    refine nil ?_
    refine hK11 _ ?_
    clear hK11 K11
    refine block ?_
    refine loopH (KeepsT.A (k := 0) (KeepsT.A (k := 6) (KeepsT.A (k := 25) (KeepsT.A (k := 26) KeepsT.nil)))) (fun (z : Nat × Nat × Usage_recorder) => [(27, .a (.d (.int .i64 ((z.2.1 : Nat) : Int))))]) (fun z => ((H.set c0_2 (some (.tok 4 z.2.2.Fout.l.length))).set c0 (some (.cells (Usage_recorder.cg (some c0_2) z.2.2))))) (fun z => z.1) (fun z => Z99_l13 a1 x8 (Z99_n n) z.1 z.2.1 z.2.2 = some r) ((a1.FItems.l.length + 1), 0, a0) hE Weak.toA ?_
    rintro ⟨n13, s27_14, y15_c0⟩ hE K13 hK13
    try dsimp only at hE
    cases n13 with
    | zero => cases hE
    | succ n13 =>
      rw [Z99_l13] at hE
      refine seqK fun K16 hK16 => ?_
      refine region ?_
      refine s0 (binI rfl rfl rfl) rfl ?_
      refine nil ?_
      refine hK16 _ ?_
      clear hK16 K16
      refine seqK fun K17 hK17 => ?_
      refine condE hE rfl (fun hc18 hE => ?_) (fun hc18 hE => ?_)
      ·try dsimp only at hc18
       have hf18 := of_decide_eq_true hc18
       refine AWp.skip ?_
       refine hK17 _ ?_
       clear hK17 K17
       refine seqK fun K19 hK19 => ?_
       refine block ?_
       refine seqK fun K20 hK20 => ?_
       refine region ?_
       obtain ⟨x21, gx21, hE⟩ := bindO_some hE
       refine s0 (idxMn (f := TValue.c) (n := s27_14) (TK rfl) rfl (TK rfl) rfl rfl rfl gx21) rfl ?_
       refine s0 (loadV (TK rfl) rfl rfl rfl) rfl ?_
       refine sL (allocLA (TK rfl) rfl) rfl ?_
       refine sLn (storeLFA (TK rfl) rfl rfl rfl rfl rfl) ?_
       refine nil ?_
       refine hK20 _ ?_
       clear hK20 K20
       refine freezeA 9 _ rfl (Keeps.c (k := 0) (by conv => lhs; whnf) (by rfl) (Keeps.c (k := 6) (by conv => lhs; whnf) (by rfl) (Keeps.c (k := 25) (by conv => lhs; whnf) (by rfl) (Keeps.c (k := 26) (by conv => lhs; whnf) (by rfl) (Keeps.c (k := 27) (by conv => lhs; whnf) (by rfl) Keeps.nil))))) ?_
       refine region ?_
       refine s0 moveA rfl ?_
       refine s0 (loadV (TK rfl) rfl rfl rfl) rfl ?_
       refine s0 (loadV (TK rfl) rfl rfl rfl) rfl ?_
       obtain ⟨x22, gx22, hE⟩ := bindO_some hE
       refine sH (callH rfl rfl (ih_27 gx22 _ hpG hpG)) rfl ?_
       refine AOps.heq (h' := ((H.set c0_2 (some (.tok 4 x22.Fout.l.length))).set c0 (some (.cells (Usage_recorder.cg (some c0_2) x22))))) (by first | rfl | (rw [Heap.set_set]; rfl) | (funext n_; simp only [Heap.set]; (repeat' split) <;> first | rfl | (exfalso; simp_all; done) | (simp_all; done))) ?_
       refine nil ?_
       refine hK19 _ ?_
       clear hK19 K19
       refine region ?_
       refine s0 (addIA rfl rfl) rfl ?_
       refine s0 moveA rfl ?_
       refine nil ?_
       exact hK13 _ (n13, (s27_14 + 1), x22) Weak.toA hE (Nat.lt_succ_self _)
      refine AWp.exit ?_
      exact hK5 _ y15_c0 Weak.toA hE
   refine AWp.skip ?_
   exact hK5 _ a0 Weak.toA hE
  rintro y6_c0 hE
  try dsimp only at hE
  unfold Z99_j5 at hE
  refine AWp.ret ?_
  repeat (first | refine xBlock_ret ?_ | refine xThen_ret ?_)
  obtain rfl := Option.some.inj hE
  refine retQ.retF ((H.set c0_2 (some (.tok 4 y6_c0.Fout.l.length))).set c0 (some (.cells (Usage_recorder.cg (some c0_2) y6_c0)))) (xs := []) rfl ⟨rfl, rfl⟩ ?_
  exact (fun _ _ h => h)
 refine AWp.skip ?_
 refine hK2 _ ?_
 clear hK2 K2
 refine seqK fun K23 hK23 => ?_
 refine AWp.draw rfl ?_
 refine DOps.s0 moveA rfl ?_
 refine DOps.s0 (nilP rfl) rfl ?_
 refine DOps.s0 (fieldP (TK rfl) rfl rfl (TK rfl) rfl rfl) rfl ?_
 refine DOps.s0 (loadP (TK rfl) rfl rfl hpG rfl) rfl ?_
 refine DOps.s0 (fieldVA (TK rfl) rfl rfl (TK rfl) rfl rfl) rfl ?_
 refine DOps.s0 (loadV (TK rfl) rfl rfl rfl) rfl ?_
 obtain ⟨x24, gx24, hE⟩ := bindO_some hE
 refine DOps.s0 (callP rfl rfl (fun H => Z72_walk gx24 H)) rfl ?_
 refine DOps.s0 moveA rfl ?_
 refine DOps.s0 (extract rfl rfl) rfl ?_
 refine DOps.s0 (extract rfl rfl) rfl ?_
 refine DOps.sL (allocLA (TK rfl) rfl) rfl ?_
 refine DOps.sLn (storeLFA (TK rfl) rfl rfl rfl rfl rfl) ?_
 refine DOps.s0 assignA rfl ?_
 refine DOps.nil (by decide +kernel) ?_
 refine hK23 _ ?_
 clear hK23 K23
 refine freezeA 10 _ rfl (Keeps.c (k := 0) (by conv => lhs; whnf) (by rfl) (Keeps.c (k := 4) (by conv => lhs; whnf) (by rfl) (Keeps.c (k := 5) (by conv => lhs; whnf) (by rfl) Keeps.nil))) ?_
 refine block ?_
 refine seqK fun K25 hK25 => ?_
 refine region ?_
 refine s0 (fieldVA (TK rfl) rfl rfl (TK rfl) rfl rfl) rfl ?_
 refine s0 (loadV (TK rfl) rfl rfl rfl) rfl ?_
 refine s0 (binI rfl rfl rfl) rfl ?_
 refine s0 moveA rfl ?_
 refine gC rfl rfl (fun hC => fieldVA (TK rfl) rfl rfl (TK rfl) rfl rfl) rfl ?_
 refine gC rfl rfl (fun hC => ungdA (k := 51) rfl (loadV (TK rfl) rfl rfl rfl)) rfl ?_
 refine gC rfl rfl (fun hC => ungdA (k := 52) rfl (binI rfl rfl rfl)) rfl ?_
 refine s0 (pickAndA rfl rfl rfl) rfl ?_
 refine s0 moveA rfl ?_
 refine gC rfl rfl (fun hC => fieldVA (TK rfl) rfl rfl (TK rfl) rfl rfl) rfl ?_
 refine gC rfl rfl (fun hC => ungdA (k := 56) rfl (loadV (TK rfl) rfl rfl rfl)) rfl ?_
 obtain ⟨x26, gx26, hE⟩ := guardO_some hE
 refine gC rfl rfl (fun hC => ungdA (k := 57) rfl (callP rfl rfl (fun H => Z75_walk (gx26 hC) H))) rfl ?_
 refine gC rfl rfl (fun hC => ungdA (k := 58) rfl (notB rfl)) rfl ?_
 refine s0 (pickAndA rfl rfl rfl) rfl ?_
 refine s0 assignA rfl ?_
 refine nil ?_
 refine hK25 _ ?_
 clear hK25 K25
 refine condE hE rfl (fun hc27 hE => ?_) (fun hc27 hE => ?_)
 ·refine region ?_
  refine s0 moveA rfl ?_
  refine s0 (fieldVA (TK rfl) rfl rfl (TK rfl) rfl rfl) rfl ?_
  refine s0 (loadV (TK rfl) rfl rfl rfl) rfl ?_
  refine s0 (fieldVA (TK rfl) rfl rfl (TK rfl) rfl rfl) rfl ?_
  refine s0 (loadV (TK rfl) rfl rfl rfl) rfl ?_
  obtain ⟨x28, gx28, hE⟩ := bindO_some hE
  refine sH (callH rfl rfl (Z98_walk gx28 _ hpG hpG)) rfl ?_
  refine AOps.heq (h' := ((H.set c0_2 (some (.tok 4 x28.Fout.l.length))).set c0 (some (.cells (Usage_recorder.cg (some c0_2) x28))))) (by first | rfl | (rw [Heap.set_set]; rfl) | (funext n_; simp only [Heap.set]; (repeat' split) <;> first | rfl | (exfalso; simp_all; done) | (simp_all; done))) ?_
  refine nil ?_
  repeat (first | refine xBlock_normal ?_ | refine xThen_exit ?_ | refine xBlock_exit ?_)
  obtain rfl := Option.some.inj hE
  refine retQ.normalF ((H.set c0_2 (some (.tok 4 x28.Fout.l.length))).set c0 (some (.cells (Usage_recorder.cg (some c0_2) x28)))) (xs := []) rfl ⟨rfl, rfl⟩ ?_
  exact (fun _ _ h => h)
 refine seqK fun K29 hK29 => ?_
 refine region ?_
 refine s0 (fieldVA (TK rfl) rfl rfl (TK rfl) rfl rfl) rfl ?_
 refine s0 (loadV (TK rfl) rfl rfl rfl) rfl ?_
 refine s0 (binI rfl rfl rfl) rfl ?_
 refine s0 moveA rfl ?_
 refine gC rfl rfl (fun hC => fieldVA (TK rfl) rfl rfl (TK rfl) rfl rfl) rfl ?_
 refine gC rfl rfl (fun hC => ungdA (k := 72) rfl (loadV (TK rfl) rfl rfl rfl)) rfl ?_
 refine gC rfl rfl (fun hC => ungdA (k := 73) rfl (binI rfl rfl rfl)) rfl ?_
 refine s0 (pickAndA rfl rfl rfl) rfl ?_
 refine s0 moveA rfl ?_
 refine gC rfl rfl (fun hC => fieldVA (TK rfl) rfl rfl (TK rfl) rfl rfl) rfl ?_
 refine gC rfl rfl (fun hC => ungdA (k := 77) rfl (loadV (TK rfl) rfl rfl rfl)) rfl ?_
 obtain ⟨x30, gx30, hE⟩ := guardO_some hE
 refine gC rfl rfl (fun hC => ungdA (k := 78) rfl (callP rfl rfl (fun H => Z75_walk (gx30 hC) H))) rfl ?_
 refine gC rfl rfl (fun hC => ungdA (k := 79) rfl (notB rfl)) rfl ?_
 refine s0 (pickAndA rfl rfl rfl) rfl ?_
 refine s0 assignA rfl ?_
 refine nil ?_
 refine hK29 _ ?_
 clear hK29 K29
 refine condE hE rfl (fun hc31 hE => ?_) (fun hc31 hE => ?_)
 ·refine seqK fun K32 hK32 => ?_
  refine region ?_
  refine s0 (fieldVA (TK rfl) rfl rfl (TK rfl) rfl rfl) rfl ?_
  refine s0 (loadV (TK rfl) rfl rfl rfl) rfl ?_
  refine sLen (f := strE) (s := a1.FKeys) (TK rfl) rfl rfl rfl rfl fun hL33 => ?_
  refine s0 (fieldVA (TK rfl) rfl rfl (TK rfl) rfl rfl) rfl ?_
  refine s0 (loadV (TK rfl) rfl rfl (congrArg (fun x => some (A.d x)) (TValue.FItemsD_eq _))) rfl ?_
  refine sLen (f := TValue.c) (s := a1.FItems) (TK rfl) rfl rfl rfl rfl fun hL34 => ?_
  refine s0 (minM rfl rfl) rfl ?_
  refine s0 moveA rfl ?_
  refine nil ?_
  refine hK32 _ ?_
  clear hK32 K32
  refine block ?_
  refine loopH (KeepsT.A (k := 0) (KeepsT.A (k := 4) (KeepsT.A (k := 10) (KeepsT.A (k := 88) KeepsT.nil)))) (fun (z : Nat × Int × Usage_recorder) => [(89, .a (.d (.int .i64 z.2.1)))]) (fun z => ((H.set c0_2 (some (.tok 4 z.2.2.Fout.l.length))).set c0 (some (.cells (Usage_recorder.cg (some c0_2) z.2.2))))) (fun z => z.1) (fun z => Z99_l35 a1 x24 (Z99_n n) z.1 z.2.1 z.2.2 = some r) (F0, (0 : Int), a0) hE Weak.toA ?_
  rintro ⟨n35, s89_36, y37_c0⟩ hE K35 hK35
  try dsimp only at hE
  cases n35 with
  | zero => cases hE
  | succ n35 =>
    rw [Z99_l35] at hE
    refine seqK fun K38 hK38 => ?_
    refine region ?_
    refine s0 (binI rfl rfl rfl) rfl ?_
    refine nil ?_
    refine hK38 _ ?_
    clear hK38 K38
    refine seqK fun K39 hK39 => ?_
    refine condE hE rfl (fun hc40 hE => ?_) (fun hc40 hE => ?_)
    ·refine AWp.skip ?_
     refine hK39 _ ?_
     clear hK39 K39
     refine seqJH (KeepsT.A (k := 0) (KeepsT.A (k := 4) (KeepsT.A (k := 10) (KeepsT.A (k := 88) (KeepsT.A (k := 89) KeepsT.nil))))) (fun (z : Usage_recorder) => []) (fun z => ((H.set c0_2 (some (.tok 4 z.Fout.l.length))).set c0 (some (.cells (Usage_recorder.cg (some c0_2) z))))) (fun z => Z99_j41 s89_36 ((Z99_l35 a1 x24 (Z99_n n) n35)) z = some r) ?_ ?_
     ·intro K41 hK41
      refine block ?_
      refine seqK fun K44 hK44 => ?_
      refine region ?_
      refine s0 moveA rfl ?_
      refine s0 assignA rfl ?_
      refine nil ?_
      refine hK44 _ ?_
      clear hK44 K44
      refine seqK fun K45 hK45 => ?_
      refine AWp.draw rfl ?_
      refine DOps.s0 (fieldVA (TK rfl) rfl rfl (TK rfl) rfl rfl) rfl ?_
      refine DOps.s0 (loadV (TK rfl) rfl rfl rfl) rfl ?_
      refine DOps.s0 (fieldVA (TK rfl) rfl rfl (TK rfl) rfl rfl) rfl ?_
      refine DOps.s0 (loadV (TK rfl) rfl rfl rfl) rfl ?_
      refine DOps.s0 moveA rfl ?_
      obtain ⟨x46, gx46, hE⟩ := bindO_some hE
      refine DOps.s0 (idxM (f := strE) (TK rfl) rfl (TK rfl) rfl rfl rfl gx46) rfl ?_
      refine DOps.s0 (loadV (TK rfl) rfl rfl rfl) rfl ?_
      obtain ⟨x47, gx47, hE⟩ := bindO_some hE
      refine DOps.s0 (callP rfl rfl (fun H => Z73_walk gx47 H)) rfl ?_
      refine DOps.s0 moveA rfl ?_
      refine DOps.s0 (extract rfl rfl) rfl ?_
      refine DOps.s0 (extract rfl rfl) rfl ?_
      refine DOps.sL (allocLA (TK rfl) rfl) rfl ?_
      refine DOps.sLn (storeLFA (TK rfl) rfl rfl rfl rfl rfl) ?_
      refine DOps.s0 assignA rfl ?_
      refine DOps.nil (by decide +kernel) ?_
      refine hK45 _ ?_
      clear hK45 K45
      refine freezeA 13 _ rfl (Keeps.c (k := 0) (by conv => lhs; whnf) (by rfl) (Keeps.c (k := 4) (by conv => lhs; whnf) (by rfl) (Keeps.c (k := 10) (by conv => lhs; whnf) (by rfl) (Keeps.c (k := 12) (by conv => lhs; whnf) (by rfl) (Keeps.c (k := 14) (by conv => lhs; whnf) (by rfl) (Keeps.c (k := 88) (by conv => lhs; whnf) (by rfl) (Keeps.c (k := 89) (by conv => lhs; whnf) (by rfl) Keeps.nil))))))) ?_
      refine seqK fun K48 hK48 => ?_
      refine region ?_
      refine s0 moveA rfl ?_
      refine nil ?_
      refine hK48 _ ?_
      clear hK48 K48
      refine condE hE rfl (fun hc49 hE => ?_) (fun hc49 hE => ?_)
      ·refine AWp.draw rfl ?_
       refine DOps.s0 moveA rfl ?_
       refine DOps.s0 (fieldVA (TK rfl) rfl rfl (TK rfl) rfl rfl) rfl ?_
       refine DOps.s0 (loadV (TK rfl) rfl rfl (congrArg (fun x => some (A.d x)) (TValue.FItemsD_eq _))) rfl ?_
       refine DOps.s0 moveA rfl ?_
       obtain ⟨x50, gx50, hE⟩ := bindO_some hE
       refine DOps.s0 (idxM (f := TValue.c) (TK rfl) rfl (TK rfl) rfl rfl rfl gx50) rfl ?_
       refine DOps.s0 (loadV (TK rfl) rfl rfl rfl) rfl ?_
       refine DOps.s0 (fieldVA (TK rfl) rfl rfl (TK rfl) rfl rfl) rfl ?_
       refine DOps.s0 (loadV (TK rfl) rfl rfl rfl) rfl ?_
       obtain ⟨x51, gx51, hE⟩ := bindO_some hE
       refine DOps.sH (callH rfl rfl (ih_27 gx51 _ hpG hpG)) rfl ?_
       refine DOps.heq (h' := ((H.set c0_2 (some (.tok 4 x51.Fout.l.length))).set c0 (some (.cells (Usage_recorder.cg (some c0_2) x51))))) (by first | rfl | (rw [Heap.set_set]; rfl) | (funext n_; simp only [Heap.set]; (repeat' split) <;> first | rfl | (exfalso; simp_all; done) | (simp_all; done))) ?_
       refine DOps.nil (by decide +kernel) ?_
       exact hK41 _ x51 Weak.toA hE
      refine AWp.skip ?_
      exact hK41 _ y37_c0 Weak.toA hE
     rintro y42_c0 hE
     try dsimp only at hE
     unfold Z99_j41 at hE
     refine region ?_
     obtain ⟨x43, gx43, hE⟩ := bindO_some hE
     refine s0 (addM rfl rfl gx43) rfl ?_
     refine s0 moveA rfl ?_
     refine nil ?_
     exact hK35 _ (n35, x43, y42_c0) Weak.toA hE (Nat.lt_succ_self _)
    refine AWp.exit ?_
    repeat (first | refine xBlock_normal ?_ | refine xThen_exit ?_ | refine xBlock_exit ?_)
    obtain rfl := Option.some.inj hE
    refine retQ.normalF ((H.set c0_2 (some (.tok 4 y37_c0.Fout.l.length))).set c0 (some (.cells (Usage_recorder.cg (some c0_2) y37_c0)))) (xs := []) rfl ⟨rfl, rfl⟩ ?_
    exact (fun _ _ h => h)
 refine AWp.skip ?_
 repeat (first | refine xBlock_normal ?_ | refine xThen_exit ?_ | refine xBlock_exit ?_)
 obtain rfl := Option.some.inj hE
 refine retQ.normalF ((H.set c0_2 (some (.tok 4 a0.Fout.l.length))).set c0 (some (.cells (Usage_recorder.cg (some c0_2) a0)))) (xs := []) rfl ⟨rfl, rfl⟩ ?_
 exact (fun _ _ h => h)
theorem Z99_all : ∀ (n : Nat), (∀ {a0 : Usage_recorder} {a1 : TValue} {a2 : TRef}  {c0 : Nat} {c0_2 : Nat} {r : Usage_recorder}, Z99_n n a0 a1 a2 = some r → ∀ (H : Heap) (hc0 : H c0 = some (.cells (Usage_recorder.cg (some c0_2) a0))) (ht0_2 : H c0_2 = some (.tok 4 a0.Fout.l.length)), ACalls Tryz.prog 27 [.d (.ptr c0 0), .agg (TValue.c a1), .agg (TRef.c a2)] H fun v h' => v = .tup [] ∧ h' = ((H.set c0_2 (some (.tok 4 r.Fout.l.length))).set c0 (some (.cells (Usage_recorder.cg (some c0_2) r)))))
 | 0 => fun hE => by first | cases hE | (rw [Z99_n] at hE; cases hE)
 | n + 1 => Z99_step n (Z99_all n)
def Z99 (a0 : Usage_recorder) (a1 : TValue) (a2 : TRef) : Option Usage_recorder := Z99_n F0 a0 a1 a2
theorem Z99_walk {a0 : Usage_recorder} {a1 : TValue} {a2 : TRef}  {c0 : Nat} {c0_2 : Nat} {r : Usage_recorder} (hE : Z99 a0 a1 a2 = some r) (H : Heap) (hc0 : H c0 = some (.cells (Usage_recorder.cg (some c0_2) a0))) (ht0_2 : H c0_2 = some (.tok 4 a0.Fout.l.length)) : ACalls Tryz.prog 27 [.d (.ptr c0 0), .agg (TValue.c a1), .agg (TRef.c a2)] H fun v h' => v = .tup [] ∧ h' = ((H.set c0_2 (some (.tok 4 r.Fout.l.length))).set c0 (some (.cells (Usage_recorder.cg (some c0_2) r)))) := (Z99_all F0) hE H hc0 ht0_2
def Z71_j2  (y3_l0 : TField) : Option (TField × Bool) := some ((TField.mk ([] : Bs) (Sl.nil : Sl TInput) TRef.zero (Sl.nil : Sl TDir)), false)
def Z71_l7 (a0 : TDef) (a1 : Bs)  : Nat → Nat → TField → Option (TField × Bool)
 | 0, _, _ => none
 | n7 + 1, s11_8, y9_l0 => bif (decide (((s11_8 : Nat) : Int) < ((a0.FFields.l.length : Nat) : Int))) then ((a0.FFields.l[s11_8]?).bind fun x15 => bif ((x15.FName == a1)) then (some (x15, true)) else ((Z71_l7 a0 a1 n7) (s11_8 + 1) y9_l0)) else (Z71_j2   y9_l0)
def Z71 (a0 : TDef) (a1 : Bs) : Option (TField × Bool) := Z71_l7 a0 a1 (a0.FFields.l.length + 1) 0 TField.zero
theorem Z71_walk {a0 : TDef} {a1 : Bs}   {r : (TField × Bool)} (hE : Z71 a0 a1 = some r) (H : Heap)  : ACalls Tryz.prog 82 [.agg (TDef.c a0), .d (.str a1)] H fun v h' => v = .tup [.agg (TField.c r.1), .d (.bool r.2)] ∧ h' = H := by
 unfold Z71 at hE
 refine ACalls.of_wp (fn := Tryz.f82) (c := _) Tryz.tab_ok (fun _ _ => Tryz.call82 _ _) Tryz.func82 rfl (n := 22) rfl (rs := [.cell 4 110, .tmp 5]) rfl rfl ?_
 refine seqK fun K1 hK1 => ?_
 refine region ?_
 refine s0 (boxV rfl) rfl ?_
 refine sL (allocLA (TK rfl) rfl) rfl ?_
 refine s0 assignA rfl ?_
 refine nil ?_
 refine hK1 _ ?_
 clear hK1 K1
 refine seqJ (KeepsT.A (k := 4) KeepsT.nil) (fun (z : TField) => []) (fun z => [TField.c z]) (fun z => H) (fun z => Z71_j2 z = some r) ?_ ?_
 ·intro K2 hK2
  refine seqK fun K5 hK5 => ?_
  refine region ?_
  refine s0 (fieldVA (TK rfl) rfl rfl (TK rfl) rfl rfl) rfl ?_
  refine s0 (loadV (TK rfl) rfl rfl rfl) rfl ?_
  refine sLen (f := TField.c) (s := a0.FFields) (TK rfl) rfl rfl rfl rfl fun hL6 => ?_
  refine s0 moveA rfl ?_
  refine nil ?_
  refine hK5 _ ?_
  clear hK5 K5
  refine block ?_
  refine loopO (KeepsT.A (k := 1) (KeepsT.A (k := 4) (KeepsT.A (k := 9) (KeepsT.A (k := 10) KeepsT.nil)))) (fun (z : Nat × Nat × TField) => [(11, .a (.d (.int .i64 ((z.2.1 : Nat) : Int))))]) (fun z => [TField.c z.2.2]) (fun z => H) (fun z => z.1) (fun z => Z71_l7 a0 a1 z.1 z.2.1 z.2.2 = some r) ((a0.FFields.l.length + 1), 0, TField.zero) hE Weak.toA ?_
  rintro ⟨n7, s11_8, y9_l0⟩ hE K7 hK7
  try dsimp only at hE
  cases n7 with
  | zero => cases hE
  | succ n7 =>
    rw [Z71_l7] at hE
    refine seqK fun K10 hK10 => ?_
    refine region ?_
    refine s0 (binI rfl rfl rfl) rfl ?_
    refine nil ?_
    refine hK10 _ ?_
    clear hK10 K10
    refine seqK fun K11 hK11 => ?_
    refine condE hE rfl (fun hc12 hE => ?_) (fun hc12 hE => ?_)
    ·try dsimp only at hc12
     have hf12 := of_decide_eq_true hc12
     refine AWp.skip ?_
     refine hK11 _ ?_
     clear hK11 K11
     refine seqK fun K13 hK13 => ?_
     refine block ?_
     refine seqK fun K14 hK14 => ?_
     refine region ?_
     obtain ⟨x15, gx15, hE⟩ := bindO_some hE
     refine s0 (idxMn (f := TField.c) (n := s11_8) (TK rfl) rfl (TK rfl) rfl rfl rfl gx15) rfl ?_
     refine s0 (loadV (TK rfl) rfl rfl rfl) rfl ?_
     refine sL (allocLA (TK rfl) rfl) rfl ?_
     refine sLn (storeLFA (TK rfl) rfl rfl rfl rfl rfl) ?_
     refine nil ?_
     refine hK14 _ ?_
     clear hK14 K14
     refine freezeA 7 _ rfl (Keeps.c (k := 1) (by conv => lhs; whnf) (by rfl) (Keeps.c (k := 4) (by conv => lhs; whnf) (by rfl) (Keeps.c (k := 9) (by conv => lhs; whnf) (by rfl) (Keeps.c (k := 10) (by conv => lhs; whnf) (by rfl) (Keeps.c (k := 11) (by conv => lhs; whnf) (by rfl) Keeps.nil))))) ?_
     refine seqK fun K16 hK16 => ?_
     refine region ?_
     refine s0 (fieldVA (TK rfl) rfl rfl (TK rfl) rfl rfl) rfl ?_
     refine s0 (loadV (TK rfl) rfl rfl rfl) rfl ?_
     refine s0 moveA rfl ?_
     refine s0 (binS rfl rfl rfl) rfl ?_
     refine nil ?_
     refine hK16 _ ?_
     clear hK16 K16
     refine condE hE rfl (fun hc17 hE => ?_) (fun hc17 hE => ?_)
     ·refine seqK fun K18 hK18 => ?_
      refine region ?_
      refine s0 (loadV (TK rfl) rfl rfl rfl) rfl ?_
      refine sLn (storeLFA (TK rfl) rfl rfl rfl rfl rfl) ?_
      refine s0 assignA rfl ?_
      refine nil ?_
      refine hK18 _ ?_
      clear hK18 K18
      refine AWp.ret ?_
      repeat (first | refine xBlock_ret ?_ | refine xThen_ret ?_)
      obtain rfl := Option.some.inj hE
      refine retQ.retF H rfl ⟨rfl, rfl⟩ ?_
      exact (fun _ _ h => h)
     refine AWp.skip ?_
     refine hK13 _ ?_
     clear hK13 K13
     refine region ?_
     refine s0 (addIA rfl rfl) rfl ?_
     refine s0 moveA rfl ?_
     refine nil ?_
     exact hK7 _ (n7, (s11_8 + 1), y9_l0) Weak.toA hE (Nat.lt_succ_self _)
    refine AWp.exit ?_
    exact hK2 _ y9_l0 Weak.toA hE
 rintro y3_l0 hE
 try dsimp only at hE
 unfold Z71_j2 at hE
 refine seqK fun K4 hK4 => ?_
 refine region ?_
 refine s0 (build Tryz.tab_ok rfl rfl rfl rfl rfl rfl) rfl ?_
 refine sLn (storeLFA (TK rfl) rfl rfl rfl rfl rfl) ?_
 refine s0 assignA rfl ?_
 refine nil ?_
 refine hK4 _ ?_
 clear hK4 K4
 refine AWp.ret ?_
 repeat (first | refine xBlock_ret ?_ | refine xThen_ret ?_)
 obtain rfl := Option.some.inj hE
 refine retQ.retF H rfl ⟨rfl, rfl⟩ ?_
 exact (fun _ _ h => h)
end Go.Proofs
