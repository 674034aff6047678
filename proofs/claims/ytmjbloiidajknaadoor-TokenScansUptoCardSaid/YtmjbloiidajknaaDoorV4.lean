import Derived.Test.YtmjbloiidajknaaDoorV3
set_option maxRecDepth 100000
set_option maxHeartbeats 2000000
set_option linter.unusedVariables false
set_option linter.unusedSimpArgs false
namespace Go.Proofs
open Go Go.Ab
open AOps Cert AWp
variable {lou : Lou}
def Z17 (a0 : Bs) (a1 : Int) : Option (R04_Token × Int × Int) := (idxC a0 a1).bind fun x3 => (Z18 ((x3.toNat : Nat) : Int)).bind fun x6 => bif x6 then ((addC a1 (1 : Int)).bind fun x9 => (cutC a0 (some a1) (some x9)).bind fun x10 => (addC a1 (1 : Int)).bind fun x11 => some ((R04_Token.mk (1 : Int) x10 a1), x11, (0 : Int))) else (guardO ((decide (((x3.toNat : Nat) : Int) = (46 : Int)))) (addC a1 (3 : Int)) (0 : Int) fun x14 => guardO (((decide (((x3.toNat : Nat) : Int) = (46 : Int))) && (decide (x14 ≤ ((a0.length : Nat) : Int))))) (addC a1 (3 : Int)) (0 : Int) fun x15 => guardO (((decide (((x3.toNat : Nat) : Int) = (46 : Int))) && (decide (x14 ≤ ((a0.length : Nat) : Int))))) (cutC a0 (some a1) (some x15)) ([] : Bs) fun x16 => bif (((decide (((x3.toNat : Nat) : Int) = (46 : Int))) && (decide (x14 ≤ ((a0.length : Nat) : Int)))) && ((x16 == ([46, 46, 46] : Bs)))) then ((addC a1 (3 : Int)).bind fun x19 => some ((R04_Token.mk (1 : Int) ([46, 46, 46] : Bs) a1), x19, (0 : Int))) else ((Z16 ((x3.toNat : Nat) : Int)).bind fun x22 => bif x22 then ((Z21 a0 a1).bind fun x25 => (subC x25 a1).bind fun x28 => bif (decide ((64 : Int) < x28)) then (some ((R04_Token.mk (0 : Int) ([] : Bs) (0 : Int)), (0 : Int), (3 : Int))) else ((cutC a0 (some a1) (some x25)).bind fun x32 => some ((R04_Token.mk (2 : Int) x32 a1), x25, (0 : Int)))) else ((Z15 ((x3.toNat : Nat) : Int)).bind fun x35 => bif (x35 || (decide (((x3.toNat : Nat) : Int) = (45 : Int)))) then ((addC a1 (1 : Int)).bind fun x38 => (Z21 a0 x38).bind fun x39 => (cutC a0 (some a1) (some x39)).bind fun x41 => (Z7 x41).bind fun x42 => (cutC a0 (some a1) (some x39)).bind fun x44 => some ((R04_Token.mk (3 : Int) x44 a1), x39, x42.2)) else (bif (decide (((x3.toNat : Nat) : Int) = (34 : Int))) then ((Z14 a0 a1).bind fun x49 => bif (decide (x49 < (0 : Int))) then (some ((R04_Token.mk (0 : Int) ([] : Bs) (0 : Int)), (0 : Int), (3 : Int))) else ((cutC a0 (some a1) (some x49)).bind fun x55 => (Z8 x55).bind fun x56 => some ((R04_Token.mk (4 : Int) x56.1 a1), x49, x56.2))) else (some ((R04_Token.mk (0 : Int) ([] : Bs) (0 : Int)), (0 : Int), (3 : Int)))))))
theorem Z17_walk {a0 : Bs} {a1 : Int}   {r : (R04_Token × Int × Int)} (hE : Z17 a0 a1 = some r) (H : Heap)  : ACalls Tryd.prog 33 [.d (.str a0), .d (.int .i64 a1)] H fun v h' => v = .tup [.agg (R04_Token.c r.1), .d (.int .i64 r.2.1), .d (.int .i64 r.2.2)] ∧ h' = H := by
 unfold Z17 at hE
 refine ACalls.of_wp (fn := Tryd.f33) (c := _) Tryd.tab_ok (fun _ _ => Tryd.call33 _ _) Tryd.func33 rfl (n := 115) rfl (rs := [.cell 4 36, .tmp 5, .tmp 6]) rfl rfl ?_
 refine seqK fun K1 hK1 => ?_
 refine region ?_
 refine sL (allocLA (TK rfl) rfl) rfl ?_
 refine s0 assignA rfl ?_
 refine s0 assignA rfl ?_
 refine nil ?_
 refine hK1 _ ?_
 clear hK1 K1
 refine seqK fun K2 hK2 => ?_
 refine region ?_
 refine s0 moveA rfl ?_
 refine s0 moveA rfl ?_
 obtain ⟨x3, gx3, hE⟩ := bindO_some hE
 refine s0 (idxS (TK rfl) rfl rfl rfl gx3) rfl ?_
 refine s0 assignA rfl ?_
 refine nil ?_
 refine hK2 _ ?_
 clear hK2 K2
 refine seqK fun K4 hK4 => ?_
 refine seqK fun K5 hK5 => ?_
 refine region ?_
 refine s0 moveA rfl ?_
 obtain ⟨x6, gx6, hE⟩ := bindO_some hE
 refine s0 (callP rfl rfl (fun H => Z18_walk gx6 H)) rfl ?_
 refine nil ?_
 refine hK5 _ ?_
 clear hK5 K5
 refine condE hE rfl (fun hc7 hE => ?_) (fun hc7 hE => ?_)
 ·refine seqK fun K8 hK8 => ?_
  refine region ?_
  refine s0 moveA rfl ?_
  refine s0 moveA rfl ?_
  refine s0 moveA rfl ?_
  obtain ⟨x9, gx9, hE⟩ := bindO_some hE
  refine s0 (addM rfl rfl gx9) rfl ?_
  obtain ⟨x10, gx10, hE⟩ := bindO_some hE
  refine s0 (cutM (l := (some a1)) (r := (some x9)) (TK rfl) rfl rfl rfl rfl (by simp) gx10) rfl ?_
  refine s0 moveA rfl ?_
  refine s0 (build Tryd.tab_ok rfl rfl rfl rfl rfl rfl) rfl ?_
  refine s0 moveA rfl ?_
  obtain ⟨x11, gx11, hE⟩ := bindO_some hE
  refine s0 (addM rfl rfl gx11) rfl ?_
  refine sLn (storeLFA (TK rfl) rfl rfl rfl rfl rfl) ?_
  refine s0 assignA rfl ?_
  refine s0 assignA rfl ?_
  refine nil ?_
  refine hK8 _ ?_
  clear hK8 K8
  refine AWp.ret ?_
  repeat (first | refine xBlock_ret ?_ | refine xThen_ret ?_)
  obtain rfl := Option.some.inj hE
  refine retQ.retF H rfl ⟨rfl, rfl⟩ ?_
  exact (fun _ _ h => h)
 refine AWp.skip ?_
 refine hK4 _ ?_
 clear hK4 K4
 refine seqK fun K12 hK12 => ?_
 refine seqK fun K13 hK13 => ?_
 refine region ?_
 refine s0 moveA rfl ?_
 refine s0 (binI rfl rfl rfl) rfl ?_
 refine s0 moveA rfl ?_
 refine gC rfl rfl (fun hC => moveA) rfl ?_
 obtain ⟨x14, gx14, hE⟩ := guardO_some hE
 refine gC rfl rfl (fun hC => ungdA (k := 32) rfl (addM rfl rfl (gx14 hC))) rfl ?_
 refine gC rfl rfl (fun hC => moveA) rfl ?_
 refine gC rfl rfl (fun hC => ungdA (k := 34) rfl (lenS (TK rfl) rfl rfl rfl)) rfl ?_
 refine gC rfl rfl (fun hC => ungdA (k := 33) rfl (ungdA (k := 35) rfl (binI rfl rfl rfl))) rfl ?_
 refine s0 (pickAndA rfl rfl rfl) rfl ?_
 refine s0 moveA rfl ?_
 refine gC rfl rfl (fun hC => moveA) rfl ?_
 refine gC rfl rfl (fun hC => moveA) rfl ?_
 refine gC rfl rfl (fun hC => moveA) rfl ?_
 obtain ⟨x15, gx15, hE⟩ := guardO_some hE
 refine gC rfl rfl (fun hC => ungdA (k := 41) rfl (addM rfl rfl (gx15 hC))) rfl ?_
 obtain ⟨x16, gx16, hE⟩ := guardO_some hE
 refine gC rfl rfl (fun hC => ungdA (k := 39) rfl (ungdA (k := 40) rfl (ungdA (k := 42) rfl (cutM (l := (some a1)) (r := (some x15)) (TK rfl) rfl rfl rfl rfl (by simp) (gx16 hC))))) rfl ?_
 refine gC rfl rfl (fun hC => ungdA (k := 43) rfl (binS rfl rfl rfl)) rfl ?_
 refine s0 (pickAndA rfl rfl rfl) rfl ?_
 refine nil ?_
 refine hK13 _ ?_
 clear hK13 K13
 refine condE hE rfl (fun hc17 hE => ?_) (fun hc17 hE => ?_)
 ·refine seqK fun K18 hK18 => ?_
  refine region ?_
  refine s0 moveA rfl ?_
  refine s0 (build Tryd.tab_ok rfl rfl rfl rfl rfl rfl) rfl ?_
  refine s0 moveA rfl ?_
  obtain ⟨x19, gx19, hE⟩ := bindO_some hE
  refine s0 (addM rfl rfl gx19) rfl ?_
  refine sLn (storeLFA (TK rfl) rfl rfl rfl rfl rfl) ?_
  refine s0 assignA rfl ?_
  refine s0 assignA rfl ?_
  refine nil ?_
  refine hK18 _ ?_
  clear hK18 K18
  refine AWp.ret ?_
  repeat (first | refine xBlock_ret ?_ | refine xThen_ret ?_)
  obtain rfl := Option.some.inj hE
  refine retQ.retF H rfl ⟨rfl, rfl⟩ ?_
  exact (fun _ _ h => h)
 refine AWp.skip ?_
 refine hK12 _ ?_
 clear hK12 K12
 refine seqK fun K20 hK20 => ?_
 refine seqK fun K21 hK21 => ?_
 refine region ?_
 refine s0 moveA rfl ?_
 obtain ⟨x22, gx22, hE⟩ := bindO_some hE
 refine s0 (callP rfl rfl (fun H => Z16_walk gx22 H)) rfl ?_
 refine nil ?_
 refine hK21 _ ?_
 clear hK21 K21
 refine condE hE rfl (fun hc23 hE => ?_) (fun hc23 hE => ?_)
 ·refine seqK fun K24 hK24 => ?_
  refine region ?_
  refine s0 moveA rfl ?_
  refine s0 moveA rfl ?_
  obtain ⟨x25, gx25, hE⟩ := bindO_some hE
  refine s0 (callP rfl rfl (fun H => Z21_walk gx25 H)) rfl ?_
  refine s0 assignA rfl ?_
  refine nil ?_
  refine hK24 _ ?_
  clear hK24 K24
  refine seqK fun K26 hK26 => ?_
  refine seqK fun K27 hK27 => ?_
  refine region ?_
  refine s0 moveA rfl ?_
  refine s0 moveA rfl ?_
  obtain ⟨x28, gx28, hE⟩ := bindO_some hE
  refine s0 (subM rfl rfl gx28) rfl ?_
  refine s0 (binI rfl rfl rfl) rfl ?_
  refine nil ?_
  refine hK27 _ ?_
  clear hK27 K27
  refine condE hE rfl (fun hc29 hE => ?_) (fun hc29 hE => ?_)
  ·refine seqK fun K30 hK30 => ?_
   refine region ?_
   refine s0 (build Tryd.tab_ok rfl rfl rfl rfl rfl rfl) rfl ?_
   refine sLn (storeLFA (TK rfl) rfl rfl rfl rfl rfl) ?_
   refine s0 assignA rfl ?_
   refine s0 assignA rfl ?_
   refine nil ?_
   refine hK30 _ ?_
   clear hK30 K30
   refine AWp.ret ?_
   repeat (first | refine xBlock_ret ?_ | refine xThen_ret ?_)
   obtain rfl := Option.some.inj hE
   refine retQ.retF H rfl ⟨rfl, rfl⟩ ?_
   exact (fun _ _ h => h)
  refine AWp.skip ?_
  refine hK26 _ ?_
  clear hK26 K26
  refine seqK fun K31 hK31 => ?_
  refine region ?_
  refine s0 moveA rfl ?_
  refine s0 moveA rfl ?_
  refine s0 moveA rfl ?_
  obtain ⟨x32, gx32, hE⟩ := bindO_some hE
  refine s0 (cutM (l := (some a1)) (r := (some x25)) (TK rfl) rfl rfl rfl rfl (by simp) gx32) rfl ?_
  refine s0 moveA rfl ?_
  refine s0 (build Tryd.tab_ok rfl rfl rfl rfl rfl rfl) rfl ?_
  refine s0 moveA rfl ?_
  refine sLn (storeLFA (TK rfl) rfl rfl rfl rfl rfl) ?_
  refine s0 assignA rfl ?_
  refine s0 assignA rfl ?_
  refine nil ?_
  refine hK31 _ ?_
  clear hK31 K31
  refine AWp.ret ?_
  repeat (first | refine xBlock_ret ?_ | refine xThen_ret ?_)
  obtain rfl := Option.some.inj hE
  refine retQ.retF H rfl ⟨rfl, rfl⟩ ?_
  exact (fun _ _ h => h)
 refine AWp.skip ?_
 refine hK20 _ ?_
 clear hK20 K20
 refine seqK fun K33 hK33 => ?_
 refine seqK fun K34 hK34 => ?_
 refine region ?_
 refine s0 moveA rfl ?_
 obtain ⟨x35, gx35, hE⟩ := bindO_some hE
 refine s0 (callP rfl rfl (fun H => Z15_walk gx35 H)) rfl ?_
 refine s0 moveA rfl ?_
 refine gC rfl rfl (fun hC => moveA) rfl ?_
 refine gC rfl rfl (fun hC => ungdA (k := 70) rfl (binI rfl rfl rfl)) rfl ?_
 refine s0 (pickOrA rfl rfl rfl) rfl ?_
 refine nil ?_
 refine hK34 _ ?_
 clear hK34 K34
 refine condE hE rfl (fun hc36 hE => ?_) (fun hc36 hE => ?_)
 ·refine seqK fun K37 hK37 => ?_
  refine region ?_
  refine s0 moveA rfl ?_
  refine s0 moveA rfl ?_
  obtain ⟨x38, gx38, hE⟩ := bindO_some hE
  refine s0 (addM rfl rfl gx38) rfl ?_
  obtain ⟨x39, gx39, hE⟩ := bindO_some hE
  refine s0 (callP rfl rfl (fun H => Z21_walk gx39 H)) rfl ?_
  refine s0 assignA rfl ?_
  refine nil ?_
  refine hK37 _ ?_
  clear hK37 K37
  refine seqK fun K40 hK40 => ?_
  refine region ?_
  refine s0 moveA rfl ?_
  refine s0 moveA rfl ?_
  refine s0 moveA rfl ?_
  obtain ⟨x41, gx41, hE⟩ := bindO_some hE
  refine s0 (cutM (l := (some a1)) (r := (some x39)) (TK rfl) rfl rfl rfl rfl (by simp) gx41) rfl ?_
  obtain ⟨x42, gx42, hE⟩ := bindO_some hE
  refine s0 (callP rfl rfl (fun H => Z7_walk gx42 H)) rfl ?_
  refine s0 moveA rfl ?_
  refine s0 (extract rfl rfl) rfl ?_
  refine s0 (extract rfl rfl) rfl ?_
  refine s0 assignA rfl ?_
  refine s0 assignA rfl ?_
  refine nil ?_
  refine hK40 _ ?_
  clear hK40 K40
  refine seqK fun K43 hK43 => ?_
  refine region ?_
  refine s0 moveA rfl ?_
  refine s0 moveA rfl ?_
  refine s0 moveA rfl ?_
  obtain ⟨x44, gx44, hE⟩ := bindO_some hE
  refine s0 (cutM (l := (some a1)) (r := (some x39)) (TK rfl) rfl rfl rfl rfl (by simp) gx44) rfl ?_
  refine s0 moveA rfl ?_
  refine s0 (build Tryd.tab_ok rfl rfl rfl rfl rfl rfl) rfl ?_
  refine s0 moveA rfl ?_
  refine s0 moveA rfl ?_
  refine sLn (storeLFA (TK rfl) rfl rfl rfl rfl rfl) ?_
  refine s0 assignA rfl ?_
  refine s0 assignA rfl ?_
  refine nil ?_
  refine hK43 _ ?_
  clear hK43 K43
  refine AWp.ret ?_
  repeat (first | refine xBlock_ret ?_ | refine xThen_ret ?_)
  obtain rfl := Option.some.inj hE
  refine retQ.retF H rfl ⟨rfl, rfl⟩ ?_
  exact (fun _ _ h => h)
 refine AWp.skip ?_
 refine hK33 _ ?_
 clear hK33 K33
 refine seqK fun K45 hK45 => ?_
 refine seqK fun K46 hK46 => ?_
 refine region ?_
 refine s0 moveA rfl ?_
 refine s0 (binI rfl rfl rfl) rfl ?_
 refine nil ?_
 refine hK46 _ ?_
 clear hK46 K46
 refine condE hE rfl (fun hc47 hE => ?_) (fun hc47 hE => ?_)
 ·refine seqK fun K48 hK48 => ?_
  refine region ?_
  refine s0 moveA rfl ?_
  refine s0 moveA rfl ?_
  obtain ⟨x49, gx49, hE⟩ := bindO_some hE
  refine s0 (callP rfl rfl (fun H => Z14_walk gx49 H)) rfl ?_
  refine s0 assignA rfl ?_
  refine nil ?_
  refine hK48 _ ?_
  clear hK48 K48
  refine seqK fun K50 hK50 => ?_
  refine seqK fun K51 hK51 => ?_
  refine region ?_
  refine s0 moveA rfl ?_
  refine s0 (binI rfl rfl rfl) rfl ?_
  refine nil ?_
  refine hK51 _ ?_
  clear hK51 K51
  refine condE hE rfl (fun hc52 hE => ?_) (fun hc52 hE => ?_)
  ·refine seqK fun K53 hK53 => ?_
   refine region ?_
   refine s0 (build Tryd.tab_ok rfl rfl rfl rfl rfl rfl) rfl ?_
   refine sLn (storeLFA (TK rfl) rfl rfl rfl rfl rfl) ?_
   refine s0 assignA rfl ?_
   refine s0 assignA rfl ?_
   refine nil ?_
   refine hK53 _ ?_
   clear hK53 K53
   refine AWp.ret ?_
   repeat (first | refine xBlock_ret ?_ | refine xThen_ret ?_)
   obtain rfl := Option.some.inj hE
   refine retQ.retF H rfl ⟨rfl, rfl⟩ ?_
   exact (fun _ _ h => h)
  refine AWp.skip ?_
  refine hK50 _ ?_
  clear hK50 K50
  refine seqK fun K54 hK54 => ?_
  refine region ?_
  refine s0 moveA rfl ?_
  refine s0 moveA rfl ?_
  refine s0 moveA rfl ?_
  obtain ⟨x55, gx55, hE⟩ := bindO_some hE
  refine s0 (cutM (l := (some a1)) (r := (some x49)) (TK rfl) rfl rfl rfl rfl (by simp) gx55) rfl ?_
  obtain ⟨x56, gx56, hE⟩ := bindO_some hE
  refine s0 (callP rfl rfl (fun H => Z8_walk gx56 H)) rfl ?_
  refine s0 moveA rfl ?_
  refine s0 (extract rfl rfl) rfl ?_
  refine s0 (extract rfl rfl) rfl ?_
  refine s0 assignA rfl ?_
  refine s0 assignA rfl ?_
  refine nil ?_
  refine hK54 _ ?_
  clear hK54 K54
  refine seqK fun K57 hK57 => ?_
  refine region ?_
  refine s0 moveA rfl ?_
  refine s0 moveA rfl ?_
  refine s0 (build Tryd.tab_ok rfl rfl rfl rfl rfl rfl) rfl ?_
  refine s0 moveA rfl ?_
  refine s0 moveA rfl ?_
  refine sLn (storeLFA (TK rfl) rfl rfl rfl rfl rfl) ?_
  refine s0 assignA rfl ?_
  refine s0 assignA rfl ?_
  refine nil ?_
  refine hK57 _ ?_
  clear hK57 K57
  refine AWp.ret ?_
  repeat (first | refine xBlock_ret ?_ | refine xThen_ret ?_)
  obtain rfl := Option.some.inj hE
  refine retQ.retF H rfl ⟨rfl, rfl⟩ ?_
  exact (fun _ _ h => h)
 refine AWp.skip ?_
 refine hK45 _ ?_
 clear hK45 K45
 refine seqK fun K58 hK58 => ?_
 refine region ?_
 refine s0 (build Tryd.tab_ok rfl rfl rfl rfl rfl rfl) rfl ?_
 refine sLn (storeLFA (TK rfl) rfl rfl rfl rfl rfl) ?_
 refine s0 assignA rfl ?_
 refine s0 assignA rfl ?_
 refine nil ?_
 refine hK58 _ ?_
 clear hK58 K58
 refine AWp.ret ?_
 repeat (first | refine xBlock_ret ?_ | refine xThen_ret ?_)
 obtain rfl := Option.some.inj hE
 refine retQ.retF H rfl ⟨rfl, rfl⟩ ?_
 exact (fun _ _ h => h)
def Z13_j10 (a0 : Bs)  (s5_11 : (Sl R04_Token)) : Option ((Sl R04_Token) × Int × Int) := (appC 32 s5_11 (⟨false, [(R04_Token.mk (5 : Int) ([] : Bs) ((a0.length : Nat) : Int))]⟩ : Sl R04_Token)).bind fun x14 => some (x14, (0 : Int), (0 : Int))
def Z13_l16 (a0 : Bs)  : Nat → (Sl R04_Token) → Int → Option ((Sl R04_Token) × Int × Int)
 | 0, _, _ => none
 | n16 + 1, s5_17, s6_18 => bif (decide (s6_18 < ((a0.length : Nat) : Int))) then ((Z17 a0 s6_18).bind fun x24 => bif (!decide (x24.2.2 = (0 : Int))) then (some ((Sl.nil : Sl R04_Token), s6_18, x24.2.2)) else ((appC 32 s5_17 (⟨false, [x24.1]⟩ : Sl R04_Token)).bind fun x30 => (Z19 a0 x24.2.1).bind fun x31 => (Z13_l16 a0 n16) x30 x31)) else (Z13_j10 a0  s5_17)
def Z13 (a0 : Bs) : Option ((Sl R04_Token) × Int × Int) := bif (decide ((65536 : Int) < ((a0.length : Nat) : Int))) then (some ((Sl.nil : Sl R04_Token), (65536 : Int), (4 : Int))) else ((Z19 a0 (0 : Int)).bind fun x9 => Z13_l16 a0 F0 (Sl.nil : Sl R04_Token) x9)
theorem Z13_walk {a0 : Bs}   {r : ((Sl R04_Token) × Int × Int)} (hE : Z13 a0 = some r) (H : Heap)  : ACalls Tryd.prog 14 [.d (.str a0)] H fun v h' => v = .tup [.d (Sl.d 3 R04_Token.c none r.1), .d (.int .i64 r.2.1), .d (.int .i64 r.2.2)] ∧ h' = H := by
 unfold Z13 at hE
 refine ACalls.of_wp (fn := Tryd.f14) (c := _) Tryd.tab_ok (fun _ _ => Tryd.call14 _ _) Tryd.func14 rfl (n := 44) rfl (rs := [.tmp 2, .tmp 3, .tmp 4]) rfl rfl ?_
 refine AWp.tok 3 fun tk1 htk1 => ?_
 refine seqK fun K1 hK1 => ?_
 refine region ?_
 refine s0 (assignNil (k' := 3) rfl) rfl ?_
 refine s0 assignA rfl ?_
 refine s0 assignA rfl ?_
 refine nil ?_
 refine hK1 _ ?_
 clear hK1 K1
 refine seqK fun K2 hK2 => ?_
 refine seqK fun K3 hK3 => ?_
 refine region ?_
 refine s0 moveA rfl ?_
 refine sLenS (TK rfl) rfl rfl rfl rfl fun hL4 => ?_
 refine s0 (binI rfl rfl rfl) rfl ?_
 refine nil ?_
 refine hK3 _ ?_
 clear hK3 K3
 refine condE hE rfl (fun hc5 hE => ?_) (fun hc5 hE => ?_)
 ·refine seqK fun K6 hK6 => ?_
  refine region ?_
  refine s0 (assignNil (k' := 3) rfl) rfl ?_
  refine s0 assignA rfl ?_
  refine s0 assignA rfl ?_
  refine nil ?_
  refine hK6 _ ?_
  clear hK6 K6
  refine AWp.ret ?_
  repeat (first | refine xBlock_ret ?_ | refine xThen_ret ?_)
  obtain rfl := Option.some.inj hE
  refine retQ.retF H rfl ⟨rfl, rfl⟩ ?_
  first | exact Heap.sub_set htk1 | (simp only [Heap.set_set]; exact Heap.sub_set htk1)
 refine AWp.skip ?_
 refine hK2 _ ?_
 clear hK2 K2
 refine seqK fun K7 hK7 => ?_
 refine region ?_
 refine s0 assignA rfl ?_
 refine nil ?_
 refine hK7 _ ?_
 clear hK7 K7
 refine AWp.nilTok 5 3 tk1 rfl hpG ?_
 refine seqK fun K8 hK8 => ?_
 refine region ?_
 refine s0 moveA rfl ?_
 obtain ⟨x9, gx9, hE⟩ := bindO_some hE
 refine s0 (callP rfl rfl (fun H => Z19_walk gx9 H)) rfl ?_
 refine s0 assignA rfl ?_
 refine nil ?_
 refine hK8 _ ?_
 clear hK8 K8
 refine seqJH (KeepsT.A (k := 0) KeepsT.nil) (fun (z : (Sl R04_Token)) => [(5, .a (.d (Sl.d 3 R04_Token.c (some tk1) z)))]) (fun z => (H.set tk1 (some (.tok 3 z.l.length)))) (fun z => Z13_j10 a0 z = some r) ?_ ?_
 ·intro K10 hK10
  refine block ?_
  refine loopH (KeepsT.A (k := 0) KeepsT.nil) (fun (z : Nat × (Sl R04_Token) × Int) => [(5, .a (.d (Sl.d 3 R04_Token.c (some tk1) z.2.1))), (6, .a (.d (.int .i64 z.2.2)))]) (fun z => (H.set tk1 (some (.tok 3 z.2.1.l.length)))) (fun z => z.1) (fun z => Z13_l16 a0 z.1 z.2.1 z.2.2 = some r) (F0, (Sl.nil : Sl R04_Token), x9) hE Weak.toA ?_
  rintro ⟨n16, s5_17, s6_18⟩ hE K16 hK16
  try dsimp only at hE
  cases n16 with
  | zero => cases hE
  | succ n16 =>
    rw [Z13_l16] at hE
    refine seqK fun K19 hK19 => ?_
    refine seqK fun K20 hK20 => ?_
    refine region ?_
    refine s0 moveA rfl ?_
    refine s0 moveA rfl ?_
    refine sLenS (TK rfl) rfl rfl rfl rfl fun hL21 => ?_
    refine s0 (binI rfl rfl rfl) rfl ?_
    refine nil ?_
    refine hK20 _ ?_
    clear hK20 K20
    refine condE hE rfl (fun hc22 hE => ?_) (fun hc22 hE => ?_)
    ·refine AWp.skip ?_
     refine hK19 _ ?_
     clear hK19 K19
     refine block ?_
     refine seqK fun K23 hK23 => ?_
     refine region ?_
     refine s0 moveA rfl ?_
     refine s0 moveA rfl ?_
     obtain ⟨x24, gx24, hE⟩ := bindO_some hE
     refine s0 (callP rfl rfl (fun H => Z17_walk gx24 H)) rfl ?_
     refine s0 moveA rfl ?_
     refine s0 (extract rfl rfl) rfl ?_
     refine s0 (extract rfl rfl) rfl ?_
     refine s0 (extract rfl rfl) rfl ?_
     refine sL (allocLA (TK rfl) rfl) rfl ?_
     refine sLn (storeLFA (TK rfl) rfl rfl rfl rfl rfl) ?_
     refine s0 assignA rfl ?_
     refine s0 assignA rfl ?_
     refine nil ?_
     refine hK23 _ ?_
     clear hK23 K23
     refine freezeA 7 _ rfl (Keeps.c (k := 0) (by conv => lhs; whnf) (by rfl) (Keeps.c (k := 5) (by conv => lhs; whnf) (by rfl) (Keeps.c (k := 6) (by conv => lhs; whnf) (by rfl) (Keeps.c (k := 8) (by conv => lhs; whnf) (by rfl) (Keeps.c (k := 9) (by conv => lhs; whnf) (by rfl) Keeps.nil))))) ?_
     refine seqK fun K25 hK25 => ?_
     refine seqK fun K26 hK26 => ?_
     refine region ?_
     refine s0 moveA rfl ?_
     refine s0 (binI rfl rfl rfl) rfl ?_
     refine nil ?_
     refine hK26 _ ?_
     clear hK26 K26
     refine condE hE rfl (fun hc27 hE => ?_) (fun hc27 hE => ?_)
     ·refine seqK fun K28 hK28 => ?_
      refine region ?_
      refine s0 moveA rfl ?_
      refine s0 moveA rfl ?_
      refine s0 (assignNil (k' := 3) rfl) rfl ?_
      refine s0 assignA rfl ?_
      refine s0 assignA rfl ?_
      refine nil ?_
      refine hK28 _ ?_
      clear hK28 K28
      refine AWp.ret ?_
      repeat (first | refine xBlock_ret ?_ | refine xThen_ret ?_)
      obtain rfl := Option.some.inj hE
      refine retQ.retF H rfl ⟨rfl, rfl⟩ ?_
      first | exact Heap.sub_set htk1 | (simp only [Heap.set_set]; exact Heap.sub_set htk1)
     refine AWp.skip ?_
     refine hK25 _ ?_
     clear hK25 K25
     refine seqK fun K29 hK29 => ?_
     refine region ?_
     refine s0 moveA rfl ?_
     refine s0 (loadV (TK rfl) rfl rfl rfl) rfl ?_
     refine s0 (buildSlice (TK rfl) rfl (TK rfl) rfl rfl rfl rfl rfl rfl) rfl ?_
     obtain ⟨x30, gx30, hE⟩ := bindO_some hE
     refine sH (appM (f := R04_Token.c) (TK rfl) rfl (TK rfl) (TK rfl) ⟨_, rfl⟩ rfl rfl (by decide) rfl rfl rfl rfl hpG rfl gx30) rfl ?_
     refine AOps.heq (h' := (H.set tk1 (some (.tok 3 x30.l.length)))) (by first | rfl | (rw [Heap.set_set]; rfl) | (funext n_; simp only [Heap.set]; (repeat' split) <;> first | rfl | (exfalso; simp_all; done) | (simp_all; done))) ?_
     refine s0 assignA rfl ?_
     refine nil ?_
     refine hK29 _ ?_
     clear hK29 K29
     refine region ?_
     refine s0 moveA rfl ?_
     refine s0 moveA rfl ?_
     obtain ⟨x31, gx31, hE⟩ := bindO_some hE
     refine s0 (callP rfl rfl (fun H => Z19_walk gx31 H)) rfl ?_
     refine s0 assignA rfl ?_
     refine nil ?_
     exact hK16 _ (n16, x30, x31) Weak.toA hE (Nat.lt_succ_self _)
    refine AWp.exit ?_
    exact hK10 _ s5_17 Weak.toA hE
 rintro s5_11 hE
 try dsimp only at hE
 unfold Z13_j10 at hE
 refine seqK fun K12 hK12 => ?_
 refine region ?_
 refine s0 moveA rfl ?_
 refine s0 moveA rfl ?_
 refine sLenS (TK rfl) rfl rfl rfl rfl fun hL13 => ?_
 refine s0 (build Tryd.tab_ok rfl rfl rfl rfl rfl rfl) rfl ?_
 refine s0 (buildSlice (TK rfl) rfl (TK rfl) rfl rfl rfl rfl rfl rfl) rfl ?_
 obtain ⟨x14, gx14, hE⟩ := bindO_some hE
 refine sH (appM (f := R04_Token.c) (TK rfl) rfl (TK rfl) (TK rfl) ⟨_, rfl⟩ rfl rfl (by decide) rfl rfl rfl rfl hpG rfl gx14) rfl ?_
 refine AOps.heq (h' := (H.set tk1 (some (.tok 3 x14.l.length)))) (by first | rfl | (rw [Heap.set_set]; rfl) | (funext n_; simp only [Heap.set]; (repeat' split) <;> first | rfl | (exfalso; simp_all; done) | (simp_all; done))) ?_
 refine s0 assignA rfl ?_
 refine nil ?_
 refine hK12 _ ?_
 clear hK12 K12
 refine seqK fun K15 hK15 => ?_
 refine region ?_
 refine s0 moveA rfl ?_
 refine s0 assignA rfl ?_
 refine s0 assignA rfl ?_
 refine s0 assignA rfl ?_
 refine nil ?_
 refine hK15 _ ?_
 clear hK15 K15
 refine AWp.dropTok 2 rfl ?_
 refine AWp.ret ?_
 repeat (first | refine xBlock_ret ?_ | refine xThen_ret ?_)
 obtain rfl := Option.some.inj hE
 refine retQ.retF H rfl ⟨rfl, rfl⟩ ?_
 first | exact Heap.sub_set htk1 | (simp only [Heap.set_set]; exact Heap.sub_set htk1)
theorem eqt_36 : eqTab Tryd.prog 36 = some [.int .i64, .str, .int .i64] := by kernel_rfl
def Z6_j8   : Option Bool := some true
def Z6_l11 (a0 : (Sl R04_Token)) (a1 : (Sl R04_Token))  : Nat → Nat → Option Bool
 | 0, _ => none
 | n11 + 1, s5_12 => bif (decide (((s5_12 : Nat) : Int) < ((a0.l.length : Nat) : Int))) then ((a0.l[s5_12]?).bind fun x19 => (a1.l[s5_12]?).bind fun x20 => bif (!(decide (x19.FKind = x20.FKind) && ((x19.FText == x20.FText) && (decide (x19.FAt = x20.FAt) && true)))) then (some false) else ((Z6_l11 a0 a1 n11) (s5_12 + 1))) else (Z6_j8   )
def Z6 (a0 : (Sl R04_Token)) (a1 : (Sl R04_Token)) : Option Bool := bif (!decide (((a0.l.length : Nat) : Int) = ((a1.l.length : Nat) : Int))) then (some false) else (Z6_l11 a0 a1 (a0.l.length + 1) 0)
theorem Z6_walk {a0 : (Sl R04_Token)} {a1 : (Sl R04_Token)} {w0 : Option Nat} {w1 : Option Nat}  {r : Bool} (hE : Z6 a0 a1 = some r) (H : Heap)  : ACalls Tryd.prog 15 [.d (Sl.d 3 R04_Token.c w0 a0), .d (Sl.d 3 R04_Token.c w1 a1)] H fun v h' => v = .a (.d (.bool r)) ∧ h' = H := by
 unfold Z6 at hE
 refine ACalls.of_wp (fn := Tryd.f15) (c := _) Tryd.tab_ok (fun _ _ => Tryd.call15 _ _) Tryd.func15 rfl (n := 26) rfl (rs := [.tmp 4]) rfl rfl ?_
 refine seqK fun K1 hK1 => ?_
 refine region ?_
 refine s0 assignA rfl ?_
 refine nil ?_
 refine hK1 _ ?_
 clear hK1 K1
 refine seqK fun K2 hK2 => ?_
 refine seqK fun K3 hK3 => ?_
 refine region ?_
 refine s0 moveA rfl ?_
 refine sLen (f := R04_Token.c) (s := a0) (TK rfl) rfl rfl rfl rfl fun hL4 => ?_
 refine s0 moveA rfl ?_
 refine sLen (f := R04_Token.c) (s := a1) (TK rfl) rfl rfl rfl rfl fun hL5 => ?_
 refine s0 (binI rfl rfl rfl) rfl ?_
 refine nil ?_
 refine hK3 _ ?_
 clear hK3 K3
 refine condE hE rfl (fun hc6 hE => ?_) (fun hc6 hE => ?_)
 ·refine seqK fun K7 hK7 => ?_
  refine region ?_
  refine s0 assignA rfl ?_
  refine nil ?_
  refine hK7 _ ?_
  clear hK7 K7
  refine AWp.ret ?_
  repeat (first | refine xBlock_ret ?_ | refine xThen_ret ?_)
  obtain rfl := Option.some.inj hE
  refine retQ.retF H rfl ⟨rfl, rfl⟩ ?_
  exact (fun _ _ h => h)
 refine AWp.skip ?_
 refine hK2 _ ?_
 clear hK2 K2
 refine seqJH KeepsT.nil (fun (z : Unit) => []) (fun z => H) (fun z => Z6_j8  = some r) ?_ ?_
 ·intro K8 hK8
  refine seqK fun K10 hK10 => ?_
  refine region ?_
  refine s0 assignA rfl ?_
  refine nil ?_
  refine hK10 _ ?_
  clear hK10 K10
  refine block ?_
  refine loopH (KeepsT.A (k := 0) (KeepsT.A (k := 1) KeepsT.nil)) (fun (z : Nat × Nat) => [(5, .a (.d (.int .i64 ((z.2 : Nat) : Int))))]) (fun z => H) (fun z => z.1) (fun z => Z6_l11 a0 a1 z.1 z.2 = some r) ((a0.l.length + 1), 0) hE Weak.toA ?_
  rintro ⟨n11, s5_12⟩ hE K11 hK11
  try dsimp only at hE
  cases n11 with
  | zero => cases hE
  | succ n11 =>
    rw [Z6_l11] at hE
    refine seqK fun K13 hK13 => ?_
    refine seqK fun K14 hK14 => ?_
    refine region ?_
    refine s0 moveA rfl ?_
    refine s0 moveA rfl ?_
    refine sLen (f := R04_Token.c) (s := a0) (TK rfl) rfl rfl rfl rfl fun hL15 => ?_
    refine s0 (binI rfl rfl rfl) rfl ?_
    refine nil ?_
    refine hK14 _ ?_
    clear hK14 K14
    refine condE hE rfl (fun hc16 hE => ?_) (fun hc16 hE => ?_)
    ·try dsimp only at hc16
     have hf16 := of_decide_eq_true hc16
     refine AWp.skip ?_
     refine hK13 _ ?_
     clear hK13 K13
     refine seqK fun K17 hK17 => ?_
     refine block ?_
     refine seqK fun K18 hK18 => ?_
     refine AWp.draw rfl ?_
     refine DOps.s0 moveA rfl ?_
     refine DOps.s0 moveA rfl ?_
     obtain ⟨x19, gx19, hE⟩ := bindO_some hE
     refine DOps.s0 (idxMn (f := R04_Token.c) (n := s5_12) (TK rfl) rfl (TK rfl) rfl rfl rfl gx19) rfl ?_
     refine DOps.s0 (loadV (TK rfl) rfl rfl rfl) rfl ?_
     refine DOps.s0 moveA rfl ?_
     refine DOps.s0 moveA rfl ?_
     obtain ⟨x20, gx20, hE⟩ := bindO_some hE
     refine DOps.s0 (idxMn (f := R04_Token.c) (n := s5_12) (TK rfl) rfl (TK rfl) rfl rfl rfl gx20) rfl ?_
     refine DOps.s0 (loadV (TK rfl) rfl rfl rfl) rfl ?_
     refine DOps.s0 (neStruct eqt_36 rfl rfl rfl rfl) rfl ?_
     refine DOps.nil (by decide +kernel) ?_
     refine hK18 _ ?_
     clear hK18 K18
     refine condE hE rfl (fun hc21 hE => ?_) (fun hc21 hE => ?_)
     ·refine seqK fun K22 hK22 => ?_
      refine region ?_
      refine s0 assignA rfl ?_
      refine nil ?_
      refine hK22 _ ?_
      clear hK22 K22
      refine AWp.ret ?_
      repeat (first | refine xBlock_ret ?_ | refine xThen_ret ?_)
      obtain rfl := Option.some.inj hE
      refine retQ.retF H rfl ⟨rfl, rfl⟩ ?_
      exact (fun _ _ h => h)
     refine AWp.skip ?_
     refine hK17 _ ?_
     clear hK17 K17
     refine region ?_
     refine s0 moveA rfl ?_
     refine s0 (addI rfl rfl (by first | omega | (dsimp only; omega) | (simp at *; omega)) (by first | omega | (dsimp only; omega) | (simp at *; omega))) rfl ?_
     refine s0 assignA rfl ?_
     refine nil ?_
     exact hK11 _ (n11, (s5_12 + 1)) Weak.toA hE (Nat.lt_succ_self _)
    refine AWp.exit ?_
    exact hK8 _ () Weak.toA hE
 rintro _ hE
 try dsimp only at hE
 unfold Z6_j8 at hE
 refine seqK fun K9 hK9 => ?_
 refine region ?_
 refine s0 assignA rfl ?_
 refine nil ?_
 refine hK9 _ ?_
 clear hK9 K9
 refine AWp.ret ?_
 repeat (first | refine xBlock_ret ?_ | refine xThen_ret ?_)
 obtain rfl := Option.some.inj hE
 refine retQ.retF H rfl ⟨rfl, rfl⟩ ?_
 exact (fun _ _ h => h)
def Z5_j3  (s3_4 : (Sl R04_Token)) : Option (Sl R04_Token) := some s3_4
def Z5_l7 (a0 : (Sl Token_Token))  : Nat → (Sl R04_Token) → Nat → Option (Sl R04_Token)
 | 0, _, _ => none
 | n7 + 1, s3_8, s4_9 => bif (decide (((s4_9 : Nat) : Int) < ((a0.l.length : Nat) : Int))) then ((a0.l[s4_9]?).bind fun x15 => (a0.l[s4_9]?).bind fun x16 => (a0.l[s4_9]?).bind fun x17 => (appC 32 s3_8 (⟨false, [(R04_Token.mk x15.FKind x16.FText x17.FAt)]⟩ : Sl R04_Token)).bind fun x18 => (Z5_l7 a0 n7) x18 (s4_9 + 1)) else (Z5_j3   s3_8)
def Z5 (a0 : (Sl Token_Token)) : Option (Sl R04_Token) := Z5_l7 a0 (a0.l.length + 1) (Sl.nil : Sl R04_Token) 0
theorem Z5_walk {a0 : (Sl Token_Token)} {w0 : Option Nat}  {r : (Sl R04_Token)} (hE : Z5 a0 = some r) (H : Heap)  : ACalls Tryd.prog 16 [.d (Sl.d 3 Token_Token.c w0 a0)] H fun v h' => v = .a (.d (Sl.d 3 R04_Token.c none r)) ∧ h' = H := by
 unfold Z5 at hE
 refine ACalls.of_wp (fn := Tryd.f16) (c := _) Tryd.tab_ok (fun _ _ => Tryd.call16 _ _) Tryd.func16 rfl (n := 31) rfl (rs := [.tmp 2]) rfl rfl ?_
 refine AWp.tok 3 fun tk1 htk1 => ?_
 refine seqK fun K1 hK1 => ?_
 refine region ?_
 refine s0 (assignNil (k' := 3) rfl) rfl ?_
 refine nil ?_
 refine hK1 _ ?_
 clear hK1 K1
 refine seqK fun K2 hK2 => ?_
 refine region ?_
 refine s0 assignA rfl ?_
 refine nil ?_
 refine hK2 _ ?_
 clear hK2 K2
 refine AWp.nilTok 3 3 tk1 rfl hpG ?_
 refine seqJH KeepsT.nil (fun (z : (Sl R04_Token)) => [(3, .a (.d (Sl.d 3 R04_Token.c (some tk1) z)))]) (fun z => (H.set tk1 (some (.tok 3 z.l.length)))) (fun z => Z5_j3 z = some r) ?_ ?_
 ·intro K3 hK3
  refine seqK fun K6 hK6 => ?_
  refine region ?_
  refine s0 assignA rfl ?_
  refine nil ?_
  refine hK6 _ ?_
  clear hK6 K6
  refine block ?_
  refine loopH (KeepsT.A (k := 0) KeepsT.nil) (fun (z : Nat × (Sl R04_Token) × Nat) => [(3, .a (.d (Sl.d 3 R04_Token.c (some tk1) z.2.1))), (4, .a (.d (.int .i64 ((z.2.2 : Nat) : Int))))]) (fun z => (H.set tk1 (some (.tok 3 z.2.1.l.length)))) (fun z => z.1) (fun z => Z5_l7 a0 z.1 z.2.1 z.2.2 = some r) ((a0.l.length + 1), (Sl.nil : Sl R04_Token), 0) hE Weak.toA ?_
  rintro ⟨n7, s3_8, s4_9⟩ hE K7 hK7
  try dsimp only at hE
  cases n7 with
  | zero => cases hE
  | succ n7 =>
    rw [Z5_l7] at hE
    refine seqK fun K10 hK10 => ?_
    refine seqK fun K11 hK11 => ?_
    refine region ?_
    refine s0 moveA rfl ?_
    refine s0 moveA rfl ?_
    refine sLen (f := Token_Token.c) (s := a0) (TK rfl) rfl rfl rfl rfl fun hL12 => ?_
    refine s0 (binI rfl rfl rfl) rfl ?_
    refine nil ?_
    refine hK11 _ ?_
    clear hK11 K11
    refine condE hE rfl (fun hc13 hE => ?_) (fun hc13 hE => ?_)
    ·try dsimp only at hc13
     have hf13 := of_decide_eq_true hc13
     refine AWp.skip ?_
     refine hK10 _ ?_
     clear hK10 K10
     refine seqK fun K14 hK14 => ?_
     refine block ?_
     refine AWp.draw rfl ?_
     refine DOps.s0 moveA rfl ?_
     refine DOps.s0 moveA rfl ?_
     refine DOps.s0 moveA rfl ?_
     obtain ⟨x15, gx15, hE⟩ := bindO_some hE
     refine DOps.s0 (idxMn (f := Token_Token.c) (n := s4_9) (TK rfl) rfl (TK rfl) rfl rfl rfl gx15) rfl ?_
     refine DOps.s0 (fieldVA (TK rfl) rfl rfl (TK rfl) rfl rfl) rfl ?_
     refine DOps.s0 (loadV (TK rfl) rfl rfl rfl) rfl ?_
     refine DOps.s0 moveA rfl ?_
     refine DOps.s0 moveA rfl ?_
     obtain ⟨x16, gx16, hE⟩ := bindO_some hE
     refine DOps.s0 (idxMn (f := Token_Token.c) (n := s4_9) (TK rfl) rfl (TK rfl) rfl rfl rfl gx16) rfl ?_
     refine DOps.s0 (fieldVA (TK rfl) rfl rfl (TK rfl) rfl rfl) rfl ?_
     refine DOps.s0 (loadV (TK rfl) rfl rfl rfl) rfl ?_
     refine DOps.s0 moveA rfl ?_
     refine DOps.s0 moveA rfl ?_
     obtain ⟨x17, gx17, hE⟩ := bindO_some hE
     refine DOps.s0 (idxMn (f := Token_Token.c) (n := s4_9) (TK rfl) rfl (TK rfl) rfl rfl rfl gx17) rfl ?_
     refine DOps.s0 (fieldVA (TK rfl) rfl rfl (TK rfl) rfl rfl) rfl ?_
     refine DOps.s0 (loadV (TK rfl) rfl rfl rfl) rfl ?_
     refine DOps.s0 (build Tryd.tab_ok rfl rfl rfl rfl rfl rfl) rfl ?_
     refine DOps.s0 (buildSlice (TK rfl) rfl (TK rfl) rfl rfl rfl rfl rfl rfl) rfl ?_
     obtain ⟨x18, gx18, hE⟩ := bindO_some hE
     refine DOps.sH (appM (f := R04_Token.c) (TK rfl) rfl (TK rfl) (TK rfl) ⟨_, rfl⟩ rfl rfl (by decide) rfl rfl rfl rfl hpG rfl gx18) rfl ?_
     refine DOps.heq (h' := (H.set tk1 (some (.tok 3 x18.l.length)))) (by first | rfl | (rw [Heap.set_set]; rfl) | (funext n_; simp only [Heap.set]; (repeat' split) <;> first | rfl | (exfalso; simp_all; done) | (simp_all; done))) ?_
     refine DOps.s0 assignA rfl ?_
     refine DOps.nil (by decide +kernel) ?_
     refine hK14 _ ?_
     clear hK14 K14
     refine region ?_
     refine s0 moveA rfl ?_
     refine s0 (addI rfl rfl (by first | omega | (dsimp only; omega) | (simp at *; omega)) (by first | omega | (dsimp only; omega) | (simp at *; omega))) rfl ?_
     refine s0 assignA rfl ?_
     refine nil ?_
     exact hK7 _ (n7, x18, (s4_9 + 1)) Weak.toA hE (Nat.lt_succ_self _)
    refine AWp.exit ?_
    exact hK3 _ s3_8 Weak.toA hE
 rintro s3_4 hE
 try dsimp only at hE
 unfold Z5_j3 at hE
 refine seqK fun K5 hK5 => ?_
 refine region ?_
 refine s0 moveA rfl ?_
 refine s0 assignA rfl ?_
 refine nil ?_
 refine hK5 _ ?_
 clear hK5 K5
 refine AWp.dropTok 2 rfl ?_
 refine AWp.ret ?_
 repeat (first | refine xBlock_ret ?_ | refine xThen_ret ?_)
 obtain rfl := Option.some.inj hE
 refine retQ.retF H rfl ⟨rfl, rfl⟩ ?_
 first | exact Heap.sub_set htk1 | (simp only [Heap.set_set]; exact Heap.sub_set htk1)
section
variable [IsLoud lou]
def Z2 (a0 : Bs) : Option Bool := (Z4 a0).bind fun x4 => bif x4 then ((Z3 ).bind fun x7 => some x7) else ((Z39 a0).bind fun x9 => (Z13 a0).bind fun x11 => (Z5 x9.1).bind fun x13 => (Z6 x13 x11.1).bind fun x14 => guardO (((x14 && (decide (x9.2.1 = x11.2.1))) && (decide (x9.2.2 = x11.2.2)))) (Z3 ) false fun x15 => some (((x14 && (decide (x9.2.1 = x11.2.1))) && (decide (x9.2.2 = x11.2.2))) && x15))
theorem Z2_walk {a0 : Bs} {oE : Ab.Obj} {gE : Nat} {r : Bool} (hE : Z2 a0 = some r) (H : Heap) (hgE : H gE = some oE) (hoE : IsErr Tryd.prog oE) : ACalls Tryd.prog 3 [.d (.str a0)] H fun v h' => v = .a (.d (.bool r)) ∧ h' = H := by
 unfold Z2 at hE
 refine ACalls.of_wp (fn := Tryd.f3) (c := _) Tryd.tab_ok (fun _ _ => Tryd.call3 _ _) Tryd.func3 rfl (n := 41) rfl (rs := [.tmp 2]) rfl rfl ?_
 refine seqK fun K1 hK1 => ?_
 refine region ?_
 refine s0 assignA rfl ?_
 refine nil ?_
 refine hK1 _ ?_
 clear hK1 K1
 refine seqK fun K2 hK2 => ?_
 refine seqK fun K3 hK3 => ?_
 refine region ?_
 refine s0 moveA rfl ?_
 obtain ⟨x4, gx4, hE⟩ := bindO_some hE
 refine s0 (callP rfl rfl (fun H => Z4_walk gx4 H)) rfl ?_
 refine nil ?_
 refine hK3 _ ?_
 clear hK3 K3
 refine condE hE rfl (fun hc5 hE => ?_) (fun hc5 hE => ?_)
 ·refine seqK fun K6 hK6 => ?_
  refine region ?_
  obtain ⟨x7, gx7, hE⟩ := bindO_some hE
  refine s0 (callR rfl rfl (Z3_walk (gE := gE) (oE := oE) gx7 _ hpG (by assumption))) rfl ?_
  refine s0 assignA rfl ?_
  refine nil ?_
  refine hK6 _ ?_
  clear hK6 K6
  refine AWp.ret ?_
  repeat (first | refine xBlock_ret ?_ | refine xThen_ret ?_)
  obtain rfl := Option.some.inj hE
  refine retQ.retF H rfl ⟨rfl, rfl⟩ ?_
  exact (fun _ _ h => h)
 refine AWp.skip ?_
 refine hK2 _ ?_
 clear hK2 K2
 refine seqK fun K8 hK8 => ?_
 refine region ?_
 refine s0 moveA rfl ?_
 obtain ⟨x9, gx9, hE⟩ := bindO_some hE
 refine s0 (callR rfl rfl (Z39_walk (gE := gE) (oE := oE) gx9 _ hpG (by assumption))) rfl ?_
 refine s0 moveA rfl ?_
 refine s0 (extract rfl rfl) rfl ?_
 refine s0 (extract rfl rfl) rfl ?_
 refine s0 (extract rfl rfl) rfl ?_
 refine s0 assignA rfl ?_
 refine s0 assignA rfl ?_
 refine s0 assignA rfl ?_
 refine nil ?_
 refine hK8 _ ?_
 clear hK8 K8
 refine seqK fun K10 hK10 => ?_
 refine region ?_
 refine s0 moveA rfl ?_
 obtain ⟨x11, gx11, hE⟩ := bindO_some hE
 refine s0 (callP rfl rfl (fun H => Z13_walk gx11 H)) rfl ?_
 refine s0 moveA rfl ?_
 refine s0 (extract rfl rfl) rfl ?_
 refine s0 (extract rfl rfl) rfl ?_
 refine s0 (extract rfl rfl) rfl ?_
 refine s0 assignA rfl ?_
 refine s0 assignA rfl ?_
 refine s0 assignA rfl ?_
 refine nil ?_
 refine hK10 _ ?_
 clear hK10 K10
 refine seqK fun K12 hK12 => ?_
 refine region ?_
 refine s0 moveA rfl ?_
 obtain ⟨x13, gx13, hE⟩ := bindO_some hE
 refine s0 (callP rfl rfl (fun H => Z5_walk gx13 H)) rfl ?_
 refine s0 moveA rfl ?_
 obtain ⟨x14, gx14, hE⟩ := bindO_some hE
 refine s0 (callP rfl rfl (fun H => Z6_walk gx14 H)) rfl ?_
 refine s0 moveA rfl ?_
 refine gC rfl rfl (fun hC => moveA) rfl ?_
 refine gC rfl rfl (fun hC => moveA) rfl ?_
 refine gC rfl rfl (fun hC => ungdA (k := 29) rfl (ungdA (k := 30) rfl (binI rfl rfl rfl))) rfl ?_
 refine s0 (pickAndA rfl rfl rfl) rfl ?_
 refine s0 moveA rfl ?_
 refine gC rfl rfl (fun hC => moveA) rfl ?_
 refine gC rfl rfl (fun hC => moveA) rfl ?_
 refine gC rfl rfl (fun hC => ungdA (k := 34) rfl (ungdA (k := 35) rfl (binI rfl rfl rfl))) rfl ?_
 refine s0 (pickAndA rfl rfl rfl) rfl ?_
 refine s0 moveA rfl ?_
 obtain ⟨x15, gx15, hE⟩ := guardO_some hE
 refine gC rfl rfl (fun hC => callR rfl rfl (Z3_walk (gE := gE) (oE := oE) (gx15 hC) _ hpG (by assumption))) rfl ?_
 refine s0 (pickAndA rfl rfl rfl) rfl ?_
 refine s0 assignA rfl ?_
 refine nil ?_
 refine hK12 _ ?_
 clear hK12 K12
 refine AWp.ret ?_
 repeat (first | refine xBlock_ret ?_ | refine xThen_ret ?_)
 obtain rfl := Option.some.inj hE
 refine retQ.retF H rfl ⟨rfl, rfl⟩ ?_
 exact (fun _ _ h => h)
end
end Go.Proofs

namespace Go.Proofs
open Go Go.Ab
def Z4_q (a0 : Bs) : Bool := ((decide ((2000 : Int) < ((a0.length : Nat) : Int))) && (decide (((a0.length : Nat) : Int) ≤ (65536 : Int))))
def Z0_q (a0 : Bs) (a1 : Bs) : Bool := on (bif (decide (((a1.length : Nat) : Int) ≤ ((a0.length : Nat) : Int))) then (List.take (a1.length) a0) else ([] : Bs)) fun x5 => ((decide (((a1.length : Nat) : Int) ≤ ((a0.length : Nat) : Int))) && ((x5 == a1)))
theorem Z0_eq (a0 : Bs) (a1 : Bs) : Z0 a0 a1 = some (Z0_q a0 a1) := by
 unfold Z0 Z0_q
 refine Q.guardT (fun hc => Q.cutC_take (by simp at hc; omega)) fun x5 hx_x5 => ?_
 all_goals rfl
def Z28_q (a0 : Bs) (a1 : Bs) : Bool := on (Z0_q a0 a1) fun x3 => x3
theorem Z28_eq (a0 : Bs) (a1 : Bs) : Z28 a0 a1 = some (Z28_q a0 a1) := by
 unfold Z28 Z28_q
 refine Q.bindP (Z0_eq _ _) fun x3 hx_x3 => ?_
 all_goals rfl
def Z1_q (a0 : Bs) (a1 : Bs) : Option Bs := on (Z0_q a0 a1) fun x4 => bif x4 then ((cutC a0 (some ((a1.length : Nat) : Int)) none).bind fun x8 => some x8) else (some a0)
theorem Z1_eq (a0 : Bs) (a1 : Bs) : Z1 a0 a1 = Z1_q a0 a1 := by
 unfold Z1 Z1_q
 refine Eq.trans ?_ (Q.some_bind _)
 refine Q.bindPO (Z0_eq _ _) fun x4 hx_x4 => ?_
 refine Q.condO ?_ ?_
 ·refine Q.bindO rfl fun x8 => ?_
  all_goals rfl
 all_goals rfl
def Z33_q (a0 : Bs) (a1 : Bs) : Option Bs := (Z1_q a0 a1).bind fun x3 => some x3
theorem Z33_eq (a0 : Bs) (a1 : Bs) : Z33 a0 a1 = Z33_q a0 a1 := by
 unfold Z33 Z33_q
 refine Eq.trans ?_ (Q.some_bind _)
 refine Q.bindO (Z1_eq _ _) fun x3 => ?_
 all_goals rfl
def Z34_q19  : List UInt8 → Unit ⊕ ((Int × Int))
 | [] => Sum.inl ()
 | h19 :: r19 => on (h19) fun x27 => on (bif !(decide (((x27.toNat : Nat) : Int) < (48 : Int))) then h19 else (0 : UInt8)) fun x28 => bif ((decide (((x27.toNat : Nat) : Int) < (48 : Int))) || (decide ((57 : Int) < ((x28.toNat : Nat) : Int)))) then (Sum.inr ((0 : Int), (3 : Int))) else (Z34_q19  (r19) )
theorem Z34_l19_qe {a0 : Bs} {x3 : Bs}  (Kb19 : (Unit ⊕ ((Int × Int))) → Option (Int × Int)) (hend : ∀ (n19 : Nat) (s29_20 : Nat), Z34_j9 a0   = Kb19 (Sum.inl ())) (hret : ∀ e : (Int × Int), some e = Kb19 (Sum.inr e)) : ∀ (n19 : Nat) (s29_20 : Nat), (0 < n19 ∧ x3.length < s29_20 + n19) → Z34_l19 a0 x3 n19 s29_20 = Kb19 (Z34_q19  (x3.drop s29_20) ) := by
 intro n19
 induction n19 with
 | zero => intro s29_20 hn; exact absurd hn.1 (by omega)
 | succ n19 ih19 =>
  intro s29_20 hn
  rw [Z34_l19]
  by_cases hlt : s29_20 < x3.length
  ·obtain ⟨h19, hh19⟩ : ∃ x, x3[s29_20]? = some x := ⟨_, List.getElem?_eq_getElem hlt⟩
   rw [Q.drop_of hh19, Z34_q19]
   refine Q.condT (Q.ltT hlt) ?_
   refine Q.bindP hh19 fun x27 hx_x27 => ?_
   refine Q.guardP hh19 fun x28 hx_x28 => ?_
   refine Q.condP ?_ ?_
   ·all_goals exact hret _
   all_goals exact ih19 _ ⟨by omega, by omega⟩
  rw [List.drop_of_length_le (by omega), Z34_q19]
  refine Q.condF (Q.ltF hlt) ?_
  exact hend n19 s29_20
def Z34_q (a0 : Bs) : Option (Int × Int) := (Z33_q a0 ([45] : Bs)).bind fun x3 => guardO (!((x3 == ([] : Bs)))) (x3[0]?) (0 : UInt8) fun x6 => bif (((x3 == ([] : Bs))) || ((decide (((x6.toNat : Nat) : Int) = (48 : Int))) && ((decide ((1 : Int) < ((x3.length : Nat) : Int))) || (decide ((1 : Int) < ((a0.length : Nat) : Int)))))) then (some ((0 : Int), (3 : Int))) else (on (Z34_q19  x3 ) fun o19 => match o19 with | Sum.inl _ => (on (()) fun _ => (Z22_q a0).bind fun x11 => bif x11.2 then (some ((0 : Int), (4 : Int))) else (some (x11.1, (0 : Int)))) | Sum.inr e19 => (some e19))
theorem Z34_eq (a0 : Bs) : Z34 a0 = Z34_q a0 := by
 unfold Z34 Z34_q
 refine Eq.trans ?_ (Q.some_bind _)
 refine Q.bindO (Z33_eq _ _) fun x3 => ?_
 refine Q.guardOO rfl fun x6 => ?_
 refine Q.condO ?_ ?_
 ·all_goals rfl
 refine Q.wrapPO fun Kb19 hKb19 => ?_
 refine Z34_l19_qe  Kb19 ?_ ?_ _ _ ⟨Nat.succ_pos _, by omega⟩
 ·intro n19 s29_20
  refine Eq.trans ?_ (hKb19 _).symm
  try dsimp only
  refine Q.wrapPO fun Kj9 hKj9 => ?_
  have hj9 : Z34_j9 a0  = Kj9 () := by
   refine Eq.trans ?_ (hKj9 _).symm
   unfold Z34_j9
   refine Q.bindO (Z22_eq _) fun x11 => ?_
   refine Q.condO ?_ ?_
   ·all_goals rfl
   all_goals rfl
  all_goals exact hj9
 intro e19
 refine Eq.trans ?_ (hKb19 _).symm
 try dsimp only
 all_goals rfl
def Z10_q (a0 : Int) : Bool := ((decide ((48 : Int) ≤ a0)) && (decide (a0 ≤ (57 : Int))))
theorem Z10_eq (a0 : Int) : Z10 a0 = some (Z10_q a0) := by
 unfold Z10 Z10_q
 all_goals rfl
def Z7_q47  : List UInt8 → Unit ⊕ ((Int × Int))
 | [] => Sum.inl ()
 | h47 :: r47 => on (h47) fun x55 => on (Z10_q ((x55.toNat : Nat) : Int)) fun x56 => bif (!x56) then (Sum.inr ((0 : Int), (3 : Int))) else (Z7_q47  (r47) )
theorem Z7_l47_qe {a0 : Bs} {x5 : UInt8} {s4_7 : Bs}  (Kb47 : (Unit ⊕ ((Int × Int))) → Option (Int × Int)) (hend : ∀ (n47 : Nat) (s6_48 : Nat), Z7_j14 a0 x5 s4_7   = Kb47 (Sum.inl ())) (hret : ∀ e : (Int × Int), some e = Kb47 (Sum.inr e)) : ∀ (n47 : Nat) (s6_48 : Nat), (0 < n47 ∧ s4_7.length < s6_48 + n47) → Z7_l47 a0 x5 s4_7 n47 s6_48 = Kb47 (Z7_q47  (s4_7.drop s6_48) ) := by
 intro n47
 induction n47 with
 | zero => intro s6_48 hn; exact absurd hn.1 (by omega)
 | succ n47 ih47 =>
  intro s6_48 hn
  rw [Z7_l47]
  by_cases hlt : s6_48 < s4_7.length
  ·obtain ⟨h47, hh47⟩ : ∃ x, s4_7[s6_48]? = some x := ⟨_, List.getElem?_eq_getElem hlt⟩
   rw [Q.drop_of hh47, Z7_q47]
   refine Q.condT (Q.ltT hlt) ?_
   refine Q.bindP hh47 fun x55 hx_x55 => ?_
   refine Q.bindP (Z10_eq _) fun x56 hx_x56 => ?_
   refine Q.condP ?_ ?_
   ·all_goals exact hret _
   all_goals exact ih47 _ ⟨by omega, by omega⟩
  rw [List.drop_of_length_le (by omega), Z7_q47]
  refine Q.condF (Q.ltF hlt) ?_
  exact hend n47 s6_48
def Z7_q28  : List UInt8 → Int → Option (Int ⊕ ((Int × Int)))
 | [], s7_29 => some (Sum.inl s7_29)
 | h28 :: r28, s7_29 => on (h28) fun x37 => (subC (IntKind.wrap .i64 ((x37.toNat : Nat) : Int)) (48 : Int)).bind fun x38 => (addC (-9223372036854775808 : Int) x38).bind fun x41 => bif (decide (s7_29 < (IntKind.wrap .i64 (Int.tdiv x41 (10 : Int))))) then (some (Sum.inr ((0 : Int), (4 : Int)))) else ((mulC (10 : Int) s7_29).bind fun x44 => (subC x44 x38).bind fun x45 => Z7_q28  (r28) x45)
theorem Z7_l28_qe {a0 : Bs} {x5 : UInt8} {s4_7 : Bs}  (Kb28 : (Int ⊕ ((Int × Int))) → Option (Int × Int)) (hend : ∀ (n28 : Nat) (s7_29 : Int) (s8_30 : Nat), Z7_j16 a0 x5  s7_29 = Kb28 (Sum.inl s7_29)) (hret : ∀ e : (Int × Int), some e = Kb28 (Sum.inr e)) : ∀ (n28 : Nat) (s7_29 : Int) (s8_30 : Nat), (0 < n28 ∧ s4_7.length < s8_30 + n28) → Z7_l28 a0 x5 s4_7 n28 s7_29 s8_30 = Option.bind (Z7_q28  (s4_7.drop s8_30) s7_29) Kb28 := by
 intro n28
 induction n28 with
 | zero => intro s7_29 s8_30 hn; exact absurd hn.1 (by omega)
 | succ n28 ih28 =>
  intro s7_29 s8_30 hn
  rw [Z7_l28]
  by_cases hlt : s8_30 < s4_7.length
  ·obtain ⟨h28, hh28⟩ : ∃ x, s4_7[s8_30]? = some x := ⟨_, List.getElem?_eq_getElem hlt⟩
   rw [Q.drop_of hh28, Z7_q28]
   refine Q.condT (Q.ltT hlt) ?_
   refine Q.bindPO hh28 fun x37 hx_x37 => ?_
   refine Q.bindO rfl fun x38 => ?_
   refine Q.bindO rfl fun x41 => ?_
   refine Q.condO ?_ ?_
   ·all_goals exact hret _
   refine Q.bindO rfl fun x44 => ?_
   refine Q.bindO rfl fun x45 => ?_
   all_goals exact ih28 _ _ ⟨by omega, by omega⟩
  rw [List.drop_of_length_le (by omega), Z7_q28]
  refine Q.condF (Q.ltF hlt) ?_
  exact hend n28 s7_29 s8_30
def Z7_q (a0 : Bs) : Option (Int × Int) := on (bif (decide ((0 : Int) < ((a0.length : Nat) : Int))) then ((a0)[0]?.getD (0 : UInt8)) else (0 : UInt8)) fun x5 => Option.bind (bif ((decide ((0 : Int) < ((a0.length : Nat) : Int))) && (decide (((x5.toNat : Nat) : Int) = (45 : Int)))) then ((cutC a0 (some (1 : Int)) none).bind fun x61 => some x61) else (some a0)) fun s4_7 => guardO (!(decide (((s4_7.length : Nat) : Int) = (0 : Int)))) (s4_7[0]?) (0 : UInt8) fun x11 => bif ((decide (((s4_7.length : Nat) : Int) = (0 : Int))) || ((decide (((x11.toNat : Nat) : Int) = (48 : Int))) && ((decide ((1 : Int) < ((s4_7.length : Nat) : Int))) || ((decide ((0 : Int) < ((a0.length : Nat) : Int))) && (decide (((x5.toNat : Nat) : Int) = (45 : Int))))))) then (some ((0 : Int), (3 : Int))) else (on (Z7_q47  s4_7 ) fun o47 => match o47 with | Sum.inl _ => (on (()) fun _ => Option.bind (Z7_q28  s4_7 (0 : Int)) fun o28 => match o28 with | Sum.inl s7_29 => (on (s7_29) fun s7_17 => bif ((decide ((0 : Int) < ((a0.length : Nat) : Int))) && (decide (((x5.toNat : Nat) : Int) = (45 : Int)))) then (some (s7_17, (0 : Int))) else (bif (decide (s7_17 = (-9223372036854775808 : Int))) then (some ((0 : Int), (4 : Int))) else (some ((IntKind.wrap .i64 (0 - s7_17)), (0 : Int))))) | Sum.inr e28 => (some e28)) | Sum.inr e47 => (some e47))
theorem Z7_eq (a0 : Bs) : Z7 a0 = Z7_q a0 := by
 unfold Z7 Z7_q
 refine Eq.trans ?_ (Q.some_bind _)
 refine Q.guardTO (fun hc => Q.getD_some (by simp at hc; omega)) fun x5 hx_x5 => ?_
 refine Q.wrapOO fun Kj6 hKj6 => ?_
 have hj6 : ∀ (s4_7 : Bs), Z7_j6 a0 x5 s4_7 = Kj6 s4_7 := by
  intro s4_7
  refine Eq.trans ?_ (hKj6 _).symm
  unfold Z7_j6
  refine Q.guardOO rfl fun x11 => ?_
  refine Q.condO ?_ ?_
  ·all_goals rfl
  refine Q.wrapPO fun Kb47 hKb47 => ?_
  refine Z7_l47_qe  Kb47 ?_ ?_ _ _ ⟨Nat.succ_pos _, by omega⟩
  ·intro n47 s6_48
   refine Eq.trans ?_ (hKb47 _).symm
   try dsimp only
   refine Q.wrapPO fun Kj14 hKj14 => ?_
   have hj14 : Z7_j14 a0 x5 s4_7  = Kj14 () := by
    refine Eq.trans ?_ (hKj14 _).symm
    unfold Z7_j14
    refine Q.wrapOO fun Kb28 hKb28 => ?_
    refine Z7_l28_qe  Kb28 ?_ ?_ _ _ _ ⟨Nat.succ_pos _, by omega⟩
    ·intro n28 s7_29 s8_30
     refine Eq.trans ?_ (hKb28 _).symm
     try dsimp only
     refine Q.wrapPO fun Kj16 hKj16 => ?_
     have hj16 : ∀ (s7_17 : Int), Z7_j16 a0 x5 s7_17 = Kj16 s7_17 := by
      intro s7_17
      refine Eq.trans ?_ (hKj16 _).symm
      unfold Z7_j16
      refine Q.condO ?_ ?_
      ·all_goals rfl
      refine Q.condO ?_ ?_
      ·all_goals rfl
      all_goals rfl
     all_goals exact hj16 _
    intro e28
    refine Eq.trans ?_ (hKb28 _).symm
    try dsimp only
    all_goals rfl
   all_goals exact hj14
  intro e47
  refine Eq.trans ?_ (hKb47 _).symm
  try dsimp only
  all_goals rfl
 refine Q.condO ?_ ?_
 ·refine Q.bindO rfl fun x61 => ?_
  all_goals exact hj6 _
 all_goals exact hj6 _
def Z6_q11 (a1 : (Sl R04_Token)) : List R04_Token → Nat → Option (Unit ⊕ Bool)
 | [], s5_12 => some (Sum.inl ())
 | h11 :: r11, s5_12 => on (h11) fun x19 => (a1.l[s5_12]?).bind fun x20 => bif (!(decide (x19.FKind = x20.FKind) && ((x19.FText == x20.FText) && (decide (x19.FAt = x20.FAt) && true)))) then (some (Sum.inr false)) else (Z6_q11 a1 (r11) (s5_12 + 1) )
theorem Z6_l11_qe {a0 : (Sl R04_Token)} {a1 : (Sl R04_Token)}  (Kb11 : (Unit ⊕ Bool) → Option Bool) (hend : ∀ (n11 : Nat) (s5_12 : Nat), Z6_j8    = Kb11 (Sum.inl ())) (hret : ∀ e : Bool, some e = Kb11 (Sum.inr e)) : ∀ (n11 : Nat) (s5_12 : Nat), (0 < n11 ∧ a0.l.length < s5_12 + n11) → Z6_l11 a0 a1 n11 s5_12 = Option.bind (Z6_q11 a1 (a0.l.drop s5_12) s5_12 ) Kb11 := by
 intro n11
 induction n11 with
 | zero => intro s5_12 hn; exact absurd hn.1 (by omega)
 | succ n11 ih11 =>
  intro s5_12 hn
  rw [Z6_l11]
  by_cases hlt : s5_12 < a0.l.length
  ·obtain ⟨h11, hh11⟩ : ∃ x, a0.l[s5_12]? = some x := ⟨_, List.getElem?_eq_getElem hlt⟩
   rw [Q.drop_of hh11, Z6_q11]
   refine Q.condT (Q.ltT hlt) ?_
   refine Q.bindPO hh11 fun x19 hx_x19 => ?_
   refine Q.bindO rfl fun x20 => ?_
   refine Q.condO ?_ ?_
   ·all_goals exact hret _
   all_goals exact ih11 _ ⟨by omega, by omega⟩
  rw [List.drop_of_length_le (by omega), Z6_q11]
  refine Q.condF (Q.ltF hlt) ?_
  exact hend n11 s5_12
def Z6_q (a0 : (Sl R04_Token)) (a1 : (Sl R04_Token)) : Option Bool := bif (!decide (((a0.l.length : Nat) : Int) = ((a1.l.length : Nat) : Int))) then (some false) else (Option.bind (Z6_q11 a1 a0.l 0 ) fun o11 => match o11 with | Sum.inl _ => (on (()) fun _ => some true) | Sum.inr e11 => (some e11))
theorem Z6_eq (a0 : (Sl R04_Token)) (a1 : (Sl R04_Token)) : Z6 a0 a1 = Z6_q a0 a1 := by
 unfold Z6 Z6_q
 refine Eq.trans ?_ (Q.some_bind _)
 refine Q.condO ?_ ?_
 ·all_goals rfl
 refine Q.wrapOO fun Kb11 hKb11 => ?_
 refine Z6_l11_qe  Kb11 ?_ ?_ _ _ ⟨Nat.succ_pos _, by omega⟩
 ·intro n11 s5_12
  refine Eq.trans ?_ (hKb11 _).symm
  try dsimp only
  refine Q.wrapPO fun Kj8 hKj8 => ?_
  have hj8 : Z6_j8   = Kj8 () := by
   refine Eq.trans ?_ (hKj8 _).symm
   unfold Z6_j8
   all_goals rfl
  all_goals exact hj8
 intro e11
 refine Eq.trans ?_ (hKb11 _).symm
 try dsimp only
 all_goals rfl
def Z5_q7  : List Token_Token → (Sl R04_Token) → Option ((Sl R04_Token))
 | [], s3_8 => some s3_8
 | h7 :: r7, s3_8 => on (h7) fun x15 => on (h7) fun x16 => on (h7) fun x17 => (appC 32 s3_8 (⟨false, [(R04_Token.mk x15.FKind x16.FText x17.FAt)]⟩ : Sl R04_Token)).bind fun x18 => Z5_q7  (r7) x18
theorem Z5_l7_qe {a0 : (Sl Token_Token)}  (Kb7 : ((Sl R04_Token)) → Option (Sl R04_Token)) (hend : ∀ (n7 : Nat) (s3_8 : (Sl R04_Token)) (s4_9 : Nat), Z5_j3   s3_8 = Kb7 s3_8) : ∀ (n7 : Nat) (s3_8 : (Sl R04_Token)) (s4_9 : Nat), (0 < n7 ∧ a0.l.length < s4_9 + n7) → Z5_l7 a0 n7 s3_8 s4_9 = Option.bind (Z5_q7  (a0.l.drop s4_9) s3_8) Kb7 := by
 intro n7
 induction n7 with
 | zero => intro s3_8 s4_9 hn; exact absurd hn.1 (by omega)
 | succ n7 ih7 =>
  intro s3_8 s4_9 hn
  rw [Z5_l7]
  by_cases hlt : s4_9 < a0.l.length
  ·obtain ⟨h7, hh7⟩ : ∃ x, a0.l[s4_9]? = some x := ⟨_, List.getElem?_eq_getElem hlt⟩
   rw [Q.drop_of hh7, Z5_q7]
   refine Q.condT (Q.ltT hlt) ?_
   refine Q.bindPO hh7 fun x15 hx_x15 => ?_
   refine Q.bindPO hh7 fun x16 hx_x16 => ?_
   refine Q.bindPO hh7 fun x17 hx_x17 => ?_
   refine Q.bindO rfl fun x18 => ?_
   all_goals exact ih7 _ _ ⟨by omega, by omega⟩
  rw [List.drop_of_length_le (by omega), Z5_q7]
  refine Q.condF (Q.ltF hlt) ?_
  exact hend n7 s3_8 s4_9
def Z5_q (a0 : (Sl Token_Token)) : Option (Sl R04_Token) := Option.bind (Z5_q7  a0.l (Sl.nil : Sl R04_Token)) fun s3_8 => on (s3_8) fun s3_4 => some s3_4
theorem Z5_eq (a0 : (Sl Token_Token)) : Z5 a0 = Z5_q a0 := by
 unfold Z5 Z5_q
 refine Eq.trans ?_ (Q.some_bind _)
 refine Q.wrapOO fun Kb7 hKb7 => ?_
 refine Z5_l7_qe  Kb7 ?_ _ _ _ ⟨Nat.succ_pos _, by omega⟩
 intro n7 s3_8 s4_9
 refine Eq.trans ?_ (hKb7 _).symm
 refine Q.wrapPO fun Kj3 hKj3 => ?_
 have hj3 : ∀ (s3_4 : (Sl R04_Token)), Z5_j3  s3_4 = Kj3 s3_4 := by
  intro s3_4
  refine Eq.trans ?_ (hKj3 _).symm
  unfold Z5_j3
  all_goals rfl
 all_goals exact hj3 _
end Go.Proofs

namespace Go.Proofs
open Go Go.Ab
theorem some_nat {a b : Nat} (h : a = b) : some ((a : Nat) : Int) = some ((b : Nat) : Int) := by rw [h]
theorem idxC_nat {α : Type} (l : List α) (i : Nat) : idxC l (i : Int) = l[i]? := by unfold idxC; rw [if_pos (by omega)]; simp
theorem cut_from {s : Bs} {i : Nat} (h : i ≤ s.length) : cutC s (some (i : Int)) none = some (s.drop i) := by
 unfold cutC; rw [if_pos (by simp; omega)]; simp
theorem cut_part {s : Bs} {i j : Nat} (h : i ≤ j) (hj : j ≤ s.length) : cutC s (some (i : Int)) (some (j : Int)) = some ((s.drop i).take (j - i)) := by
 unfold cutC; rw [if_pos (by simp; omega)]
 simp only [Option.getD_some, Int.toNat_natCast]
 rw [List.drop_take]
theorem drop_cons {s : Bs} {i : Nat} {c : UInt8} (h : s[i]? = some c) : s.drop i = c :: s.drop (i + 1) := by
 obtain ⟨hi, rfl⟩ := List.getElem?_eq_some_iff.1 h
 exact List.drop_eq_getElem_cons hi
def isSp (c : UInt8) : Bool := decide (((c.toNat : Nat) : Int) = 32) || decide (((c.toNat : Nat) : Int) = 9) || decide (((c.toNat : Nat) : Int) = 10) || decide (((c.toNat : Nat) : Int) = 13) || decide (((c.toNat : Nat) : Int) = 44)
def isNl (c : UInt8) : Bool := decide (((c.toNat : Nat) : Int) = 10) || decide (((c.toNat : Nat) : Int) = 13)
def skN : Bool → Bs → Nat
 | _, [] => 0
 | false, c :: r => bif isSp c then 1 + skN false r else bif decide (((c.toNat : Nat) : Int) = 35) then 1 + skN true r else 0
 | true, c :: r => bif isNl c then 1 + skN false r else 1 + skN true r
theorem skN_le : ∀ (b : Bool) (l : Bs), skN b l ≤ l.length
 | b, [] => by cases b <;> simp [skN]
 | false, c :: r => by
  have h1 := skN_le false r; have h2 := skN_le true r
  rw [skN]; cases isSp c <;> cases decide (((c.toNat : Nat) : Int) = 35) <;> simp <;> omega
 | true, c :: r => by
  have h1 := skN_le false r; have h2 := skN_le true r
  rw [skN]; cases isNl c <;> simp <;> omega
theorem isNl_sp {c : UInt8} (h : isNl c = true) : isSp c = true := by
 unfold isNl at h; unfold isSp
 simp only [Bool.or_eq_true] at h ⊢
 rcases h with h | h
 ·exact .inl (.inl (.inr h))
 ·exact .inl (.inr h)
theorem contains_nl (c : UInt8) : ([10, 13] : Bs).contains c = isNl c := by
 unfold isNl
 rw [Bool.eq_iff_iff]
 simp only [List.contains_eq_mem, List.mem_cons, List.not_mem_nil, or_false, decide_eq_true_eq, Bool.or_eq_true]
 rw [← UInt8.toNat_inj, ← UInt8.toNat_inj]
 show (c.toNat = 10 ∨ c.toNat = 13) ↔ _
 omega
theorem indexAny_sk : ∀ l : Bs, (∃ k : Nat, Lib.indexAny l [10, 13] = (k : Int) ∧ k < l.length ∧ skN true l = k + skN false (l.drop k)) ∨ (Lib.indexAny l [10, 13] = -1 ∧ skN true l = l.length)
 | [] => .inr ⟨rfl, rfl⟩
 | c :: r => by
  rw [Lib.indexAny, contains_nl]
  cases h : isNl c
  ·rcases indexAny_sk r with ⟨k, h1, h2, h3⟩ | ⟨h1, h2⟩
   ·left
    refine ⟨k + 1, ?_, by simp; omega, ?_⟩
    ·rw [h1]; simp only [Bool.false_eq_true, if_false]; rw [if_neg (by simp)]; push_cast; rfl
    ·rw [skN, h, List.drop_succ_cons, h3]; simp; omega
   ·right
    rw [h1]
    refine ⟨by simp, ?_⟩
    rw [skN, h, h2]; simp; omega
  ·left
   refine ⟨0, by simp, by simp, ?_⟩
   rw [skN, h, List.drop_zero, skN, isNl_sp h]; simp
theorem skip_aux (s : Bs) (hs : s.length ≤ 1048576) : ∀ (n i : Nat), i ≤ s.length → s.length - i < n → Z43_l5 s n (i : Int) = some (((i + skN false (s.drop i) : Nat)) : Int)
 | 0, _, _, h => by omega
 | n + 1, i, hi, hn => by
  rw [Z43_l5]
  by_cases hlt : i < s.length
  ·have hd : decide ((i : Int) < ((s.length : Nat) : Int)) = true := decide_eq_true (by omega)
   obtain ⟨c, hc⟩ : ∃ c, s[i]? = some c := ⟨s[i], List.getElem?_eq_getElem hlt⟩
   have hdr := drop_cons hc
   have next : ∀ j : Nat, i < j → j ≤ s.length → Z43_l5 s n (j : Int) = some (((j + skN false (s.drop j) : Nat)) : Int) := fun j h1 h2 => skip_aux s hs n j h2 (by omega)
   have one : addC (i : Int) 1 = some (((i + 1 : Nat)) : Int) := by rw [addC_ok (by omega)]; rfl
   rw [hd, idxC_nat, hc, hdr, skN]
   simp only [Z43_j13, one]
   rw [cond_true, Option.bind_some]
   have sp : isSp c = true → Z43_l5 s n (((i + 1 : Nat)) : Int) = some (((i + (bif isSp c then 1 + skN false (s.drop (i + 1)) else bif decide (((c.toNat : Nat) : Int) = 35) then 1 + skN true (s.drop (i + 1)) else 0) : Nat)) : Int) := fun h => by
    rw [next (i + 1) (by omega) (by omega), h]
    simp only [cond_true]; exact some_nat (by omega)
   cases h1 : decide (((c.toNat : Nat) : Int) = 32)
   ·rw [cond_false]
    cases h2 : decide (((c.toNat : Nat) : Int) = 9)
    ·rw [cond_false]
     cases h3 : decide (((c.toNat : Nat) : Int) = 10)
     ·rw [cond_false]
      cases h4 : decide (((c.toNat : Nat) : Int) = 13)
      ·rw [cond_false]
       cases h5 : decide (((c.toNat : Nat) : Int) = 44)
       ·have hns : isSp c = false := by unfold isSp; rw [h1, h2, h3, h4, h5]; rfl
        have hnn : isNl c = false := by unfold isNl; rw [h3, h4]; rfl
        rw [hns, cond_false, cond_false]
        cases h6 : decide (((c.toNat : Nat) : Int) = 35)
        ·simp
        ·simp only [cond_true]
         rw [cut_from hi, Option.bind_some, hdr]
         have he : Z29 (c :: s.drop (i + 1)) [10, 13] = some (Lib.indexAny (c :: s.drop (i + 1)) [10, 13]) := by
          unfold Z29 idxAnyC
          rw [if_pos ⟨by decide, by decide, Nat.lt_of_le_of_lt (show (c :: s.drop (i + 1)).length ≤ 1048577 by simp; omega) (by decide), by decide⟩]
         rw [he, Option.bind_some]
         have hsk : skN true (c :: s.drop (i + 1)) = 1 + skN true (s.drop (i + 1)) := by rw [skN, hnn]; rfl
         rw [← hsk]
         rcases indexAny_sk (c :: s.drop (i + 1)) with ⟨k, g1, g2, g3⟩ | ⟨g1, g2⟩
         ·have hk0 : 0 < k := by
           rcases Nat.eq_zero_or_pos k with h | h
           ·subst h
            rw [Lib.indexAny, contains_nl, hnn] at g1
            simp at g1
            split at g1 <;> omega
           ·exact h
          rw [g1, show decide ((0 : Int) ≤ (k : Int)) = true from decide_eq_true (by omega)]
          simp only [cond_true]
          simp only [List.length_cons, List.length_drop] at g2
          rw [addC_ok (by omega), Option.bind_some, show ((i : Int) + (k : Int)) = ((i + k : Nat) : Int) by push_cast; rfl, next (i + k) (by omega) (by omega), g3, ← hdr, List.drop_drop]
          exact some_nat (by omega)
         ·rw [g1, show decide ((0 : Int) ≤ (-1 : Int)) = false from rfl]
          simp only [cond_false]
          rw [next s.length (by omega) (Nat.le_refl _), g2, List.drop_length]
          simp only [skN, List.length_cons, List.length_drop]
          exact some_nat (by omega)
       ·rw [cond_true]; exact sp (by unfold isSp; rw [h5]; simp)
      ·rw [cond_true]; exact sp (by unfold isSp; rw [h4]; simp)
     ·rw [cond_true]; exact sp (by unfold isSp; rw [h3]; simp)
    ·rw [cond_true]; exact sp (by unfold isSp; rw [h2]; simp)
   ·rw [cond_true]; exact sp (by unfold isSp; rw [h1]; simp)
  ·rw [show decide ((i : Int) < ((s.length : Nat) : Int)) = false from decide_eq_false (by omega), List.drop_eq_nil_of_le (by omega)]
   simp [Z43_j2, skN]
theorem skip_eq {s : Bs} (hs : s.length ≤ 1048576) {i : Nat} (hi : i ≤ s.length) : Z43 s (i : Int) = some (((i + skN false (s.drop i) : Nat)) : Int) := by
 unfold Z43; exact skip_aux s hs F0 i hi (by rw [F0_eq]; omega)
theorem rcom_aux (s : Bs) (hs : s.length ≤ 1048576) (k : Int → Option Int) : ∀ (n i : Nat), i ≤ s.length → s.length - i < n → (∀ j : Nat, i ≤ j → j ≤ s.length → (j = s.length ∨ ∃ c, s[j]? = some c ∧ isNl c = true) → k (j : Int) = some (((j + skN false (s.drop j) : Nat)) : Int)) →
  Z19_l23 s k n (i : Int) = some (((i + skN true (s.drop i) : Nat)) : Int)
 | 0, _, _, h, _ => by omega
 | n + 1, i, hi, hn, hk => by
  rw [Z19_l23]
  by_cases hlt : i < s.length
  ·have hd : decide ((i : Int) < ((s.length : Nat) : Int)) = true := decide_eq_true (by omega)
   obtain ⟨c, hc⟩ : ∃ c, s[i]? = some c := ⟨s[i], List.getElem?_eq_getElem hlt⟩
   have hdr := drop_cons hc
   have ih := rcom_aux s hs k n (i + 1) (by omega) (by omega) (fun j h1 => hk j (by omega))
   have one : addC (i : Int) 1 = some (((i + 1 : Nat)) : Int) := by rw [addC_ok (by omega)]; rfl
   rw [hd, idxC_nat, hc, one]
   simp only [guardO, if_true, Option.bind_some, Bool.true_and]
   cases hn1 : decide (((c.toNat : Nat) : Int) = 10)
   ·cases hn2 : decide (((c.toNat : Nat) : Int) = 13)
    ·have hnn : isNl c = false := by unfold isNl; rw [hn1, hn2]; rfl
     simp only [Bool.not_false, if_true, Bool.and_self, cond_true]
     rw [ih, hdr, skN, hnn]
     simp only [cond_false]; exact some_nat (by omega)
    ·have hnn : isNl c = true := by unfold isNl; rw [hn2]; simp
     simp only [Bool.not_false, Bool.not_true, if_true, Bool.and_false, cond_false]
     rw [hk i (Nat.le_refl _) hi (.inr ⟨c, hc, hnn⟩), hdr, skN, skN, hnn, isNl_sp hnn]
     rfl
   ·have hnn : isNl c = true := by unfold isNl; rw [hn1]; simp
    simp only [Bool.not_true, Bool.false_eq_true, if_false, Bool.and_false, Bool.false_and, cond_false]
    rw [hk i (Nat.le_refl _) hi (.inr ⟨c, hc, hnn⟩), hdr, skN, skN, hnn, isNl_sp hnn]
    rfl
  ·rw [show decide ((i : Int) < ((s.length : Nat) : Int)) = false from decide_eq_false (by omega)]
   simp only [guardO, Bool.false_and, Bool.false_eq_true, if_false, cond_false]
   have : i = s.length := by omega
   rw [hk i (Nat.le_refl _) hi (.inl this), List.drop_eq_nil_of_le (by omega)]
   rfl
theorem space_eq (c : UInt8) : Z20 ((c.toNat : Nat) : Int) = some (isSp c) := rfl
theorem rskip_aux (s : Bs) (hs : s.length ≤ 1048576) : ∀ (n i : Nat), i ≤ s.length → s.length - i < n → Z19_l5 s n (i : Int) = some (((i + skN false (s.drop i) : Nat)) : Int)
 | 0, _, _, h => by omega
 | n + 1, i, hi, hn => by
  rw [Z19_l5]
  by_cases hlt : i < s.length
  ·have hd : decide ((i : Int) < ((s.length : Nat) : Int)) = true := decide_eq_true (by omega)
   obtain ⟨c, hc⟩ : ∃ c, s[i]? = some c := ⟨s[i], List.getElem?_eq_getElem hlt⟩
   have hdr := drop_cons hc
   have one : addC (i : Int) 1 = some (((i + 1 : Nat)) : Int) := by rw [addC_ok (by omega)]; rfl
   rw [hd, idxC_nat, hc, hdr, skN, one]
   simp only [cond_true, Option.bind_some, space_eq]
   cases hsp : isSp c
   ·simp only [cond_false]
    cases h6 : decide (((c.toNat : Nat) : Int) = 35)
    ·simp
    ·have hnn : isNl c = false := by
      cases h : isNl c with
      | false => rfl
      | true => rw [isNl_sp h] at hsp; cases hsp
     simp only [Bool.not_true, cond_false, cond_true]
     have hsk : skN true (s.drop i) = 1 + skN true (s.drop (i + 1)) := by rw [hdr, skN, hnn]; rfl
     rw [← hsk]
     refine rcom_aux s hs _ F0 i hi (by rw [F0_eq]; omega) fun j h1 h2 h3 => ?_
     have hij : i ≠ j ∨ i = s.length := by
      rcases h3 with h | ⟨c', h4, h5⟩
      ·exact .inl (by omega)
      ·refine .inl fun e => ?_
       subst e; rw [hc] at h4; simp only [Option.some.injEq] at h4; subst h4; rw [hnn] at h5; cases h5
     exact rskip_aux s hs n j h2 (by omega)
   ·simp only [cond_true]
    rw [rskip_aux s hs n (i + 1) (by omega) (by omega)]
    exact some_nat (by omega)
  ·rw [show decide ((i : Int) < ((s.length : Nat) : Int)) = false from decide_eq_false (by omega), List.drop_eq_nil_of_le (by omega)]
   simp [Z19_j2, skN]
theorem rskip_eq {s : Bs} (hs : s.length ≤ 1048576) {i : Nat} (hi : i ≤ s.length) : Z19 s (i : Int) = some (((i + skN false (s.drop i) : Nat)) : Int) := by
 unfold Z19; exact rskip_aux s hs F0 i hi (by rw [F0_eq]; omega)
end Go.Proofs

namespace Go.Proofs
open Go Go.Ab
theorem wrap32 (c : UInt8) : IntKind.wrap .i32 ((c.toNat : Nat) : Int) = ((c.toNat : Nat) : Int) := by
 have h := c.toNat_lt
 simp [IntKind.wrap, IntKind.bits, IntKind.signed]
 omega
def isW (c : UInt8) : Bool := (((decide ((97 : Int) ≤ ((c.toNat : Nat) : Int)) && decide (((c.toNat : Nat) : Int) ≤ (122 : Int))) || (decide ((65 : Int) ≤ ((c.toNat : Nat) : Int)) && decide (((c.toNat : Nat) : Int) ≤ (90 : Int)))) || (decide ((48 : Int) ≤ ((c.toNat : Nat) : Int)) && decide (((c.toNat : Nat) : Int) ≤ (57 : Int)))) || decide (((c.toNat : Nat) : Int) = (95 : Int))
def isD (c : UInt8) : Bool := decide ((48 : Int) ≤ ((c.toNat : Nat) : Int)) && decide (((c.toNat : Nat) : Int) ≤ (57 : Int))
def isL (c : UInt8) : Bool := ((decide ((65 : Int) ≤ ((c.toNat : Nat) : Int)) && decide (((c.toNat : Nat) : Int) ≤ (90 : Int))) || (decide ((97 : Int) ≤ ((c.toNat : Nat) : Int)) && decide (((c.toNat : Nat) : Int) ≤ (122 : Int)))) || decide (((c.toNat : Nat) : Int) = (95 : Int))
theorem isW_eq (c : UInt8) : isW c = (isL c || isD c) := by
 unfold isW isL isD
 rw [Bool.eq_iff_iff]
 simp only [Bool.or_eq_true, Bool.and_eq_true, decide_eq_true_eq]
 constructor
 ·rintro (((h | h) | h) | h)
  ·exact .inl (.inl (.inr h))
  ·exact .inl (.inl (.inl h))
  ·exact .inr h
  ·exact .inl (.inr h)
 ·rintro (((h | h) | h) | h)
  ·exact .inl (.inl (.inr h))
  ·exact .inl (.inl (.inl h))
  ·exact .inr h
  ·exact .inl (.inr h)
theorem letter_eq (c : UInt8) : Z40 (IntKind.wrap .i32 ((c.toNat : Nat) : Int)) = some (isW c) := by rw [wrap32]; rfl
def wordN (l : Bs) : Nat := (l.takeWhile isW).length
theorem wordN_le (l : Bs) : wordN l ≤ l.length := by
 unfold wordN
 induction l with
 | nil => simp
 | cons a r ih => rw [List.takeWhile_cons]; split <;> simp <;> omega
theorem wordN_cons (c : UInt8) (r : Bs) : wordN (c :: r) = bif isW c then 1 + wordN r else 0 := by
 unfold wordN; rw [List.takeWhile_cons]; cases isW c <;> simp <;> omega
theorem span_aux (s : Bs) (hs : s.length ≤ 1048576) : ∀ (n i : Nat), i ≤ s.length → s.length - i < n → Z44_l5 s Z40 n (i : Int) = some (((i + wordN (s.drop i) : Nat)) : Int)
 | 0, _, _, h => by omega
 | n + 1, i, hi, hn => by
  rw [Z44_l5]
  by_cases hlt : i < s.length
  ·have hd : decide ((i : Int) < ((s.length : Nat) : Int)) = true := decide_eq_true (by omega)
   obtain ⟨c, hc⟩ : ∃ c, s[i]? = some c := ⟨s[i], List.getElem?_eq_getElem hlt⟩
   have one : addC (i : Int) 1 = some (((i + 1 : Nat)) : Int) := by rw [addC_ok (by omega)]; rfl
   have ih := span_aux s hs n (i + 1) (by omega) (by omega)
   rw [hd, idxC_nat, hc, one, drop_cons hc, wordN_cons]
   simp only [guardO, if_true, Option.bind_some, letter_eq, Bool.true_and]
   cases isW c
   ·simp [Z44_j2]
   ·simp only [cond_true]
    rw [ih]; exact some_nat (by omega)
  ·rw [show decide ((i : Int) < ((s.length : Nat) : Int)) = false from decide_eq_false (by omega), List.drop_eq_nil_of_le (by omega)]
   simp [guardO, Z44_j2, wordN]
theorem span_eq {s : Bs} (hs : s.length ≤ 1048576) {i : Nat} (hi : i ≤ s.length) : Z44 s (i : Int) Z40 = some (((i + wordN (s.drop i) : Nat)) : Int) := by
 unfold Z44; exact span_aux s hs F0 i hi (by rw [F0_eq]; omega)
theorem rletter_eq (c : UInt8) : Z16 ((c.toNat : Nat) : Int) = some (isL c) := rfl
theorem rdigit_eq (c : UInt8) : Z15 ((c.toNat : Nat) : Int) = some (isD c) := rfl
theorem word_aux (s : Bs) (hs : s.length ≤ 1048576) : ∀ (n i : Nat), i ≤ s.length → s.length - i < n → Z21_l5 s n (i : Int) = some (((i + wordN (s.drop i) : Nat)) : Int)
 | 0, _, _, h => by omega
 | n + 1, i, hi, hn => by
  rw [Z21_l5]
  by_cases hlt : i < s.length
  ·have hd : decide ((i : Int) < ((s.length : Nat) : Int)) = true := decide_eq_true (by omega)
   obtain ⟨c, hc⟩ : ∃ c, s[i]? = some c := ⟨s[i], List.getElem?_eq_getElem hlt⟩
   have one : addC (i : Int) 1 = some (((i + 1 : Nat)) : Int) := by rw [addC_ok (by omega)]; rfl
   have ih := word_aux s hs n (i + 1) (by omega) (by omega)
   rw [hd, idxC_nat, hc, one, drop_cons hc, wordN_cons, isW_eq]
   simp only [guardO, if_true, Option.bind_some, rletter_eq, Bool.true_and]
   cases isL c
   ·simp only [Bool.not_false, if_true, rdigit_eq, Option.bind_some, Bool.false_or]
    cases isD c
    ·simp [Z21_j2]
    ·simp only [cond_true]; rw [ih]; exact some_nat (by omega)
   ·simp only [Bool.true_or, cond_true]
    simp only [Bool.not_true, Bool.false_eq_true, if_false, Bool.true_or, cond_true]
    rw [ih]; exact some_nat (by omega)
  ·rw [show decide ((i : Int) < ((s.length : Nat) : Int)) = false from decide_eq_false (by omega), List.drop_eq_nil_of_le (by omega)]
   simp [guardO, Z21_j2, wordN]
theorem word_eq {s : Bs} (hs : s.length ≤ 1048576) {i : Nat} (hi : i ≤ s.length) : Z21 s (i : Int) = some (((i + wordN (s.drop i) : Nat)) : Int) := by
 unfold Z21; exact word_aux s hs F0 i hi (by rw [F0_eq]; omega)
def litN : Bool → Bs → Option Nat
 | _, [] => none
 | true, _ :: r => (litN false r).map (· + 1)
 | false, c :: r => bif decide (((c.toNat : Nat) : Int) = 34) then some 1 else (litN (decide (((c.toNat : Nat) : Int) = 92)) r).map (· + 1)
theorem litN_le : ∀ (b : Bool) (l : Bs) (k : Nat), litN b l = some k → 1 ≤ k ∧ k ≤ l.length
 | _, [], _, h => by cases h
 | true, _ :: r, k, h => by
  rw [litN] at h
  obtain ⟨m, h1, rfl⟩ := Option.map_eq_some_iff.1 h
  have := litN_le false r m h1
  simp; omega
 | false, c :: r, k, h => by
  rw [litN] at h
  cases hc : decide (((c.toNat : Nat) : Int) = 34)
  ·rw [hc] at h
   obtain ⟨m, h1, rfl⟩ := Option.map_eq_some_iff.1 h
   have := litN_le _ r m h1
   simp; omega
  ·rw [hc] at h
   simp only [cond_true, Option.some.injEq] at h
   subst h; simp
def litR (s : Bs) (i : Nat) (b : Bool) : Int := match litN b (s.drop i) with | some k => ((i + k : Nat) : Int) | none => -1
theorem lit_aux (s : Bs) (hs : s.length ≤ 1048576) : ∀ (n i : Nat) (sk : Bool), i ≤ s.length → s.length - i < n → ∃ r, token_litSpan s n (i : Int) sk = some r ∧ ((∃ j : Nat, r.1 = (j : Int) ∧ j < s.length ∧ litR s i sk = ((j + 1 : Nat) : Int)) ∨ (r.1 = ((s.length : Nat) : Int) ∧ litR s i sk = -1))
 | 0, _, _, _, h => by omega
 | n + 1, i, sk, hi, hn => by
  rw [token_litSpan]
  by_cases hlt : i < s.length
  ·have hd : decide ((i : Int) < ((s.length : Nat) : Int)) = true := decide_eq_true (by omega)
   obtain ⟨c, hc⟩ : ∃ c, s[i]? = some c := ⟨s[i], List.getElem?_eq_getElem hlt⟩
   have one : addC (i : Int) 1 = some (((i + 1 : Nat)) : Int) := by rw [addC_ok (by omega)]; rfl
   have ih := fun sk => lit_aux s hs n (i + 1) sk (by omega) (by omega)
   rw [hd, idxC_nat, hc, one]
   simp only [cond_true, Option.bind_some, wrap32]
   have go : ∀ sk' : Bool, litN sk (s.drop i) = (litN sk' (s.drop (i + 1))).map (· + 1) → litR s i sk = litR s (i + 1) sk' := fun sk' h => by
    unfold litR
    rw [h]
    cases litN sk' (s.drop (i + 1)) with
    | none => rfl
    | some k => simp only [Option.map_some]; exact congrArg _ (by omega)
   cases sk with
   | true =>
    simp only [token_litStep, cond_true]
    obtain ⟨r, h1, h2⟩ := ih false
    rw [go false (by rw [drop_cons hc, litN])]
    exact ⟨r, h1, h2⟩
   | false =>
    simp only [token_litStep, cond_false]
    cases h34 : decide (((c.toNat : Nat) : Int) = 34)
    ·simp only [Bool.not_false, cond_true]
     obtain ⟨r, h1, h2⟩ := ih (decide (((c.toNat : Nat) : Int) = 92))
     rw [go _ (by rw [drop_cons hc, litN, h34]; rfl)]
     exact ⟨r, h1, h2⟩
    ·simp only [Bool.not_true, cond_false]
     refine ⟨_, rfl, .inl ⟨i, rfl, hlt, ?_⟩⟩
     unfold litR
     rw [drop_cons hc, litN, h34]; rfl
  ·rw [show decide ((i : Int) < ((s.length : Nat) : Int)) = false from decide_eq_false (by omega)]
   refine ⟨_, rfl, .inr ⟨?_, ?_⟩⟩
   ·simp only; omega
   ·unfold litR; rw [List.drop_eq_nil_of_le (by omega)]; cases sk <;> rfl
theorem literal_eq {s : Bs} (hs : s.length ≤ 1048576) {i : Nat} (hi : i < s.length) : Z41 s (i : Int) = some (litR s (i + 1) false) := by
 unfold Z41
 have one : addC (i : Int) 1 = some (((i + 1 : Nat)) : Int) := by rw [addC_ok (by omega)]; rfl
 obtain ⟨r, h1, h2⟩ := lit_aux s hs F0 (i + 1) false (by omega) (by rw [F0_eq]; omega)
 rw [one, Option.bind_some, h1, Option.bind_some]
 rcases h2 with ⟨j, h2, h3, h4⟩ | ⟨h2, h4⟩
 ·rw [h2, h4, show decide (((s.length : Nat) : Int) ≤ (j : Int)) = false from decide_eq_false (by omega), cond_false, addC_ok (by omega)]; rfl
 ·rw [h2, h4, show decide (((s.length : Nat) : Int) ≤ ((s.length : Nat) : Int)) = true from decide_eq_true (by omega), cond_true]
theorem j18_at (k : Int → Option Int) (j : Nat) (hj : j ≤ 2000000) : Z14_j18 k (j : Int) = k ((j + 1 : Nat) : Int) := by
 unfold Z14_j18; rw [addC_ok (by omega)]; rfl
theorem closing_aux (s : Bs) (hs : s.length ≤ 1048576) : ∀ (n i : Nat), i ≤ s.length + 1 → s.length + 1 - i < n → Z14_l6 s n (i : Int) = some (litR s i false)
 | 0, _, _, h => by omega
 | n + 1, i, hi, hn => by
  rw [Z14_l6]
  by_cases hlt : i < s.length
  ·have hd : decide ((i : Int) < ((s.length : Nat) : Int)) = true := decide_eq_true (by omega)
   obtain ⟨c, hc⟩ : ∃ c, s[i]? = some c := ⟨s[i], List.getElem?_eq_getElem hlt⟩
   have one : addC (i : Int) 1 = some (((i + 1 : Nat)) : Int) := by rw [addC_ok (by omega)]; rfl
   have ih1 := closing_aux s hs n (i + 1) (by omega) (by omega)
   have ih2 := closing_aux s hs n (i + 2) (by omega) (by omega)
   rw [hd, idxC_nat, hc, cond_true, Option.bind_some, Option.bind_some, one, Option.bind_some, Option.bind_some, j18_at _ (i + 1) (by omega), j18_at _ i (by omega), ih1, ih2]
   unfold litR
   rw [drop_cons hc, litN]
   cases h34 : decide (((c.toNat : Nat) : Int) = 34)
   ·simp only [cond_false]
    cases h92 : decide (((c.toNat : Nat) : Int) = 92)
    ·simp only [cond_false]
     cases litN false (s.drop (i + 1)) with
     | none => rfl
     | some k => simp only [Option.map_some]; exact some_nat (by omega)
    ·simp only [cond_true]
     by_cases h2 : i + 1 < s.length
     ·obtain ⟨c2, hc2⟩ : ∃ c, s[i + 1]? = some c := ⟨s[i + 1], List.getElem?_eq_getElem h2⟩
      rw [drop_cons hc2, litN]
      cases litN false (s.drop (i + 1 + 1)) with
      | none => rfl
      | some k => simp only [Option.map_some]; exact some_nat (by omega)
     ·rw [List.drop_eq_nil_of_le (by omega), List.drop_eq_nil_of_le (by omega)]; rfl
   ·simp only [cond_true]
  ·rw [show decide ((i : Int) < ((s.length : Nat) : Int)) = false from decide_eq_false (by omega)]
   unfold litR
   rw [List.drop_eq_nil_of_le (by omega)]; rfl
theorem closing_eq {s : Bs} (hs : s.length ≤ 1048576) {i : Nat} (hi : i < s.length) : Z14 s (i : Int) = some (litR s (i + 1) false) := by
 unfold Z14
 have one : addC (i : Int) 1 = some (((i + 1 : Nat)) : Int) := by rw [addC_ok (by omega)]; rfl
 rw [one, Option.bind_some, closing_aux s hs F0 (i + 1) (by omega) (by rw [F0_eq]; omega)]
end Go.Proofs

namespace Go.Proofs
open Go Go.Ab
def lim63 : Nat := 9223372036854775808
def stepF (a : Nat) (c : UInt8) : Nat := a * 10 + (c.toNat - 48)
def valF (a : Nat) (l : Bs) : Nat := l.foldl stepF a
theorem valF_cons (a : Nat) (c : UInt8) (r : Bs) : valF a (c :: r) = valF (a * 10 + (c.toNat - 48)) r := by
 unfold valF
 rw [List.foldl_cons]
 unfold stepF
 exact Eq.refl _
theorem valF_ge : ∀ (l : Bs) (a : Nat), a ≤ valF a l
 | [], a => Nat.le_refl _
 | c :: r, a => by rw [valF_cons]; have := valF_ge r (a * 10 + (c.toNat - 48)); omega
theorem isD_nat {c : UInt8} (h : isD c = true) : 48 ≤ c.toNat ∧ c.toNat ≤ 57 := by
 unfold isD at h; simp only [Bool.and_eq_true, decide_eq_true_eq] at h; omega
theorem parse_val : ∀ (t : Bs) (a : Nat), t.all isD = true → a < 18446744073709551616 → (Lib.parseUint10 a t = .ok (valF a t) ∧ valF a t < 18446744073709551616) ∨ (Lib.parseUint10 a t = .range ∧ 18446744073709551616 ≤ valF a t)
 | [], a, _, h => .inl ⟨rfl, h⟩
 | c :: r, a, hd, h => by
  simp only [List.all_cons, Bool.and_eq_true] at hd
  have hc := isD_nat hd.1
  have hg := valF_ge r (a * 10 + (c.toNat - 48))
  rw [Lib.parseUint10, if_pos hc, valF_cons]
  by_cases h1 : 1844674407370955162 ≤ a
  ·right; rw [if_pos h1]; exact ⟨rfl, by omega⟩
  ·rw [if_neg h1]
   by_cases h2 : 18446744073709551616 ≤ a * 10 + (c.toNat - 48)
   ·right; rw [if_pos h2]; exact ⟨rfl, by omega⟩
   ·rw [if_neg h2]; exact parse_val r _ hd.2 (by omega)
def negB (s : Bs) : Bool := s.head? == some 45
def magB (s : Bs) : Bs := bif negB s then s.tail else s
def numE (s : Bs) : Int := bif (magB s).isEmpty || ((magB s).head? == some 48 && (decide (1 < (magB s).length) || negB s)) then 3 else bif !(magB s).all isD then 3 else bif decide ((bif negB s then lim63 else lim63 - 1) < valF 0 (magB s)) then 4 else 0
theorem trim_eq (s : Bs) : Z33_q s [45] = some (magB s) := by
 unfold Z33_q Z1_q Z0_q magB negB
 cases s with
 | nil => rfl
 | cons c r =>
  have h1 : decide ((([45] : Bs).length : Int) ≤ (((c :: r : Bs).length : Nat) : Int)) = true := decide_eq_true (by simp only [List.length_cons, List.length_nil]; omega)
  simp only [Ab.on, h1, cond_true, Bool.true_and, List.head?_cons, List.tail_cons]
  have h2 : List.take ([45] : Bs).length (c :: r) = [c] := rfl
  rw [h2]
  by_cases h : c = 45
  ·subst h
   rw [show (([45] : Bs) == [45]) = true from rfl, show (some (45 : UInt8) == some 45) = true from rfl]
   simp only [cond_true]
   rw [show (some ((([45] : Bs).length : Nat) : Int)) = some (((1 : Nat) : Int)) from rfl, cut_from (by simp)]; rfl
  ·have h3 : (([c] : Bs) == [45]) = false := by simpa using h
   have h4 : (some c == some 45) = false := by simpa using h
   rw [h3, h4]; rfl
theorem tdig_eq : ∀ l : Bs, Z34_q19 l = bif l.all isD then Sum.inl () else Sum.inr (0, 3)
 | [] => rfl
 | c :: r => by
  rw [Z34_q19, tdig_eq r]
  simp only [Ab.on, List.all_cons]
  unfold isD
  by_cases h1 : ((c.toNat : Nat) : Int) < 48
  ·rw [show decide (((c.toNat : Nat) : Int) < 48) = true from decide_eq_true h1, show decide ((48 : Int) ≤ ((c.toNat : Nat) : Int)) = false from decide_eq_false (by omega)]; rfl
  ·rw [show decide (((c.toNat : Nat) : Int) < 48) = false from decide_eq_false h1, show decide ((48 : Int) ≤ ((c.toNat : Nat) : Int)) = true from decide_eq_true (by omega)]
   by_cases h2 : (57 : Int) < ((c.toNat : Nat) : Int)
   ·rw [show decide (((c.toNat : Nat) : Int) ≤ 57) = false from decide_eq_false (by omega)]; simp [h2]
   ·rw [show decide (((c.toNat : Nat) : Int) ≤ 57) = true from decide_eq_true (by omega)]; simp [h2]
theorem rdig_eq : ∀ l : Bs, Z7_q47 l = bif l.all isD then Sum.inl () else Sum.inr (0, 3)
 | [] => rfl
 | c :: r => by
  rw [Z7_q47, rdig_eq r]
  simp only [Ab.on, List.all_cons]
  rw [show Z10_q ((c.toNat : Nat) : Int) = isD c from rfl]
  cases isD c <;> rfl
theorem mag_cases (s : Bs) : (negB s = true ∧ ∃ r, s = 45 :: r ∧ magB s = r) ∨ (negB s = false ∧ magB s = s) := by
 unfold magB negB
 cases s with
 | nil => exact .inr ⟨rfl, rfl⟩
 | cons c r =>
  by_cases h : c = 45
  ·subst h; exact .inl ⟨rfl, r, rfl, rfl⟩
  ·have h4 : (some c == some 45) = false := by simpa using h
   right; simp only [List.head?_cons, h4]; exact ⟨trivial, rfl⟩
theorem atoi_num {s : Bs} (hl : s.length ≤ 1048577) (hne : magB s ≠ []) (hd : (magB s).all isD = true) : ∃ v, Z22_q s = some (v, decide ((bif negB s then lim63 else lim63 - 1) < valF 0 (magB s))) := by
 unfold Z22_q Z22 atoiC
 rw [if_pos (Nat.le_trans hl (by decide))]
 rcases mag_cases s with ⟨hn, r, rfl, hm⟩ | ⟨hn, hm⟩
 ·rw [hm] at hne hd ⊢
  rw [hn]
  have e : Lib.atoiAll (45 :: r) = (match Lib.parseUint10 0 r with | .syntax => .syntax | .range => .range | .ok u => if ¬ True ∧ 9223372036854775808 ≤ u then .range else if True ∧ 9223372036854775808 < u then .range else .ok (if True then -(u : Int) else u)) := by
   unfold Lib.atoiAll Lib.parseMag
   dsimp only
   rw [if_pos (show (45 : UInt8).toNat = 43 ∨ (45 : UInt8).toNat = 45 from .inr rfl), if_neg hne]
   simp only [show ((45 : UInt8).toNat = 45) = True from eq_true rfl]
   cases Lib.parseUint10 0 r <;> simp
  rw [e]
  rcases parse_val r 0 hd (by decide) with ⟨h1, h2⟩ | ⟨h1, h2⟩
  ·rw [h1]
   by_cases h3 : 9223372036854775808 < valF 0 r
   ·exact ⟨Lib.atoiSat (45 :: r), by simp only [not_true_eq_false, false_and, if_false, true_and, h3, if_true, cond_true]; rw [decide_eq_true (show lim63 < valF 0 r from h3)]⟩
   ·exact ⟨_, by simp only [not_true_eq_false, false_and, if_false, true_and, h3, if_true, cond_true]; rw [decide_eq_false (show ¬ lim63 < valF 0 r from h3)]⟩
  ·rw [h1]
   exact ⟨_, by simp only [cond_true]; rw [decide_eq_true (show lim63 < valF 0 r by unfold lim63; omega)]⟩
 ·rw [hm] at hne hd ⊢
  rw [hn]
  cases s with
  | nil => exact absurd rfl hne
  | cons c r =>
   simp only [List.all_cons, Bool.and_eq_true] at hd
   have hc := isD_nat hd.1
   have hd' : (c :: r).all isD = true := by simp [hd.1, hd.2]
   have e : Lib.atoiAll (c :: r) = (match Lib.parseUint10 0 (c :: r) with | .syntax => .syntax | .range => .range | .ok u => if ¬ False ∧ 9223372036854775808 ≤ u then .range else if False ∧ 9223372036854775808 < u then .range else .ok (if False then -(u : Int) else u)) := by
    unfold Lib.atoiAll Lib.parseMag
    have h45 : (c.toNat = 45) = False := eq_false (by omega)
    dsimp only
    rw [if_neg (show ¬ (c.toNat = 43 ∨ c.toNat = 45) by omega), if_neg hne]
    simp only [h45]
    cases Lib.parseUint10 0 (c :: r) <;> simp
   rw [e]
   rcases parse_val (c :: r) 0 hd' (by decide) with ⟨h1, h2⟩ | ⟨h1, h2⟩
   ·rw [h1]
    by_cases h3 : 9223372036854775808 ≤ valF 0 (c :: r)
    ·exact ⟨_, by simp only [not_false_eq_true, true_and, h3, if_true, cond_false]; rw [decide_eq_true (show lim63 - 1 < valF 0 (c :: r) by unfold lim63; omega)]⟩
    ·exact ⟨_, by simp only [not_false_eq_true, true_and, h3, if_false, false_and, cond_false]; rw [decide_eq_false (show ¬ lim63 - 1 < valF 0 (c :: r) by unfold lim63; omega)]⟩
   ·rw [h1]
    exact ⟨_, by simp only [cond_false]; rw [decide_eq_true (show lim63 - 1 < valF 0 (c :: r) by unfold lim63; omega)]⟩
theorem tnum_eq {s : Bs} (hl : s.length ≤ 1048577) : ∃ v, Z34 s = some (v, numE s) := by
 rw [Z34_eq]
 unfold Z34_q
 rw [trim_eq, Option.bind_some, tdig_eq]
 unfold numE
 cases hm : magB s with
 | nil => exact ⟨0, rfl⟩
 | cons c r =>
  rw [show ((c :: r : Bs) == []) = false from rfl, show ((c :: r : Bs)[0]?) = some c from rfl]
  simp only [guardO, Bool.not_false, if_true, Option.bind_some, Bool.false_or, List.isEmpty_cons, List.head?_cons]
  have h48 : decide (((c.toNat : Nat) : Int) = 48) = (some c == some 48) := by
   rw [Bool.eq_iff_iff, decide_eq_true_eq]
   simp only [Option.some_beq_some, beq_iff_eq]
   rw [← UInt8.toNat_inj]
   show _ ↔ c.toNat = 48
   omega
  have hlen : (decide ((1 : Int) < (((c :: r : Bs).length : Nat) : Int)) || decide ((1 : Int) < ((s.length : Nat) : Int))) = (decide (1 < (c :: r : Bs).length) || negB s) := by
   rcases mag_cases s with ⟨hn, r', rfl, hm'⟩ | ⟨hn, hm'⟩
   ·rw [hn, Bool.or_true]
    rw [hm'] at hm; subst hm
    rw [show decide ((1 : Int) < (((45 :: c :: r : Bs).length : Nat) : Int)) = true from decide_eq_true (by simp only [List.length_cons]; omega), Bool.or_true]
   ·rw [hn, Bool.or_false, ← hm', hm, Bool.or_self, Bool.eq_iff_iff, decide_eq_true_eq, decide_eq_true_eq]; omega
  rw [h48, hlen]
  cases hx : (some c == some 48 && (decide (1 < (c :: r : Bs).length) || negB s))
  ·simp only [cond_false]
   cases hd : (c :: r : Bs).all isD
   ·exact ⟨0, rfl⟩
   ·simp only [Ab.on, cond_true, Bool.not_true, cond_false]
    obtain ⟨v, e⟩ := atoi_num hl (by rw [hm]; simp) (by rw [hm]; exact hd)
    rw [hm] at e
    rw [e, Option.bind_some]
    cases decide ((bif negB s then lim63 else lim63 - 1) < valF 0 (c :: r))
    ·exact ⟨v, rfl⟩
    ·exact ⟨0, rfl⟩
  ·exact ⟨0, rfl⟩
theorem wrap64_nat (n : Int) (h0 : -9223372036854775808 ≤ n) (h1 : n ≤ 9223372036854775807) : IntKind.wrap .i64 n = n := by
 simp [IntKind.wrap, IntKind.bits, IntKind.signed]; omega
theorem tdiv_neg (m : Nat) : Int.tdiv (-(m : Int)) 10 = -((m / 10 : Nat) : Int) := by
 rw [Int.neg_tdiv, Int.tdiv_eq_ediv_of_nonneg (by omega)]; rfl
theorem rval : ∀ (t : Bs) (a : Nat), t.all isD = true → a ≤ lim63 → (Z7_q28 t (-(a : Int)) = some (Sum.inl (-(valF a t : Int))) ∧ valF a t ≤ lim63) ∨ (Z7_q28 t (-(a : Int)) = some (Sum.inr (0, 4)) ∧ lim63 < valF a t)
 | [], a, _, h => .inl ⟨rfl, h⟩
 | c :: r, a, hd, h => by
  simp only [List.all_cons, Bool.and_eq_true] at hd
  have hc := isD_nat hd.1
  have hg := valF_ge r (a * 10 + (c.toNat - 48))
  obtain ⟨d, hdd⟩ : ∃ d : Nat, c.toNat = 48 + d := ⟨c.toNat - 48, by omega⟩
  have hd9 : d ≤ 9 := by omega
  have e1 : subC (IntKind.wrap .i64 ((c.toNat : Nat) : Int)) 48 = some (d : Int) := by
   rw [wrap64_nat _ (by omega) (by omega), subC_ok (by omega), hdd]
   exact congrArg some (by omega)
  have e2 : addC (-9223372036854775808) (d : Int) = some (-((lim63 - d : Nat) : Int)) := by
   rw [addC_ok (by omega)]; unfold lim63; exact congrArg some (by omega)
  have e3 : IntKind.wrap .i64 (Int.tdiv (-((lim63 - d : Nat) : Int)) 10) = -(((lim63 - d) / 10 : Nat) : Int) := by
   rw [tdiv_neg, wrap64_nat _ (by unfold lim63; omega) (by unfold lim63; omega)]
  rw [Z7_q28]
  simp only [Ab.on]
  rw [e1, Option.bind_some, e2, Option.bind_some, e3, valF_cons, show c.toNat - 48 = d by omega]
  rw [show c.toNat - 48 = d by omega] at hg
  by_cases h1 : lim63 < a * 10 + d
  ·right
   rw [show decide (-(a : Int) < -(((lim63 - d) / 10 : Nat) : Int)) = true from decide_eq_true (by unfold lim63 at *; omega), cond_true]
   exact ⟨rfl, by omega⟩
  ·rw [show decide (-(a : Int) < -(((lim63 - d) / 10 : Nat) : Int)) = false from decide_eq_false (by unfold lim63 at *; omega), cond_false]
   have e4 : mulC 10 (-(a : Int)) = some (-((a * 10 : Nat) : Int)) := by
    unfold mulC lim63 at *
    rw [if_pos (by omega)]; exact congrArg some (by push_cast; omega)
   have e5 : subC (-((a * 10 : Nat) : Int)) (d : Int) = some (-((a * 10 + d : Nat) : Int)) := by
    unfold lim63 at *
    rw [subC_ok (by omega)]; exact congrArg some (by push_cast; omega)
   rw [e4, Option.bind_some, e5, Option.bind_some]
   exact rval r _ hd.2 (by omega)
theorem rnum_eq (s : Bs) : ∃ v, Z7 s = some (v, numE s) := by
 rw [Z7_eq]
 unfold Z7_q
 have h45 : ((decide ((0 : Int) < ((s.length : Nat) : Int))) && (decide ((((bif (decide ((0 : Int) < ((s.length : Nat) : Int))) then ((s)[0]?.getD (0 : UInt8)) else (0 : UInt8)).toNat : Nat) : Int) = (45 : Int)))) = negB s := by
  unfold negB
  cases s with
  | nil => rfl
  | cons c r =>
   rw [show decide ((0 : Int) < (((c :: r : Bs).length : Nat) : Int)) = true from decide_eq_true (by simp only [List.length_cons]; omega)]
   simp only [cond_true, Bool.true_and, List.getElem?_cons_zero, Option.getD_some, List.head?_cons]
   rw [Bool.eq_iff_iff, decide_eq_true_eq]
   simp only [Option.some_beq_some, beq_iff_eq]
   rw [← UInt8.toNat_inj]
   show _ ↔ c.toNat = 45
   omega
 simp only [Ab.on, h45]
 have hcut : (bif negB s then ((cutC s (some (1 : Int)) none).bind fun x61 => some x61) else (some s)) = some (magB s) := by
  rcases mag_cases s with ⟨hn, r, rfl, hm⟩ | ⟨hn, hm⟩
  ·rw [hn, hm, cond_true, show (some (1 : Int)) = some ((1 : Nat) : Int) from rfl, cut_from (by simp)]; rfl
  ·rw [hn, hm]; rfl
 rw [hcut, Option.bind_some, rdig_eq]
 unfold numE
 cases hm : magB s with
 | nil => exact ⟨0, rfl⟩
 | cons c r =>
  rw [show decide ((((c :: r : Bs).length : Nat) : Int) = 0) = false from decide_eq_false (by simp only [List.length_cons]; omega), show ((c :: r : Bs)[0]?) = some c from rfl]
  simp only [guardO, Bool.not_false, if_true, Option.bind_some, Bool.false_or, List.isEmpty_cons, List.head?_cons]
  have h48 : decide (((c.toNat : Nat) : Int) = 48) = (some c == some 48) := by
   rw [Bool.eq_iff_iff, decide_eq_true_eq]
   simp only [Option.some_beq_some, beq_iff_eq]
   rw [← UInt8.toNat_inj]
   show _ ↔ c.toNat = 48
   omega
  have hlen : (decide ((1 : Int) < (((c :: r : Bs).length : Nat) : Int))) = (decide (1 < (c :: r : Bs).length)) := by
   rw [Bool.eq_iff_iff, decide_eq_true_eq, decide_eq_true_eq]; omega
  rw [h48, hlen]
  cases hx : (some c == some 48 && (decide (1 < (c :: r : Bs).length) || negB s))
  ·simp only [cond_false]
   cases hd : (c :: r : Bs).all isD
   ·exact ⟨0, rfl⟩
   ·simp only [cond_true, Bool.not_true, cond_false]
    rcases rval (c :: r) 0 hd (by decide) with ⟨h1, h2⟩ | ⟨h1, h2⟩
    ·have h1' : Z7_q28 (c :: r) 0 = some (Sum.inl (-(valF 0 (c :: r) : Int))) := h1
     rw [h1', Option.bind_some]
     cases hn : negB s
     ·simp only [cond_false]
      by_cases h3 : valF 0 (c :: r) = lim63
      ·rw [show decide (-(valF 0 (c :: r) : Int) = -9223372036854775808) = true from decide_eq_true (by rw [h3]; rfl), decide_eq_true (show lim63 - 1 < valF 0 (c :: r) by rw [h3]; decide)]
       exact ⟨0, rfl⟩
      ·rw [show decide (-(valF 0 (c :: r) : Int) = -9223372036854775808) = false from decide_eq_false (by unfold lim63 at h3; omega), decide_eq_false (show ¬ lim63 - 1 < valF 0 (c :: r) by unfold lim63 at *; omega)]
       exact ⟨_, rfl⟩
     ·simp only [cond_true]
      rw [decide_eq_false (show ¬ lim63 < valF 0 (c :: r) by omega)]
      exact ⟨_, rfl⟩
    ·have h1' : Z7_q28 (c :: r) 0 = some (Sum.inr (0, 4)) := h1
     rw [h1', Option.bind_some]
     have h3 : decide ((bif negB s then lim63 else lim63 - 1) < valF 0 (c :: r)) = true := decide_eq_true (by cases negB s <;> simp <;> omega)
     rw [h3]
     exact ⟨0, rfl⟩
  ·exact ⟨0, rfl⟩
end Go.Proofs

namespace Go.Proofs
open Go Go.Ab
def hexS : Bs := [48, 49, 50, 51, 52, 53, 54, 55, 56, 57, 97, 98, 99, 100, 101, 102]
def hvV (n : Int) : Int := (Z12 n).getD (-2)
def ixV (n : Int) : Int := Lib.indexByte hexS (IntKind.wrap .u8 ((BitVec.ofInt (IntKind.bits .u8) n ||| BitVec.ofInt (IntKind.bits .u8) (32 : Int)).toNat : Int)).toNat.toUInt8
def badV (n : Int) : Bool := ((decide (ixV n < (0 : Int))) || (decide (n < (48 : Int)))) || ((decide ((57 : Int) < n)) && (decide (n < (65 : Int))))
theorem hex_tab : (List.range 256).all (fun n => (Z12 (n : Int) == some (hvV (n : Int))) && ((badV (n : Int) == decide (hvV (n : Int) < 0)) && ((decide (hvV (n : Int) < 0) || decide (ixV (n : Int) = hvV (n : Int))) && (decide (-1 ≤ hvV (n : Int)) && decide (hvV (n : Int) ≤ 15))))) = true := by
 set_option maxRecDepth 100000 in kernel_rfl
theorem hex_at (c : UInt8) : Z12 ((c.toNat : Nat) : Int) = some (hvV ((c.toNat : Nat) : Int)) ∧ badV ((c.toNat : Nat) : Int) = decide (hvV ((c.toNat : Nat) : Int) < 0) ∧ (hvV ((c.toNat : Nat) : Int) < 0 ∨ ixV ((c.toNat : Nat) : Int) = hvV ((c.toNat : Nat) : Int)) ∧ -1 ≤ hvV ((c.toNat : Nat) : Int) ∧ hvV ((c.toNat : Nat) : Int) ≤ 15 := by
 have h := List.all_eq_true.1 hex_tab c.toNat (List.mem_range.2 c.toNat_lt)
 simp only [Bool.and_eq_true, Bool.or_eq_true, decide_eq_true_eq, beq_iff_eq] at h
 exact ⟨h.1, h.2.1, h.2.2.1, h.2.2.2.1, h.2.2.2.2⟩
def plV (n : Int) : Int × Bool := (Z37 n).getD (0, false)
theorem pl_tab : (List.range 256).all (fun n => (Z37 (n : Int) == some (plV (n : Int))) && (decide (0 ≤ (plV (n : Int)).1) && decide ((plV (n : Int)).1 < 256))) = true := by
 set_option maxRecDepth 100000 in kernel_rfl
theorem pl_at (c : UInt8) : Z37 ((c.toNat : Nat) : Int) = some (plV ((c.toNat : Nat) : Int)) ∧ 0 ≤ (plV ((c.toNat : Nat) : Int)).1 ∧ (plV ((c.toNat : Nat) : Int)).1 < 256 := by
 have h := List.all_eq_true.1 pl_tab c.toNat (List.mem_range.2 c.toNat_lt)
 simp only [Bool.and_eq_true, decide_eq_true_eq, beq_iff_eq] at h
 exact ⟨h.1, h.2.1, h.2.2⟩
theorem simple_plain (n : Int) : Z11 n = Z37 n := rfl
def Rp (B : Strings_Builder) (l : Bs) : Prop := (l = [] ∧ B.Fbuf = ⟨true, []⟩) ∨ (l ≠ [] ∧ B.Fbuf = ⟨false, l.map fun b => (b.toNat : Int)⟩)
theorem Rp.buf {B : Strings_Builder} {l : Bs} (h : Rp B l) : B.Fbuf.l = l.map fun b => (b.toNat : Int) := by
 rcases h with ⟨rfl, h⟩ | ⟨_, h⟩ <;> rw [h]; rfl
theorem byte_cast {n : Int} (h0 : 0 ≤ n) (h1 : n < 256) : ((UInt8.ofNat n.toNat).toNat : Int) = n := by
 rw [UInt8.toNat_ofNat', Nat.mod_eq_of_lt (by omega)]; omega
theorem Rp.wb {B : Strings_Builder} {l : Bs} (h : Rp B l) {n : Int} (h0 : 0 ≤ n) (h1 : n < 256) (hl : l.length ≤ 1048576) : ∃ B', Z24 B n = some (false, B') ∧ Rp B' (l ++ [UInt8.ofNat n.toNat]) := by
 refine ⟨⟨true, ⟨false, (l ++ [UInt8.ofNat n.toNat]).map fun b => (b.toNat : Int)⟩⟩, ?_, .inr ⟨by simp, rfl⟩⟩
 have hb := h.buf
 have hlen : B.Fbuf.l.length = l.length := by rw [hb, List.length_map]
 unfold Z24 Z26 appC
 simp only [Option.bind_some]
 rw [if_pos (by rw [hlen]; simp only [List.length_cons, List.length_nil]; unfold maxN; omega)]
 simp only [Option.bind_some, hb, List.map_append, List.map_cons, List.map_nil, byte_cast h0 h1, List.isEmpty_cons, Bool.and_false]
theorem Rp.str {B : Strings_Builder} {l : Bs} (h : Rp B l) : Z23 B = some l := by
 unfold Z23 bldStr
 rw [if_pos]
 ·refine congrArg some ?_
  unfold bytesC
  rw [h.buf, List.map_map]
  conv => rhs; rw [← List.map_id l]
  refine List.map_congr_left fun b _ => ?_
  simp
 ·refine ⟨?_, ?_⟩
  ·rw [h.buf, List.all_map, List.all_eq_true]
   intro b _
   have := b.toNat_lt
   simp; omega
  ·rcases h with ⟨_, h⟩ | ⟨h2, h⟩
   ·rw [h]; exact .inl ⟨rfl, rfl⟩
   ·rw [h]; exact .inr ⟨rfl, by simpa using h2⟩
theorem cat_one {l : Bs} {n : Int} (hl : l.length ≤ 1048576) : catC l (bytesC (⟨false, [n]⟩ : Sl Int)) = some (l ++ [UInt8.ofNat n.toNat]) := by
 unfold catC bytesC
 rw [if_pos (by simp only [List.map_cons, List.map_nil, List.length_cons, List.length_nil]; unfold maxS; omega)]
 rfl
def hex4 (a b c d : Int) : Int := bif decide (hvV a < 0) || (decide (hvV b < 0) || (decide (hvV c < 0) || decide (hvV d < 0))) then -1 else ((hvV a * 16 + hvV b) * 16 + hvV c) * 16 + hvV d
theorem code_step (s : Bs) (n : Nat) (v : Int) (i : Nat) (c : UInt8) (hc : s[i]? = some c) (h4 : i < 4) (h0 : 0 ≤ v) (h1 : v ≤ 65536) : Z9_l12 s (n + 1) v (i : Int) = bif decide (hvV ((c.toNat : Nat) : Int) < 0) then some (-1) else Z9_l12 s n (v * 16 + hvV ((c.toNat : Nat) : Int)) ((i + 1 : Nat) : Int) := by
 obtain ⟨e1, -, -, e4, e5⟩ := hex_at c
 have m1 : mulC 16 v = some (v * 16) := by unfold mulC; rw [if_pos (by omega), Int.mul_comm]
 have one : addC (i : Int) 1 = some (((i + 1 : Nat)) : Int) := by rw [addC_ok (by omega)]; rfl
 have two : addC (v * 16) (hvV ((c.toNat : Nat) : Int)) = some (v * 16 + hvV ((c.toNat : Nat) : Int)) := addC_ok (by omega)
 rw [Z9_l12, show decide ((i : Int) < 4) = true from decide_eq_true (by omega), idxC_nat, hc, cond_true, Option.bind_some, e1, Option.bind_some]
 rw [m1, Option.bind_some, Option.bind_some, e1, Option.bind_some, two, Option.bind_some, one, Option.bind_some]
theorem code_eq (a b c d : UInt8) : Z9 [a, b, c, d] = some (hex4 (a.toNat : Nat) (b.toNat : Nat) (c.toNat : Nat) (d.toNat : Nat)) := by
 obtain ⟨-, -, -, a4, a5⟩ := hex_at a
 obtain ⟨-, -, -, b4, b5⟩ := hex_at b
 obtain ⟨-, -, -, c4, c5⟩ := hex_at c
 obtain ⟨-, -, -, d4, d5⟩ := hex_at d
 unfold Z9
 rw [show (!decide ((((([a, b, c, d] : Bs).length : Nat)) : Int) = 4)) = false from rfl, cond_false]
 obtain ⟨m, hm⟩ : ∃ m, F0 = m + 1 + 1 + 1 + 1 + 1 := ⟨4611686018427387899, by rw [F0_eq]⟩
 rw [hm]
 unfold hex4
 have s1 := code_step [a, b, c, d] (m + 1 + 1 + 1 + 1) 0 0 a rfl (by omega) (by omega) (by omega)
 rw [show (((0 : Nat) : Int)) = 0 from rfl] at s1
 rw [s1]
 cases ha : decide (hvV ((a.toNat : Nat) : Int) < 0)
 ·have ha := of_decide_eq_false ha
  rw [cond_false, code_step [a, b, c, d] (m + 1 + 1 + 1) _ 1 b rfl (by omega) (by omega) (by omega)]
  cases hb : decide (hvV ((b.toNat : Nat) : Int) < 0)
  ·have hb := of_decide_eq_false hb
   rw [cond_false, code_step [a, b, c, d] (m + 1 + 1) _ 2 c rfl (by omega) (by omega) (by omega)]
   cases hc : decide (hvV ((c.toNat : Nat) : Int) < 0)
   ·have hc := of_decide_eq_false hc
    rw [cond_false, code_step [a, b, c, d] (m + 1) _ 3 d rfl (by omega) (by omega) (by omega)]
    cases hd : decide (hvV ((d.toNat : Nat) : Int) < 0)
    ·rw [cond_false, Z9_l12]
     have e : (0 * 16 + hvV ((a.toNat : Nat) : Int)) = hvV ((a.toNat : Nat) : Int) := by omega
     rw [e]
     rfl
    ·rfl
   ·rfl
  ·rfl
 ·rfl
theorem hexT_step (y : Strings_Builder) (j : Int) (s : Sl Int) (k : Int → Strings_Builder → Option (Bs × Int)) (n : Nat) (v : Int) (i : Nat) (c : UInt8) (hc : s.l[i]? = some ((c.toNat : Nat) : Int)) (h0 : 0 ≤ v) (h1 : v ≤ 65536) : Z36_l81 y j s k (n + 1) v i = bif decide (hvV ((c.toNat : Nat) : Int) < 0) then some ([], 3) else Z36_l81 y j s k n (v * 16 + hvV ((c.toNat : Nat) : Int)) (i + 1) := by
 obtain ⟨-, e2, e3, e4, e5⟩ := hex_at c
 have hi := (List.getElem?_eq_some_iff.1 hc).1
 rw [Z36_l81, show decide (((i : Nat) : Int) < ((s.l.length : Nat) : Int)) = true from decide_eq_true (by omega), hc]
 have ei : ∀ f : Int → Option (Bs × Int), (Z30 ([48, 49, 50, 51, 52, 53, 54, 55, 56, 57, 97, 98, 99, 100, 101, 102] : Bs) (IntKind.wrap .u8 ((BitVec.ofInt (IntKind.bits .u8) ((c.toNat : Nat) : Int) ||| BitVec.ofInt (IntKind.bits .u8) (32 : Int)).toNat : Int))).bind f = f (ixV ((c.toNat : Nat) : Int)) := fun _ => rfl
 simp only [cond_true, Option.bind_some]
 rw [ei]
 rw [show ((((decide (ixV ((c.toNat : Nat) : Int) < (0 : Int))) || (decide (((c.toNat : Nat) : Int) < (48 : Int)))) || ((decide ((57 : Int) < ((c.toNat : Nat) : Int))) && (decide (((c.toNat : Nat) : Int) < (65 : Int)))))) = decide (hvV ((c.toNat : Nat) : Int) < 0) from e2]
 cases hv : decide (hvV ((c.toNat : Nat) : Int) < 0)
 ·have hv := of_decide_eq_false hv
  have e3 : ixV ((c.toNat : Nat) : Int) = hvV ((c.toNat : Nat) : Int) := e3.resolve_left hv
  have m1 : mulC v 16 = some (v * 16) := by unfold mulC; rw [if_pos (by omega)]
  rw [cond_false, cond_false, m1, Option.bind_some, e3, addC_ok (by omega), Option.bind_some]
 ·rfl
theorem hexT_eq (y : Strings_Builder) (j : Int) (a b c d : UInt8) (k : Int → Strings_Builder → Option (Bs × Int)) : Z36_l81 y j (strSl [a, b, c, d]) k ((strSl [a, b, c, d]).l.length + 1) 0 0 = bif decide (hex4 (a.toNat : Nat) (b.toNat : Nat) (c.toNat : Nat) (d.toNat : Nat) < 0) || decide (255 < hex4 (a.toNat : Nat) (b.toNat : Nat) (c.toNat : Nat) (d.toNat : Nat)) then some ([], 3) else (Z24 y (IntKind.wrap .u8 (hex4 (a.toNat : Nat) (b.toNat : Nat) (c.toNat : Nat) (d.toNat : Nat)))).bind fun x73 => (addC j (4 : Int)).bind fun x74 => Z36_j29 k x74 x73.2 := by
 obtain ⟨-, -, -, a4, a5⟩ := hex_at a
 obtain ⟨-, -, -, b4, b5⟩ := hex_at b
 obtain ⟨-, -, -, c4, c5⟩ := hex_at c
 obtain ⟨-, -, -, d4, d5⟩ := hex_at d
 show Z36_l81 y j (strSl [a, b, c, d]) k (0 + 1 + 1 + 1 + 1 + 1) 0 0 = _
 rw [hexT_step y j (strSl [a, b, c, d]) k _ 0 0 a rfl (by omega) (by omega)]
 cases ha : decide (hvV ((a.toNat : Nat) : Int) < 0)
 ·have ha' := of_decide_eq_false ha
  rw [cond_false, hexT_step y j (strSl [a, b, c, d]) k _ _ 1 b rfl (by omega) (by omega)]
  cases hb : decide (hvV ((b.toNat : Nat) : Int) < 0)
  ·have hb' := of_decide_eq_false hb
   rw [cond_false, hexT_step y j (strSl [a, b, c, d]) k _ _ 2 c rfl (by omega) (by omega)]
   cases hc : decide (hvV ((c.toNat : Nat) : Int) < 0)
   ·have hc' := of_decide_eq_false hc
    rw [cond_false, hexT_step y j (strSl [a, b, c, d]) k _ _ 3 d rfl (by omega) (by omega)]
    cases hd : decide (hvV ((d.toNat : Nat) : Int) < 0)
    ·have hd' := of_decide_eq_false hd
     have e : (0 * 16 + hvV ((a.toNat : Nat) : Int)) = hvV ((a.toNat : Nat) : Int) := by omega
     have e4 : hex4 (a.toNat : Nat) (b.toNat : Nat) (c.toNat : Nat) (d.toNat : Nat) = ((hvV ((a.toNat : Nat) : Int) * 16 + hvV ((b.toNat : Nat) : Int)) * 16 + hvV ((c.toNat : Nat) : Int)) * 16 + hvV ((d.toNat : Nat) : Int) := by
      unfold hex4; rw [ha, hb, hc, hd]; rfl
     rw [cond_false, Z36_l81, e4, e, show decide (((((hvV ((a.toNat : Nat) : Int) * 16 + hvV ((b.toNat : Nat) : Int)) * 16 + hvV ((c.toNat : Nat) : Int)) * 16 + hvV ((d.toNat : Nat) : Int)) < 0)) = false from decide_eq_false (by omega)]
     rfl
    ·have e4 : hex4 (a.toNat : Nat) (b.toNat : Nat) (c.toNat : Nat) (d.toNat : Nat) = -1 := by unfold hex4; rw [hd]; simp
     rw [e4]; rfl
   ·have e4 : hex4 (a.toNat : Nat) (b.toNat : Nat) (c.toNat : Nat) (d.toNat : Nat) = -1 := by unfold hex4; rw [hc]; simp
    rw [e4]; rfl
  ·have e4 : hex4 (a.toNat : Nat) (b.toNat : Nat) (c.toNat : Nat) (d.toNat : Nat) = -1 := by unfold hex4; rw [hb]; simp
   rw [e4]; rfl
 ·have e4 : hex4 (a.toNat : Nat) (b.toNat : Nat) (c.toNat : Nat) (d.toNat : Nat) = -1 := by unfold hex4; rw [ha]; simp
  rw [e4]; rfl
end Go.Proofs
