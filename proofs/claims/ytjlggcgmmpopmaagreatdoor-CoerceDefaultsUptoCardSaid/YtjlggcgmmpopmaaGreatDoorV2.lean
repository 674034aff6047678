import Derived.Test.YtjlggcgmmpopmaaGreatDoorV1
set_option maxRecDepth 100000
set_option maxHeartbeats 2000000
set_option linter.unusedVariables false
set_option linter.unusedSimpArgs false
namespace Go.Proofs
open Go Go.Ab
open AOps Cert AWp
variable {lou : Lou}
def Z77 (a0 : (Sl TMember)) (a1 : (TMember → Option Bool)) : Option Bool := (Z79 a0 a1).bind fun x3 => some (decide ((0 : Int) ≤ x3))
theorem Z77_walk {a0 : (Sl TMember)} {a1 : (TMember → Option Bool)} {w0 : Option Nat} {cl1 : List D} {k1 : Nat} {r : Bool} (hE : Z77 a0 a1 = some r) (H : Heap) (hf1 : ∀ x0 r, a1 x0 = some r → ∀ H, ACalls Tryz.prog k1 ([.agg (TMember.c x0)] ++ cl1.map A.d) H fun v h' => v = .a (.d (.bool r)) ∧ h' = H) : ACalls Tryz.prog 93 [.d (Sl.d 2 TMember.c w0 a0), .d (.func k1 cl1)] H fun v h' => v = .a (.d (.bool r)) ∧ h' = H := by
 unfold Z77 at hE
 refine ACalls.of_wp (fn := Tryz.f93) (c := _) Tryz.tab_ok (fun _ _ => Tryz.call93 _ _) Tryz.func93 rfl (n := 9) rfl (rs := [.tmp 4]) rfl rfl ?_
 refine seqK fun K1 hK1 => ?_
 refine region ?_
 refine s0 assignA rfl ?_
 refine nil ?_
 refine hK1 _ ?_
 clear hK1 K1
 refine seqK fun K2 hK2 => ?_
 refine region ?_
 refine s0 moveA rfl ?_
 refine s0 moveA rfl ?_
 obtain ⟨x3, gx3, hE⟩ := bindO_some hE
 refine s0 (callP rfl rfl (fun H => Z79_walk gx3 H hf1)) rfl ?_
 refine s0 (binI rfl rfl rfl) rfl ?_
 refine s0 assignA rfl ?_
 refine nil ?_
 refine hK2 _ ?_
 clear hK2 K2
 refine AWp.ret ?_
 repeat (first | refine xBlock_ret ?_ | refine xThen_ret ?_)
 obtain rfl := Option.some.inj hE
 refine retQ.retF H rfl ⟨rfl, rfl⟩ ?_
 exact (fun _ _ h => h)
def Z11 (a0 : TMember) (a1 : TValue) : Option Bool := some ((a0.FName == a1.FText))
theorem Z11_walk {a0 : TMember} {a1 : TValue}   {r : Bool} (hE : Z11 a0 a1 = some r) (H : Heap)  : ACalls Tryz.prog 94 [.agg (TMember.c a0), .d (.view (TValue.c a1))] H fun v h' => v = .a (.d (.bool r)) ∧ h' = H := by
 unfold Z11 at hE
 refine ACalls.of_wp (fn := Tryz.f94) (c := _) Tryz.tab_ok (fun _ _ => Tryz.call94 _ _) Tryz.func94 rfl (n := 9) rfl (rs := [.tmp 3]) rfl rfl ?_
 refine seqK fun K1 hK1 => ?_
 refine region ?_
 refine s0 (boxV rfl) rfl ?_
 refine s0 assignA rfl ?_
 refine nil ?_
 refine hK1 _ ?_
 clear hK1 K1
 refine seqK fun K2 hK2 => ?_
 refine region ?_
 refine s0 (fieldVA (TK rfl) rfl rfl (TK rfl) rfl rfl) rfl ?_
 refine s0 (loadV (TK rfl) rfl rfl rfl) rfl ?_
 refine s0 (fieldVA (TK rfl) rfl rfl (TK rfl) rfl rfl) rfl ?_
 refine s0 (loadV (TK rfl) rfl rfl rfl) rfl ?_
 refine s0 (binS rfl rfl rfl) rfl ?_
 refine s0 assignA rfl ?_
 refine nil ?_
 refine hK2 _ ?_
 clear hK2 K2
 refine AWp.ret ?_
 repeat (first | refine xBlock_ret ?_ | refine xThen_ret ?_)
 obtain rfl := Option.some.inj hE
 refine retQ.retF H rfl ⟨rfl, rfl⟩ ?_
 exact (fun _ _ h => h)
def Z10_j3  (s8_4 : Bool) (y5_l0 : TValue) : Option (TValue × Int) := bif (!s8_4) then (some ((TValue.mk (0 : Int) (0 : Int) ([] : Bs) true ([]) (Sl.nil : Sl Bs)), (23 : Int))) else (some (y5_l0, (0 : Int)))
def Z10_j20  (y21_l0 : TValue) : Option (TValue × Int) := Z10_j3   (decide (y21_l0.FKind = (3 : Int))) y21_l0
def Z10_j26 (a0 : Coerce_coercer) (a1 : Bs)  (y27_l0 : TValue) : Option (TValue × Int) := (Z68 a0.Fd a1).bind fun x29 => guardO ((decide (y27_l0.FKind = (4 : Int)))) (Z77 x29.1.FMembers (fun y0 => Z11 y0 y27_l0)) false fun x30 => bif (!((decide (y27_l0.FKind = (4 : Int))) && x30)) then (some ((TValue.mk (0 : Int) (0 : Int) ([] : Bs) true ([]) (Sl.nil : Sl Bs)), (23 : Int))) else (some (y27_l0, (0 : Int)))
def Z10 (a0 : Coerce_coercer) (a1 : Bs) (a2 : TValue) : Option (TValue × Int) := bif ((a1 == ([73, 110, 116] : Bs))) then (Z10_j3   (((decide (a2.FKind = (2 : Int))) && (decide ((-2147483648 : Int) ≤ a2.FInt))) && (decide (a2.FInt < (2147483648 : Int)))) a2) else (bif ((a1 == ([83, 116, 114, 105, 110, 103] : Bs))) then (Z10_j3   (decide (a2.FKind = (3 : Int))) a2) else (bif ((a1 == ([66, 111, 111, 108, 101, 97, 110] : Bs))) then (Z10_j3   (decide (a2.FKind = (1 : Int))) a2) else (bif ((a1 == ([73, 68] : Bs))) then (bif (decide (a2.FKind = (2 : Int))) then ((Z83 a2.FInt).bind fun x24 => (Z90 x24).bind fun x25 => Z10_j20   x25) else (Z10_j20   a2)) else (bif ((decide (a2.FKind = (3 : Int))) && (!a0.Fliteral)) then (Z10_j26 a0 a1  (TValue.mk (4 : Int) a2.FInt a2.FText a2.FItems.nl a2.FItems.l a2.FKeys)) else (Z10_j26 a0 a1  a2)))))
theorem Z10_walk {a0 : Coerce_coercer} {a1 : Bs} {a2 : TValue} {oT : Ab.Obj} {c0 : Nat} {gT : Nat} {r : (TValue × Int)} (hE : Z10 a0 a1 a2 = some r) (H : Heap) (hc0 : H c0 = some (.cells (Coerce_coercer.c a0))) (hgT : H gT = some oT) (hoT : IsTab Tryz.prog oT) : ACalls Tryz.prog 68 [.d (.ptr c0 0), .d (.str a1), .agg (TValue.c a2)] H fun v h' => v = .tup [.agg (TValue.c r.1), .d (.int .i64 r.2)] ∧ h' = H := by
 unfold Z10 at hE
 refine ACalls.of_wp (fn := Tryz.f68) (c := _) Tryz.tab_ok (fun _ _ => Tryz.call68 _ _) Tryz.func68 rfl (n := 82) rfl (rs := [.cell 6 31, .tmp 7]) rfl rfl ?_
 refine seqK fun K1 hK1 => ?_
 refine region ?_
 refine sL (boxL rfl (by repeat (first | exact Snoc.nil | apply Snoc.cons))) rfl ?_
 refine sL (allocLA (TK rfl) rfl) rfl ?_
 refine s0 assignA rfl ?_
 refine nil ?_
 refine hK1 _ ?_
 clear hK1 K1
 refine seqK fun K2 hK2 => ?_
 refine region ?_
 refine s0 assignA rfl ?_
 refine nil ?_
 refine hK2 _ ?_
 clear hK2 K2
 refine AWp.seqJD (KeepsT.A (k := 5) (KeepsT.A (k := 6) KeepsT.nil)) (fun (z : Bool × TValue) => [(8, .a (.d (.bool z.1)))]) (fun z => [TValue.c z.2, TValue.c TValue.zero]) (fun z => H) (fun z => Z10_j3 z.1 z.2 = some r) ?_ ?_
 ·intro K3 hK3 hD3
  refine seqK fun K11 hK11 => ?_
  refine region ?_
  refine s0 moveA rfl ?_
  refine nil ?_
  refine hK11 _ ?_
  clear hK11 K11
  refine block ?_
  refine seqK fun K12 hK12 => ?_
  refine region ?_
  refine s0 (binS rfl rfl rfl) rfl ?_
  refine s0 assignA rfl ?_
  refine nil ?_
  refine hK12 _ ?_
  clear hK12 K12
  refine condE hE rfl (fun hc13 hE => ?_) (fun hc13 hE => ?_)
  ·refine region ?_
   refine s0 (fieldL (TK rfl) rfl rfl (TK rfl) rfl rfl) rfl ?_
   refine s0 (loadL (TK rfl) rfl rfl rfl rfl) rfl ?_
   refine s0 (binI rfl rfl rfl) rfl ?_
   refine s0 moveA rfl ?_
   refine gC rfl rfl (fun hC => fieldL (TK rfl) rfl rfl (TK rfl) rfl rfl) rfl ?_
   refine gC rfl rfl (fun hC => ungdLA (k := 47) rfl (loadL (TK rfl) rfl rfl rfl rfl)) rfl ?_
   refine gC rfl rfl (fun hC => ungdA (k := 48) rfl (binI rfl rfl rfl)) rfl ?_
   refine s0 (pickAndA rfl rfl rfl) rfl ?_
   refine s0 moveA rfl ?_
   refine gC rfl rfl (fun hC => fieldL (TK rfl) rfl rfl (TK rfl) rfl rfl) rfl ?_
   refine gC rfl rfl (fun hC => ungdLA (k := 52) rfl (loadL (TK rfl) rfl rfl rfl rfl)) rfl ?_
   refine gC rfl rfl (fun hC => ungdA (k := 53) rfl (binI rfl rfl rfl)) rfl ?_
   refine s0 (pickAndA rfl rfl rfl) rfl ?_
   refine s0 assignA rfl ?_
   refine nil ?_
   exact hK3 _ ((((decide (a2.FKind = (2 : Int))) && (decide ((-2147483648 : Int) ≤ a2.FInt))) && (decide (a2.FInt < (2147483648 : Int)))), a2) Weak.toA hE
  refine seqK fun K14 hK14 => ?_
  refine region ?_
  refine s0 (binS rfl rfl rfl) rfl ?_
  refine s0 assignA rfl ?_
  refine nil ?_
  refine hK14 _ ?_
  clear hK14 K14
  refine condE hE rfl (fun hc15 hE => ?_) (fun hc15 hE => ?_)
  ·refine region ?_
   refine s0 (fieldL (TK rfl) rfl rfl (TK rfl) rfl rfl) rfl ?_
   refine s0 (loadL (TK rfl) rfl rfl rfl rfl) rfl ?_
   refine s0 (binI rfl rfl rfl) rfl ?_
   refine s0 assignA rfl ?_
   refine nil ?_
   exact hK3 _ ((decide (a2.FKind = (3 : Int))), a2) Weak.toA hE
  refine seqK fun K16 hK16 => ?_
  refine region ?_
  refine s0 (binS rfl rfl rfl) rfl ?_
  refine s0 assignA rfl ?_
  refine nil ?_
  refine hK16 _ ?_
  clear hK16 K16
  refine condE hE rfl (fun hc17 hE => ?_) (fun hc17 hE => ?_)
  ·refine region ?_
   refine s0 (fieldL (TK rfl) rfl rfl (TK rfl) rfl rfl) rfl ?_
   refine s0 (loadL (TK rfl) rfl rfl rfl rfl) rfl ?_
   refine s0 (binI rfl rfl rfl) rfl ?_
   refine s0 assignA rfl ?_
   refine nil ?_
   exact hK3 _ ((decide (a2.FKind = (1 : Int))), a2) Weak.toA hE
  refine seqK fun K18 hK18 => ?_
  refine region ?_
  refine s0 (binS rfl rfl rfl) rfl ?_
  refine s0 assignA rfl ?_
  refine nil ?_
  refine hK18 _ ?_
  clear hK18 K18
  refine condE hE rfl (fun hc19 hE => ?_) (fun hc19 hE => ?_)
  ·refine seqJ (KeepsT.A (k := 5) (KeepsT.A (k := 6) KeepsT.nil)) (fun (z : TValue) => []) (fun z => [TValue.c z, TValue.c TValue.zero]) (fun z => H) (fun z => Z10_j20 z = some r) ?_ ?_
   ·intro K20 hK20
    refine seqK fun K22 hK22 => ?_
    refine region ?_
    refine s0 (fieldL (TK rfl) rfl rfl (TK rfl) rfl rfl) rfl ?_
    refine s0 (loadL (TK rfl) rfl rfl rfl rfl) rfl ?_
    refine s0 (binI rfl rfl rfl) rfl ?_
    refine nil ?_
    refine hK22 _ ?_
    clear hK22 K22
    refine condE hE rfl (fun hc23 hE => ?_) (fun hc23 hE => ?_)
    ·refine region ?_
     refine s0 (fieldL (TK rfl) rfl rfl (TK rfl) rfl rfl) rfl ?_
     refine s0 (loadL (TK rfl) rfl rfl rfl rfl) rfl ?_
     obtain ⟨x24, gx24, hE⟩ := bindO_some hE
     refine s0 (callR rfl rfl (Z83_walk (gT := gT) (oT := oT) gx24 _ hpG (by assumption))) rfl ?_
     obtain ⟨x25, gx25, hE⟩ := bindO_some hE
     refine s0 (callP rfl rfl (fun H => Z90_walk gx25 H)) rfl ?_
     refine sLn (storeLFA (TK rfl) rfl rfl rfl rfl rfl) ?_
     refine nil ?_
     exact hK20 _ x25 Weak.toA hE
    refine AWp.skip ?_
    exact hK20 _ a2 Weak.toA hE
   rintro y21_l0 hE
   try dsimp only at hE
   unfold Z10_j20 at hE
   refine region ?_
   refine s0 (fieldL (TK rfl) rfl rfl (TK rfl) rfl rfl) rfl ?_
   refine s0 (loadL (TK rfl) rfl rfl rfl rfl) rfl ?_
   refine s0 (binI rfl rfl rfl) rfl ?_
   refine s0 assignA rfl ?_
   refine nil ?_
   exact hK3 _ ((decide (y21_l0.FKind = (3 : Int))), y21_l0) Weak.toA hE
  refine seqJ (KeepsT.A (k := 0) (KeepsT.A (k := 1) (KeepsT.A (k := 5) (KeepsT.A (k := 6) KeepsT.nil)))) (fun (z : TValue) => []) (fun z => [TValue.c z, TValue.c TValue.zero]) (fun z => H) (fun z => Z10_j26 a0 a1 z = some r) ?_ ?_
  ·intro K26 hK26
   refine seqK fun K36 hK36 => ?_
   refine region ?_
   refine s0 (fieldL (TK rfl) rfl rfl (TK rfl) rfl rfl) rfl ?_
   refine s0 (loadL (TK rfl) rfl rfl rfl rfl) rfl ?_
   refine s0 (binI rfl rfl rfl) rfl ?_
   refine s0 moveA rfl ?_
   refine gC rfl rfl (fun hC => moveA) rfl ?_
   refine gC rfl rfl (fun hC => ungdA (k := 16) rfl (nilP rfl)) rfl ?_
   refine gC rfl rfl (fun hC => ungdA (k := 17) rfl (fieldP (TK rfl) rfl rfl (TK rfl) rfl rfl)) rfl ?_
   refine gC rfl rfl (fun hC => ungdA (k := 18) rfl (loadP (TK rfl) rfl rfl hpG rfl)) rfl ?_
   refine gC rfl rfl (fun hC => ungdA (k := 19) rfl (notB rfl)) rfl ?_
   refine s0 (pickAndA rfl rfl rfl) rfl ?_
   refine nil ?_
   refine hK36 _ ?_
   clear hK36 K36
   refine condE hE rfl (fun hc37 hE => ?_) (fun hc37 hE => ?_)
   ·refine region ?_
    refine s0 (fieldL (TK rfl) rfl rfl (TK rfl) rfl rfl) rfl ?_
    refine AOps.relocal 0 (TValue.cu a2) rfl (fun j w cs hh hx => by rw [← TValue.cu_eq]; exact hx) ?_
    refine sLn (storeL1 (TK rfl) rfl rfl rfl rfl (by repeat (first | exact SetAt.zero | apply SetAt.succ)) (by repeat (first | exact SetAt.zero | apply SetAt.succ))) ?_
    refine AOps.relocal 0 (TValue.c (TValue.mk (4 : Int) a2.FInt a2.FText a2.FItems.nl a2.FItems.l a2.FKeys)) rfl (fun j w cs hh hx => by rw [TValue.cu_eq]; exact hx) ?_
    refine nil ?_
    exact hK26 _ (TValue.mk (4 : Int) a2.FInt a2.FText a2.FItems.nl a2.FItems.l a2.FKeys) Weak.toA hE
   refine AWp.skip ?_
   exact hK26 _ a2 Weak.toA hE
  rintro y27_l0 hE
  try dsimp only at hE
  unfold Z10_j26 at hE
  refine seqK fun K28 hK28 => ?_
  refine region ?_
  refine s0 moveA rfl ?_
  refine s0 (nilP rfl) rfl ?_
  refine s0 (fieldP (TK rfl) rfl rfl (TK rfl) rfl rfl) rfl ?_
  refine s0 (loadP (TK rfl) rfl rfl hpG rfl) rfl ?_
  refine s0 moveA rfl ?_
  obtain ⟨x29, gx29, hE⟩ := bindO_some hE
  refine s0 (callP rfl rfl (fun H => Z68_walk gx29 H)) rfl ?_
  refine s0 moveA rfl ?_
  refine s0 (extract rfl rfl) rfl ?_
  refine s0 (extract rfl rfl) rfl ?_
  refine sL (allocLA (TK rfl) rfl) rfl ?_
  refine sLn (storeLFA (TK rfl) rfl rfl rfl rfl rfl) ?_
  refine s0 assignA rfl ?_
  refine nil ?_
  refine hK28 _ ?_
  clear hK28 K28
  refine freezeA 9 _ rfl (Keeps.c (k := 5) (by conv => lhs; whnf) (by rfl) (Keeps.c (k := 6) (by conv => lhs; whnf) (by rfl) Keeps.nil)) ?_
  refine AWp.freezeAt 5 _ rfl rfl ?_
  refine region ?_
  refine s0 (fieldVA (TK rfl) rfl rfl (TK rfl) rfl rfl) rfl ?_
  refine s0 (loadV (TK rfl) rfl rfl rfl) rfl ?_
  refine s0 (binI rfl rfl rfl) rfl ?_
  refine s0 moveA rfl ?_
  refine gC rfl rfl (fun hC => fieldVA (TK rfl) rfl rfl (TK rfl) rfl rfl) rfl ?_
  refine gC rfl rfl (fun hC => ungdA (k := 36) rfl (loadV (TK rfl) rfl rfl rfl)) rfl ?_
  refine gC rfl rfl (fun hC => makeFunc rfl) rfl ?_
  obtain ⟨x30, gx30, hE⟩ := guardO_some hE
  refine gC rfl rfl (fun hC => ungdA (k := 37) rfl (ungdA (k := 38) rfl (callP rfl rfl (fun H => Z77_walk (gx30 hC) H (fun _ _ hx => Z11_walk hx))))) rfl ?_
  refine s0 (pickAndA rfl rfl rfl) rfl ?_
  refine s0 assignA rfl ?_
  refine nil ?_
  refine hD3 _ ?_
  refine seqK fun K31 hK31 => ?_
  refine seqK fun K32 hK32 => ?_
  refine region ?_
  refine s0 moveA rfl ?_
  refine s0 (notB rfl) rfl ?_
  refine nil ?_
  refine hK32 _ ?_
  clear hK32 K32
  refine condE hE rfl (fun hc33 hE => ?_) (fun hc33 hE => ?_)
  ·refine seqK fun K34 hK34 => ?_
   refine region ?_
   refine s0 (build Tryz.tab_ok rfl rfl rfl rfl rfl rfl) rfl ?_
   refine sLn (storeLFA (TK rfl) rfl rfl rfl rfl rfl) ?_
   refine s0 assignA rfl ?_
   refine nil ?_
   refine hK34 _ ?_
   clear hK34 K34
   refine AWp.ret ?_
   repeat (first | refine xBlock_ret ?_ | refine xThen_ret ?_)
   obtain rfl := Option.some.inj hE
   refine retQ.retF H rfl ⟨rfl, rfl⟩ ?_
   exact (fun _ _ h => h)
  refine AWp.skip ?_
  refine hK31 _ ?_
  clear hK31 K31
  refine seqK fun K35 hK35 => ?_
  refine region ?_
  refine s0 (loadV (TK rfl) rfl rfl rfl) rfl ?_
  refine sLn (storeLFA (TK rfl) rfl rfl rfl rfl rfl) ?_
  refine s0 assignA rfl ?_
  refine nil ?_
  refine hK35 _ ?_
  clear hK35 K35
  refine AWp.ret ?_
  repeat (first | refine xBlock_ret ?_ | refine xThen_ret ?_)
  obtain rfl := Option.some.inj hE
  refine retQ.retF H rfl ⟨rfl, rfl⟩ ?_
  exact (fun _ _ h => h)
 rintro ⟨s8_4, y5_l0⟩ hE
 try dsimp only at hE
 unfold Z10_j3 at hE
 refine seqK fun K6 hK6 => ?_
 refine seqK fun K7 hK7 => ?_
 refine region ?_
 refine s0 moveA rfl ?_
 refine s0 (notB rfl) rfl ?_
 refine nil ?_
 refine hK7 _ ?_
 clear hK7 K7
 refine condE hE rfl (fun hc8 hE => ?_) (fun hc8 hE => ?_)
 ·refine seqK fun K9 hK9 => ?_
  refine region ?_
  refine s0 (build Tryz.tab_ok rfl rfl rfl rfl rfl rfl) rfl ?_
  refine sLn (storeLFA (TK rfl) rfl rfl rfl rfl rfl) ?_
  refine s0 assignA rfl ?_
  refine nil ?_
  refine hK9 _ ?_
  clear hK9 K9
  refine AWp.ret ?_
  repeat (first | refine xBlock_ret ?_ | refine xThen_ret ?_)
  obtain rfl := Option.some.inj hE
  refine retQ.retF H rfl ⟨rfl, rfl⟩ ?_
  exact (fun _ _ h => h)
 refine AWp.skip ?_
 refine hK6 _ ?_
 clear hK6 K6
 refine seqK fun K10 hK10 => ?_
 refine region ?_
 refine s0 (loadL (TK rfl) rfl rfl rfl rfl) rfl ?_
 refine sLn (storeLFA (TK rfl) rfl rfl rfl rfl rfl) ?_
 refine s0 assignA rfl ?_
 refine nil ?_
 refine hK10 _ ?_
 clear hK10 K10
 refine AWp.ret ?_
 repeat (first | refine xBlock_ret ?_ | refine xThen_ret ?_)
 obtain rfl := Option.some.inj hE
 refine retQ.retF H rfl ⟨rfl, rfl⟩ ?_
 exact (fun _ _ h => h)
end Go.Proofs

namespace Go.Proofs
open Go Go.Ab
open AOps Cert AWp
variable {lou : Lou}
def coerce_coercer_at_j7 (a1 : TRef) (a3 : Int) (k_rec_64 : Coerce_coercer → TRef → TValue → Int → Option (TValue × Int × Coerce_coercer)) (k_rec_67 : Coerce_coercer → TDef → TValue → Int → Option (TValue × Int × Coerce_coercer)) (y8_c0 : Coerce_coercer) (y9_l0 : TValue) (y10_l1 : TValue) : Option (TValue × Int × Coerce_coercer) := (Z9 y8_c0 a3).bind fun x13 => bif (!decide (x13.1 = (0 : Int))) then (some ((TValue.mk (0 : Int) (0 : Int) ([] : Bs) true ([]) (Sl.nil : Sl Bs)), x13.1, x13.2)) else (bif (decide (y9_l0.FKind = (0 : Int))) then ((Z87 a1).bind fun x22 => bif x22 then (some ((TValue.mk (0 : Int) (0 : Int) ([] : Bs) true ([]) (Sl.nil : Sl Bs)), (23 : Int), x13.2)) else (some ((TValue.mk (0 : Int) (0 : Int) ([] : Bs) true ([]) (Sl.nil : Sl Bs)), (0 : Int), x13.2))) else ((Z85 a1).bind fun x28 => bif x28.2 then ((k_rec_64 x13.2 x28.1 y9_l0 a3).bind fun x32 => some (x32.1, x32.2.1, x32.2.2)) else ((Z68 x13.2.Fd a1.FName).bind fun x35 => guardO (x35.2) (Z72 a1.FName) false fun x37 => bif ((x35.2 && (!x37)) && (decide (x35.1.FKind = (5 : Int)))) then ((k_rec_67 x13.2 x35.1 y9_l0 a3).bind fun x40 => some (x40.1, x40.2.1, x40.2.2)) else ((Z10 x13.2 a1.FName y9_l0).bind fun x42 => some (x42.1, x42.2, x13.2)))))
def coerce_coercer_list_j7  (y8_c0 : Coerce_coercer) (y9_l0 : TValue) (y10_l1 : TValue) : Option (TValue × Int × Coerce_coercer) := some (y10_l1, (0 : Int), y8_c0)
def coerce_coercer_list_l14 (a1 : TRef) (a3 : Int) (s10_4 : (Sl TValue)) (k_rec_32 : Coerce_coercer → TRef → TValue → Int → Option (TValue × Int × Coerce_coercer)) : Nat → Nat → Coerce_coercer → TValue → TValue → Option (TValue × Int × Coerce_coercer)
 | 0, _, _, _, _ => none
 | n14 + 1, s26_15, y16_c0, y17_l0, y18_l1 => bif (decide (((s26_15 : Nat) : Int) < ((s10_4.l.length : Nat) : Int))) then ((s10_4.l[s26_15]?).bind fun x24 => (addC a3 (1 : Int)).bind fun x26 => (k_rec_32 y16_c0 a1 x24 x26).bind fun x27 => bif (!decide (x27.2.1 = (0 : Int))) then (some ((TValue.mk (0 : Int) (0 : Int) ([] : Bs) true ([]) (Sl.nil : Sl Bs)), x27.2.1, x27.2.2)) else ((appC 80 y18_l1.FItems (⟨false, [x27.1]⟩ : Sl TValue)).bind fun x32 => (coerce_coercer_list_l14 a1 a3 s10_4 k_rec_32 n14) (s26_15 + 1) x27.2.2 y17_l0 (TValue.mk y18_l1.FKind y18_l1.FInt y18_l1.FText x32.nl x32.l y18_l1.FKeys))) else (coerce_coercer_list_j7   y16_c0 y17_l0 y18_l1)
def coerce_coercer_list_j3 (a0 : Coerce_coercer) (a1 : TRef) (a3 : Int) (k_rec_32 : Coerce_coercer → TRef → TValue → Int → Option (TValue × Int × Coerce_coercer)) (s10_4 : (Sl TValue)) : Option (TValue × Int × Coerce_coercer) := coerce_coercer_list_l14 a1 a3 s10_4 k_rec_32 (s10_4.l.length + 1) 0 a0 TValue.zero (TValue.mk (5 : Int) (0 : Int) ([] : Bs) true ([]) (Sl.nil : Sl Bs))
def coerce_coercer_object_j11  (y12_c0 : Coerce_coercer) (y13_l0 : TValue) (y14_l1 : TValue) : Option (TValue × Int × Coerce_coercer) := some (y14_l1, (0 : Int), y12_c0)
def coerce_coercer_object_j26 (s49_19 : Nat) (k_next_18 : Nat → Coerce_coercer → TValue → TValue → Option (TValue × Int × Coerce_coercer)) (y27_c0 : Coerce_coercer) (y28_l0 : TValue) (y29_l1 : TValue) : Option (TValue × Int × Coerce_coercer) := k_next_18 (s49_19 + 1) y27_c0 y28_l0 y29_l1
def coerce_coercer_object_j42 (s49_19 : Nat) (y21_l0 : TValue) (y22_l1 : TValue) (x31 : TInput) (k_next_18 : Nat → Coerce_coercer → TValue → TValue → Option (TValue × Int × Coerce_coercer)) (s22_43 : Int) (y44_c0 : Coerce_coercer) (y45_l2 : TValue) : Option (TValue × Int × Coerce_coercer) := bif (!decide (s22_43 = (0 : Int))) then (some ((TValue.mk (0 : Int) (0 : Int) ([] : Bs) true ([]) (Sl.nil : Sl Bs)), s22_43, y44_c0)) else ((appC 16 y22_l1.FKeys (⟨false, [x31.FName]⟩ : Sl Bs)).bind fun x50 => (appC 80 y22_l1.FItems (⟨false, [y45_l2]⟩ : Sl TValue)).bind fun x51 => coerce_coercer_object_j26 s49_19 k_next_18 y44_c0 y21_l0 (TValue.mk y22_l1.FKind y22_l1.FInt y22_l1.FText x51.nl x51.l x50))
def coerce_coercer_object_l18 (a1 : TDef) (a2 : TValue) (a3 : Int) (k_rec_32 : Coerce_coercer → TRef → TValue → Int → Option (TValue × Int × Coerce_coercer)) (k_rec_91 : Coerce_coercer → TInput → Int → Option (TValue × Int × Coerce_coercer)) : Nat → Nat → Coerce_coercer → TValue → TValue → Option (TValue × Int × Coerce_coercer)
 | 0, _, _, _, _ => none
 | n18 + 1, s49_19, y20_c0, y21_l0, y22_l1 => bif (decide (((s49_19 : Nat) : Int) < ((a1.FInputs.l.length : Nat) : Int))) then ((a1.FInputs.l[s49_19]?).bind fun x31 => (partC a1.FInputs none (some ((s49_19 : Nat) : Int))).bind fun x34 => (Z69 x34 x31.FName).bind fun x35 => bif x35.2 then (coerce_coercer_object_j26 s49_19 ((coerce_coercer_object_l18 a1 a2 a3 k_rec_32 k_rec_91 n18)) y20_c0 y21_l0 y22_l1) else ((Z89 a2 x31.FName).bind fun x39 => guardO (x39.2) (Z12 y20_c0 x39.1) false fun x53 => bif (x39.2 && (!x53)) then ((addC a3 (1 : Int)).bind fun x55 => (k_rec_32 y20_c0 x31.FType x39.1 x55).bind fun x56 => coerce_coercer_object_j42 s49_19 y21_l0 y22_l1 x31 ((coerce_coercer_object_l18 a1 a2 a3 k_rec_32 k_rec_91 n18)) x56.2.1 x56.2.2 x56.1) else (bif x31.FHas then ((addC a3 (1 : Int)).bind fun x59 => (k_rec_91 y20_c0 x31 x59).bind fun x60 => coerce_coercer_object_j42 s49_19 y21_l0 y22_l1 x31 ((coerce_coercer_object_l18 a1 a2 a3 k_rec_32 k_rec_91 n18)) x60.2.1 x60.2.2 x60.1) else ((Z87 x31.FType).bind fun x62 => bif x62 then (coerce_coercer_object_j42 s49_19 y21_l0 y22_l1 x31 ((coerce_coercer_object_l18 a1 a2 a3 k_rec_32 k_rec_91 n18)) (22 : Int) y20_c0 TValue.zero) else (coerce_coercer_object_j26 s49_19 ((coerce_coercer_object_l18 a1 a2 a3 k_rec_32 k_rec_91 n18)) y20_c0 y21_l0 y22_l1))))) else (coerce_coercer_object_j11   y20_c0 y21_l0 y22_l1)
def coerce_coercer_object_j6 (a0 : Coerce_coercer) (a1 : TDef) (a2 : TValue) (a3 : Int) (k_rec_32 : Coerce_coercer → TRef → TValue → Int → Option (TValue × Int × Coerce_coercer)) (k_rec_91 : Coerce_coercer → TInput → Int → Option (TValue × Int × Coerce_coercer)) (y7_l0 : TValue) : Option (TValue × Int × Coerce_coercer) := coerce_coercer_object_l18 a1 a2 a3 k_rec_32 k_rec_91 (a1.FInputs.l.length + 1) 0 a0 y7_l0 (TValue.mk (6 : Int) (0 : Int) ([] : Bs) true ([]) (Sl.nil : Sl Bs))
def coerce_coercer_object_l66 (a0 : Coerce_coercer) (a1 : TDef) (a2 : TValue) (a3 : Int) (k_rec_32 : Coerce_coercer → TRef → TValue → Int → Option (TValue × Int × Coerce_coercer)) (k_rec_91 : Coerce_coercer → TInput → Int → Option (TValue × Int × Coerce_coercer)) : Nat → Nat → TValue → Option (TValue × Int × Coerce_coercer)
 | 0, _, _ => none
 | n66 + 1, s30_67, y68_l0 => bif (decide (((s30_67 : Nat) : Int) < ((a2.FKeys.l.length : Nat) : Int))) then ((a2.FKeys.l[s30_67]?).bind fun x74 => (Z69 a1.FInputs x74).bind fun x76 => bif (!x76.2) then (some ((TValue.mk (0 : Int) (0 : Int) ([] : Bs) true ([]) (Sl.nil : Sl Bs)), (22 : Int), a0)) else ((coerce_coercer_object_l66 a0 a1 a2 a3 k_rec_32 k_rec_91 n66) (s30_67 + 1) y68_l0)) else (coerce_coercer_object_j6 a0 a1 a2 a3 k_rec_32 k_rec_91 y68_l0)
mutual
def coerce_coercer_at_n : Nat → Coerce_coercer → TRef → TValue → Int → Option (TValue × Int × Coerce_coercer)
 | 0, _, _, _, _ => none
 | n + 1, a0, a1, a2, a3 => (Z70 a0.Fd a1.FName).bind fun x4 => bif (!x4) then (some ((TValue.mk (0 : Int) (0 : Int) ([] : Bs) true ([]) (Sl.nil : Sl Bs)), (10 : Int), a0)) else (bif ((decide (a2.FKind = (7 : Int))) && a0.Fliteral) then ((Z89 a0.Fvars a2.FText).bind fun x46 => bif (!decide (x46.1.FKind = (0 : Int))) then ((Z15 a0 x46.1 a3).bind fun x50 => bif (!decide (x50.1 = (0 : Int))) then (some ((TValue.mk (0 : Int) (0 : Int) ([] : Bs) true ([]) (Sl.nil : Sl Bs)), x50.1, x50.2)) else (some (x46.1, (0 : Int), x50.2))) else (coerce_coercer_at_j7 a1 a3 (coerce_coercer_list_n n) (coerce_coercer_object_n n) a0 x46.1 TValue.zero)) else (coerce_coercer_at_j7 a1 a3 (coerce_coercer_list_n n) (coerce_coercer_object_n n) a0 a2 TValue.zero))
def coerce_coercer_list_n : Nat → Coerce_coercer → TRef → TValue → Int → Option (TValue × Int × Coerce_coercer)
 | 0, _, _, _, _ => none
 | n + 1, a0, a1, a2, a3 => bif (!decide (a2.FKind = (5 : Int))) then (coerce_coercer_list_j3 a0 a1 a3 (coerce_coercer_at_n n) (⟨false, [a2]⟩ : Sl TValue)) else (coerce_coercer_list_j3 a0 a1 a3 (coerce_coercer_at_n n) a2.FItems)
def coerce_coercer_object_n : Nat → Coerce_coercer → TDef → TValue → Int → Option (TValue × Int × Coerce_coercer)
 | 0, _, _, _, _ => none
 | n + 1, a0, a1, a2, a3 => bif (!decide (a2.FKind = (6 : Int))) then (some ((TValue.mk (0 : Int) (0 : Int) ([] : Bs) true ([]) (Sl.nil : Sl Bs)), (23 : Int), a0)) else (coerce_coercer_object_l66 a0 a1 a2 a3 (coerce_coercer_at_n n) (Z13_n n) (a2.FKeys.l.length + 1) 0 TValue.zero)
def Z13_n : Nat → Coerce_coercer → TInput → Int → Option (TValue × Int × Coerce_coercer)
 | 0, _, _, _ => none
 | n + 1, a0, a1, a2 => ((coerce_coercer_at_n n) (Coerce_coercer.mk a0.Fd (TValue.mk (0 : Int) (0 : Int) ([] : Bs) true ([]) (Sl.nil : Sl Bs)) true a0.Fnodes) a1.FType a1.FDefault a2).bind fun x5 => (Z14 a0.Fvars a0.Fliteral x5.2.2).bind fun x6 => some (x5.1, x5.2.1, x6)
end
theorem coerce_coercer_at_step (n : Nat) (ih_32 : ∀ {a0 : Coerce_coercer} {a1 : TRef} {a2 : TValue} {a3 : Int} {oT : Ab.Obj} {c0 : Nat} {gT : Nat} {r : (TValue × Int × Coerce_coercer)}, coerce_coercer_at_n n a0 a1 a2 a3 = some r → ∀ (H : Heap) (hc0 : H c0 = some (.cells (Coerce_coercer.c a0))) (hgT : H gT = some oT) (hoT : IsTab Tryz.prog oT), ACalls Tryz.prog 32 [.d (.ptr c0 0), .agg (TRef.c a1), .agg (TValue.c a2), .d (.int .i64 a3)] H fun v h' => v = .tup [.agg (TValue.c r.1), .d (.int .i64 r.2.1)] ∧ h' = (H.set c0 (some (.cells (Coerce_coercer.c r.2.2))))) (ih_64 : ∀ {a0 : Coerce_coercer} {a1 : TRef} {a2 : TValue} {a3 : Int} {oT : Ab.Obj} {c0 : Nat} {gT : Nat} {r : (TValue × Int × Coerce_coercer)}, coerce_coercer_list_n n a0 a1 a2 a3 = some r → ∀ (H : Heap) (hc0 : H c0 = some (.cells (Coerce_coercer.c a0))) (hgT : H gT = some oT) (hoT : IsTab Tryz.prog oT), ACalls Tryz.prog 64 [.d (.ptr c0 0), .agg (TRef.c a1), .agg (TValue.c a2), .d (.int .i64 a3)] H fun v h' => v = .tup [.agg (TValue.c r.1), .d (.int .i64 r.2.1)] ∧ h' = (H.set c0 (some (.cells (Coerce_coercer.c r.2.2))))) (ih_67 : ∀ {a0 : Coerce_coercer} {a1 : TDef} {a2 : TValue} {a3 : Int} {oT : Ab.Obj} {c0 : Nat} {gT : Nat} {r : (TValue × Int × Coerce_coercer)}, coerce_coercer_object_n n a0 a1 a2 a3 = some r → ∀ (H : Heap) (hc0 : H c0 = some (.cells (Coerce_coercer.c a0))) (hgT : H gT = some oT) (hoT : IsTab Tryz.prog oT), ACalls Tryz.prog 67 [.d (.ptr c0 0), .agg (TDef.c a1), .agg (TValue.c a2), .d (.int .i64 a3)] H fun v h' => v = .tup [.agg (TValue.c r.1), .d (.int .i64 r.2.1)] ∧ h' = (H.set c0 (some (.cells (Coerce_coercer.c r.2.2))))) (ih_91 : ∀ {a0 : Coerce_coercer} {a1 : TInput} {a2 : Int} {oT : Ab.Obj} {c0 : Nat} {gT : Nat} {r : (TValue × Int × Coerce_coercer)}, Z13_n n a0 a1 a2 = some r → ∀ (H : Heap) (hc0 : H c0 = some (.cells (Coerce_coercer.c a0))) (hgT : H gT = some oT) (hoT : IsTab Tryz.prog oT), ACalls Tryz.prog 91 [.d (.ptr c0 0), .agg (TInput.c a1), .d (.int .i64 a2)] H fun v h' => v = .tup [.agg (TValue.c r.1), .d (.int .i64 r.2.1)] ∧ h' = (H.set c0 (some (.cells (Coerce_coercer.c r.2.2))))) : ∀ {a0 : Coerce_coercer} {a1 : TRef} {a2 : TValue} {a3 : Int} {oT : Ab.Obj} {c0 : Nat} {gT : Nat} {r : (TValue × Int × Coerce_coercer)}, coerce_coercer_at_n (n + 1) a0 a1 a2 a3 = some r → ∀ (H : Heap) (hc0 : H c0 = some (.cells (Coerce_coercer.c a0))) (hgT : H gT = some oT) (hoT : IsTab Tryz.prog oT), ACalls Tryz.prog 32 [.d (.ptr c0 0), .agg (TRef.c a1), .agg (TValue.c a2), .d (.int .i64 a3)] H fun v h' => v = .tup [.agg (TValue.c r.1), .d (.int .i64 r.2.1)] ∧ h' = (H.set c0 (some (.cells (Coerce_coercer.c r.2.2)))) := by
 intro a0 a1 a2 a3 oT c0 gT r hE H hc0 hgT hoT
 rw [coerce_coercer_at_n] at hE
 refine ACalls.of_wp (fn := Tryz.f32) (c := _) Tryz.tab_ok (fun _ _ => Tryz.call32 _ _) Tryz.func32 rfl (n := 119) rfl (rs := [.cell 8 31, .tmp 9]) rfl rfl ?_
 have ne_gT_c0 : gT ≠ c0 := fun e_ => by subst e_; obtain ⟨_, _, _, e2_, _⟩ := hoT; simp_all
 refine AWp.heqA (h' := (H.set c0 (some (.cells (Coerce_coercer.c a0))))) (by funext n_; simp only [Heap.set]; (repeat' split) <;> simp_all) ?_
 refine seqK fun K1 hK1 => ?_
 refine region ?_
 refine s0 (boxV rfl) rfl ?_
 refine sL (boxL rfl (by repeat (first | exact Snoc.nil | apply Snoc.cons))) rfl ?_
 refine sL (allocLA (TK rfl) rfl) rfl ?_
 refine s0 assignA rfl ?_
 refine nil ?_
 refine hK1 _ ?_
 clear hK1 K1
 refine seqK fun K2 hK2 => ?_
 refine seqK fun K3 hK3 => ?_
 refine AWp.draw rfl ?_
 refine DOps.s0 moveA rfl ?_
 refine DOps.s0 (nilP rfl) rfl ?_
 refine DOps.s0 (fieldP (TK rfl) rfl rfl (TK rfl) rfl rfl) rfl ?_
 refine DOps.s0 (loadP (TK rfl) rfl rfl hpG rfl) rfl ?_
 refine DOps.s0 (fieldVA (TK rfl) rfl rfl (TK rfl) rfl rfl) rfl ?_
 refine DOps.s0 (loadV (TK rfl) rfl rfl rfl) rfl ?_
 obtain ⟨x4, gx4, hE⟩ := bindO_some hE
 refine DOps.s0 (callP rfl rfl (fun H => Z70_walk gx4 H)) rfl ?_
 refine DOps.s0 (notB rfl) rfl ?_
 refine DOps.nil (by decide +kernel) ?_
 refine hK3 _ ?_
 clear hK3 K3
 refine condE hE rfl (fun hc5 hE => ?_) (fun hc5 hE => ?_)
 ·refine seqK fun K6 hK6 => ?_
  refine region ?_
  refine s0 (build Tryz.tab_ok rfl rfl rfl rfl rfl rfl) rfl ?_
  refine sLn (storeLFA (TK rfl) rfl rfl rfl rfl rfl) ?_
  refine s0 assignA rfl ?_
  refine nil ?_
  refine hK6 _ ?_
  clear hK6 K6
  refine AWp.ret ?_
  repeat (first | refine xBlock_ret ?_ | refine xThen_ret ?_)
  obtain rfl := Option.some.inj hE
  refine retQ.retF (H.set c0 (some (.cells (Coerce_coercer.c a0)))) rfl ⟨rfl, rfl⟩ ?_
  exact (fun _ _ h => h)
 refine AWp.skip ?_
 refine hK2 _ ?_
 clear hK2 K2
 refine seqJ (KeepsT.A (k := 0) (KeepsT.A (k := 3) (KeepsT.A (k := 5) (KeepsT.A (k := 6) (KeepsT.A (k := 8) KeepsT.nil))))) (fun (z : Coerce_coercer × TValue × TValue) => []) (fun z => [TValue.c z.2.1, TValue.c z.2.2]) (fun z => (H.set c0 (some (.cells (Coerce_coercer.c z.1))))) (fun z => coerce_coercer_at_j7 a1 a3 (coerce_coercer_list_n n) (coerce_coercer_object_n n) z.1 z.2.1 z.2.2 = some r) ?_ ?_
 ·intro K7 hK7
  refine seqK fun K43 hK43 => ?_
  refine region ?_
  refine s0 (fieldL (TK rfl) rfl rfl (TK rfl) rfl rfl) rfl ?_
  refine s0 (loadL (TK rfl) rfl rfl rfl rfl) rfl ?_
  refine s0 (binI rfl rfl rfl) rfl ?_
  refine s0 moveA rfl ?_
  refine gC rfl rfl (fun hC => moveA) rfl ?_
  refine gC rfl rfl (fun hC => ungdA (k := 29) rfl (nilP rfl)) rfl ?_
  refine gC rfl rfl (fun hC => ungdA (k := 30) rfl (fieldP (TK rfl) rfl rfl (TK rfl) rfl rfl)) rfl ?_
  refine gC rfl rfl (fun hC => ungdA (k := 31) rfl (loadP (TK rfl) rfl rfl hpG rfl)) rfl ?_
  refine s0 (pickAndA rfl rfl rfl) rfl ?_
  refine nil ?_
  refine hK43 _ ?_
  clear hK43 K43
  refine condE hE rfl (fun hc44 hE => ?_) (fun hc44 hE => ?_)
  ·refine seqK fun K45 hK45 => ?_
   refine AWp.draw rfl ?_
   refine DOps.s0 moveA rfl ?_
   refine DOps.s0 (nilP rfl) rfl ?_
   refine DOps.s0 (fieldP (TK rfl) rfl rfl (TK rfl) rfl rfl) rfl ?_
   refine DOps.s0 (loadP (TK rfl) rfl rfl hpG rfl) rfl ?_
   refine DOps.s0 (fieldL (TK rfl) rfl rfl (TK rfl) rfl rfl) rfl ?_
   refine DOps.s0 (loadL (TK rfl) rfl rfl rfl rfl) rfl ?_
   obtain ⟨x46, gx46, hE⟩ := bindO_some hE
   refine DOps.s0 (callP rfl rfl (fun H => Z89_walk gx46 H)) rfl ?_
   refine DOps.s0 moveA rfl ?_
   refine DOps.s0 (extract rfl rfl) rfl ?_
   refine DOps.s0 (extract rfl rfl) rfl ?_
   refine DOps.sLn (storeLFA (TK rfl) rfl rfl rfl rfl rfl) ?_
   refine DOps.nil (by decide +kernel) ?_
   refine hK45 _ ?_
   clear hK45 K45
   refine seqK fun K47 hK47 => ?_
   refine region ?_
   refine s0 (fieldL (TK rfl) rfl rfl (TK rfl) rfl rfl) rfl ?_
   refine s0 (loadL (TK rfl) rfl rfl rfl rfl) rfl ?_
   refine s0 (binI rfl rfl rfl) rfl ?_
   refine nil ?_
   refine hK47 _ ?_
   clear hK47 K47
   refine condE hE rfl (fun hc48 hE => ?_) (fun hc48 hE => ?_)
   ·refine seqK fun K49 hK49 => ?_
    refine region ?_
    refine s0 moveA rfl ?_
    refine s0 (loadL (TK rfl) rfl rfl rfl rfl) rfl ?_
    refine s0 moveA rfl ?_
    obtain ⟨x50, gx50, hE⟩ := bindO_some hE
    refine sH (callH rfl rfl (Z15_walk gx50 _ hpG)) rfl ?_
    refine AOps.heq (h' := (H.set c0 (some (.cells (Coerce_coercer.c x50.2))))) (by first | rfl | (rw [Heap.set_set]; rfl) | (funext n_; simp only [Heap.set]; (repeat' split) <;> first | rfl | (exfalso; simp_all; done) | (simp_all; done))) ?_
    refine s0 assignA rfl ?_
    refine nil ?_
    refine hK49 _ ?_
    clear hK49 K49
    refine seqK fun K51 hK51 => ?_
    refine seqK fun K52 hK52 => ?_
    refine region ?_
    refine s0 moveA rfl ?_
    refine s0 (binI rfl rfl rfl) rfl ?_
    refine nil ?_
    refine hK52 _ ?_
    clear hK52 K52
    refine condE hE rfl (fun hc53 hE => ?_) (fun hc53 hE => ?_)
    ·refine seqK fun K54 hK54 => ?_
     refine region ?_
     refine s0 (build Tryz.tab_ok rfl rfl rfl rfl rfl rfl) rfl ?_
     refine s0 moveA rfl ?_
     refine sLn (storeLFA (TK rfl) rfl rfl rfl rfl rfl) ?_
     refine s0 assignA rfl ?_
     refine nil ?_
     refine hK54 _ ?_
     clear hK54 K54
     refine AWp.ret ?_
     repeat (first | refine xBlock_ret ?_ | refine xThen_ret ?_)
     obtain rfl := Option.some.inj hE
     refine retQ.retF (H.set c0 (some (.cells (Coerce_coercer.c x50.2)))) rfl ⟨rfl, rfl⟩ ?_
     exact (fun _ _ h => h)
    refine AWp.skip ?_
    refine hK51 _ ?_
    clear hK51 K51
    refine seqK fun K55 hK55 => ?_
    refine region ?_
    refine s0 (loadL (TK rfl) rfl rfl rfl rfl) rfl ?_
    refine sLn (storeLFA (TK rfl) rfl rfl rfl rfl rfl) ?_
    refine s0 assignA rfl ?_
    refine nil ?_
    refine hK55 _ ?_
    clear hK55 K55
    refine AWp.ret ?_
    repeat (first | refine xBlock_ret ?_ | refine xThen_ret ?_)
    obtain rfl := Option.some.inj hE
    refine retQ.retF (H.set c0 (some (.cells (Coerce_coercer.c x50.2)))) rfl ⟨rfl, rfl⟩ ?_
    exact (fun _ _ h => h)
   refine AWp.skip ?_
   exact hK7 _ (a0, x46.1, TValue.zero) Weak.toA hE
  refine AWp.skip ?_
  exact hK7 _ (a0, a2, TValue.zero) Weak.toA hE
 rintro ⟨y8_c0, y9_l0, y10_l1⟩ hE
 try dsimp only at hE
 unfold coerce_coercer_at_j7 at hE
 refine seqK fun K11 hK11 => ?_
 refine seqK fun K12 hK12 => ?_
 refine region ?_
 refine s0 moveA rfl ?_
 refine s0 moveA rfl ?_
 obtain ⟨x13, gx13, hE⟩ := bindO_some hE
 refine sH (callH rfl rfl (Z9_walk gx13 _ hpG)) rfl ?_
 refine AOps.heq (h' := (H.set c0 (some (.cells (Coerce_coercer.c x13.2))))) (by first | rfl | (rw [Heap.set_set]; rfl) | (funext n_; simp only [Heap.set]; (repeat' split) <;> first | rfl | (exfalso; simp_all; done) | (simp_all; done))) ?_
 refine s0 assignA rfl ?_
 refine nil ?_
 refine hK12 _ ?_
 clear hK12 K12
 refine seqK fun K14 hK14 => ?_
 refine region ?_
 refine s0 moveA rfl ?_
 refine s0 (binI rfl rfl rfl) rfl ?_
 refine nil ?_
 refine hK14 _ ?_
 clear hK14 K14
 refine condE hE rfl (fun hc15 hE => ?_) (fun hc15 hE => ?_)
 ·refine seqK fun K16 hK16 => ?_
  refine region ?_
  refine s0 (build Tryz.tab_ok rfl rfl rfl rfl rfl rfl) rfl ?_
  refine s0 moveA rfl ?_
  refine sLn (storeLFA (TK rfl) rfl rfl rfl rfl rfl) ?_
  refine s0 assignA rfl ?_
  refine nil ?_
  refine hK16 _ ?_
  clear hK16 K16
  refine AWp.ret ?_
  repeat (first | refine xBlock_ret ?_ | refine xThen_ret ?_)
  obtain rfl := Option.some.inj hE
  refine retQ.retF (H.set c0 (some (.cells (Coerce_coercer.c x13.2)))) rfl ⟨rfl, rfl⟩ ?_
  exact (fun _ _ h => h)
 refine AWp.skip ?_
 refine hK11 _ ?_
 clear hK11 K11
 refine seqK fun K17 hK17 => ?_
 refine seqK fun K18 hK18 => ?_
 refine region ?_
 refine s0 (fieldL (TK rfl) rfl rfl (TK rfl) rfl rfl) rfl ?_
 refine s0 (loadL (TK rfl) rfl rfl rfl rfl) rfl ?_
 refine s0 (binI rfl rfl rfl) rfl ?_
 refine nil ?_
 refine hK18 _ ?_
 clear hK18 K18
 refine condE hE rfl (fun hc19 hE => ?_) (fun hc19 hE => ?_)
 ·refine seqK fun K20 hK20 => ?_
  refine seqK fun K21 hK21 => ?_
  refine region ?_
  refine s0 (loadV (TK rfl) rfl rfl rfl) rfl ?_
  obtain ⟨x22, gx22, hE⟩ := bindO_some hE
  refine s0 (callP rfl rfl (fun H => Z87_walk gx22 H)) rfl ?_
  refine nil ?_
  refine hK21 _ ?_
  clear hK21 K21
  refine condE hE rfl (fun hc23 hE => ?_) (fun hc23 hE => ?_)
  ·refine seqK fun K24 hK24 => ?_
   refine region ?_
   refine s0 (build Tryz.tab_ok rfl rfl rfl rfl rfl rfl) rfl ?_
   refine sLn (storeLFA (TK rfl) rfl rfl rfl rfl rfl) ?_
   refine s0 assignA rfl ?_
   refine nil ?_
   refine hK24 _ ?_
   clear hK24 K24
   refine AWp.ret ?_
   repeat (first | refine xBlock_ret ?_ | refine xThen_ret ?_)
   obtain rfl := Option.some.inj hE
   refine retQ.retF (H.set c0 (some (.cells (Coerce_coercer.c x13.2)))) rfl ⟨rfl, rfl⟩ ?_
   exact (fun _ _ h => h)
  refine AWp.skip ?_
  refine hK20 _ ?_
  clear hK20 K20
  refine seqK fun K25 hK25 => ?_
  refine region ?_
  refine s0 (build Tryz.tab_ok rfl rfl rfl rfl rfl rfl) rfl ?_
  refine sLn (storeLFA (TK rfl) rfl rfl rfl rfl rfl) ?_
  refine s0 assignA rfl ?_
  refine nil ?_
  refine hK25 _ ?_
  clear hK25 K25
  refine AWp.ret ?_
  repeat (first | refine xBlock_ret ?_ | refine xThen_ret ?_)
  obtain rfl := Option.some.inj hE
  refine retQ.retF (H.set c0 (some (.cells (Coerce_coercer.c x13.2)))) rfl ⟨rfl, rfl⟩ ?_
  exact (fun _ _ h => h)
 refine AWp.skip ?_
 refine hK17 _ ?_
 clear hK17 K17
 refine seqK fun K26 hK26 => ?_
 refine seqK fun K27 hK27 => ?_
 refine region ?_
 refine s0 (loadV (TK rfl) rfl rfl rfl) rfl ?_
 obtain ⟨x28, gx28, hE⟩ := bindO_some hE
 refine s0 (callP rfl rfl (fun H => Z85_walk gx28 H)) rfl ?_
 refine s0 moveA rfl ?_
 refine s0 (extract rfl rfl) rfl ?_
 refine s0 (extract rfl rfl) rfl ?_
 refine sL (allocLA (TK rfl) rfl) rfl ?_
 refine sLn (storeLFA (TK rfl) rfl rfl rfl rfl rfl) ?_
 refine s0 assignA rfl ?_
 refine nil ?_
 refine hK27 _ ?_
 clear hK27 K27
 refine freezeA 12 _ rfl (Keeps.c (k := 0) (by conv => lhs; whnf) (by rfl) (Keeps.c (k := 3) (by conv => lhs; whnf) (by rfl) (Keeps.c (k := 5) (by conv => lhs; whnf) (by rfl) (Keeps.c (k := 6) (by conv => lhs; whnf) (by rfl) (Keeps.c (k := 8) (by conv => lhs; whnf) (by rfl) (Keeps.c (k := 13) (by conv => lhs; whnf) (by rfl) Keeps.nil)))))) ?_
 refine seqK fun K29 hK29 => ?_
 refine region ?_
 refine s0 moveA rfl ?_
 refine nil ?_
 refine hK29 _ ?_
 clear hK29 K29
 refine condE hE rfl (fun hc30 hE => ?_) (fun hc30 hE => ?_)
 ·refine seqK fun K31 hK31 => ?_
  refine region ?_
  refine s0 moveA rfl ?_
  refine s0 (loadV (TK rfl) rfl rfl rfl) rfl ?_
  refine s0 (loadL (TK rfl) rfl rfl rfl rfl) rfl ?_
  refine s0 moveA rfl ?_
  obtain ⟨x32, gx32, hE⟩ := bindO_some hE
  refine sH (callH rfl rfl (ih_64 (gT := gT) (oT := oT) gx32 _ hpG hpG (by assumption))) rfl ?_
  refine AOps.heq (h' := (H.set c0 (some (.cells (Coerce_coercer.c x32.2.2))))) (by first | rfl | (rw [Heap.set_set]; rfl) | (funext n_; simp only [Heap.set]; (repeat' split) <;> first | rfl | (exfalso; simp_all; done) | (simp_all; done))) ?_
  refine s0 (extract rfl rfl) rfl ?_
  refine s0 (extract rfl rfl) rfl ?_
  refine sLn (storeLFA (TK rfl) rfl rfl rfl rfl rfl) ?_
  refine s0 assignA rfl ?_
  refine nil ?_
  refine hK31 _ ?_
  clear hK31 K31
  refine AWp.ret ?_
  repeat (first | refine xBlock_ret ?_ | refine xThen_ret ?_)
  obtain rfl := Option.some.inj hE
  refine retQ.retF (H.set c0 (some (.cells (Coerce_coercer.c x32.2.2)))) rfl ⟨rfl, rfl⟩ ?_
  exact (fun _ _ h => h)
 refine AWp.skip ?_
 refine hK26 _ ?_
 clear hK26 K26
 refine seqK fun K33 hK33 => ?_
 refine seqK fun K34 hK34 => ?_
 refine AWp.draw rfl ?_
 refine DOps.s0 moveA rfl ?_
 refine DOps.s0 (nilP rfl) rfl ?_
 refine DOps.s0 (fieldP (TK rfl) rfl rfl (TK rfl) rfl rfl) rfl ?_
 refine DOps.s0 (loadP (TK rfl) rfl rfl hpG rfl) rfl ?_
 refine DOps.s0 (fieldVA (TK rfl) rfl rfl (TK rfl) rfl rfl) rfl ?_
 refine DOps.s0 (loadV (TK rfl) rfl rfl rfl) rfl ?_
 obtain ⟨x35, gx35, hE⟩ := bindO_some hE
 refine DOps.s0 (callP rfl rfl (fun H => Z68_walk gx35 H)) rfl ?_
 refine DOps.s0 moveA rfl ?_
 refine DOps.s0 (extract rfl rfl) rfl ?_
 refine DOps.s0 (extract rfl rfl) rfl ?_
 refine DOps.sB (TK rfl) rfl rfl ?_ (by repeat (first | exact Snoc.nil | apply Snoc.cons))
 refine DOps.sLn (storeLFA (TK rfl) rfl rfl rfl rfl rfl) ?_
 refine DOps.s0 assignA rfl ?_
 refine DOps.nil (by decide +kernel) ?_
 refine hK34 _ ?_
 clear hK34 K34
 refine freezeA 14 _ rfl (Keeps.c (k := 0) (by conv => lhs; whnf) (by rfl) (Keeps.c (k := 3) (by conv => lhs; whnf) (by rfl) (Keeps.c (k := 5) (by conv => lhs; whnf) (by rfl) (Keeps.c (k := 6) (by conv => lhs; whnf) (by rfl) (Keeps.c (k := 8) (by conv => lhs; whnf) (by rfl) (Keeps.c (k := 15) (by conv => lhs; whnf) (by rfl) Keeps.nil)))))) ?_
 refine seqK fun K36 hK36 => ?_
 refine region ?_
 refine s0 moveA rfl ?_
 refine s0 moveA rfl ?_
 refine gC rfl rfl (fun hC => fieldVA (TK rfl) rfl rfl (TK rfl) rfl rfl) rfl ?_
 refine gC rfl rfl (fun hC => ungdA (k := 95) rfl (loadV (TK rfl) rfl rfl rfl)) rfl ?_
 obtain ⟨x37, gx37, hE⟩ := guardO_some hE
 refine gC rfl rfl (fun hC => ungdA (k := 96) rfl (callP rfl rfl (fun H => Z72_walk (gx37 hC) H))) rfl ?_
 refine gC rfl rfl (fun hC => ungdA (k := 97) rfl (notB rfl)) rfl ?_
 refine s0 (pickAndA rfl rfl rfl) rfl ?_
 refine s0 moveA rfl ?_
 refine gC rfl rfl (fun hC => fieldVA (TK rfl) rfl rfl (TK rfl) rfl rfl) rfl ?_
 refine gC rfl rfl (fun hC => ungdA (k := 101) rfl (loadV (TK rfl) rfl rfl rfl)) rfl ?_
 refine gC rfl rfl (fun hC => ungdA (k := 102) rfl (binI rfl rfl rfl)) rfl ?_
 refine s0 (pickAndA rfl rfl rfl) rfl ?_
 refine nil ?_
 refine hK36 _ ?_
 clear hK36 K36
 refine condE hE rfl (fun hc38 hE => ?_) (fun hc38 hE => ?_)
 ·refine seqK fun K39 hK39 => ?_
  refine region ?_
  refine s0 moveA rfl ?_
  refine s0 (loadV (TK rfl) rfl rfl rfl) rfl ?_
  refine s0 (loadL (TK rfl) rfl rfl rfl rfl) rfl ?_
  refine s0 moveA rfl ?_
  obtain ⟨x40, gx40, hE⟩ := bindO_some hE
  refine sH (callH rfl rfl (ih_67 (gT := gT) (oT := oT) gx40 _ hpG hpG (by assumption))) rfl ?_
  refine AOps.heq (h' := (H.set c0 (some (.cells (Coerce_coercer.c x40.2.2))))) (by first | rfl | (rw [Heap.set_set]; rfl) | (funext n_; simp only [Heap.set]; (repeat' split) <;> first | rfl | (exfalso; simp_all; done) | (simp_all; done))) ?_
  refine s0 (extract rfl rfl) rfl ?_
  refine s0 (extract rfl rfl) rfl ?_
  refine sLn (storeLFA (TK rfl) rfl rfl rfl rfl rfl) ?_
  refine s0 assignA rfl ?_
  refine nil ?_
  refine hK39 _ ?_
  clear hK39 K39
  refine AWp.ret ?_
  repeat (first | refine xBlock_ret ?_ | refine xThen_ret ?_)
  obtain rfl := Option.some.inj hE
  refine retQ.retF (H.set c0 (some (.cells (Coerce_coercer.c x40.2.2)))) rfl ⟨rfl, rfl⟩ ?_
  exact (fun _ _ h => h)
 refine AWp.skip ?_
 refine hK33 _ ?_
 clear hK33 K33
 refine seqK fun K41 hK41 => ?_
 refine region ?_
 refine s0 moveA rfl ?_
 refine s0 (fieldVA (TK rfl) rfl rfl (TK rfl) rfl rfl) rfl ?_
 refine s0 (loadV (TK rfl) rfl rfl rfl) rfl ?_
 refine s0 (loadL (TK rfl) rfl rfl rfl rfl) rfl ?_
 obtain ⟨x42, gx42, hE⟩ := bindO_some hE
 refine s0 (callR rfl rfl (Z10_walk (gT := gT) (oT := oT) gx42 _ hpG hpG (by assumption))) rfl ?_
 refine s0 (extract rfl rfl) rfl ?_
 refine s0 (extract rfl rfl) rfl ?_
 refine sLn (storeLFA (TK rfl) rfl rfl rfl rfl rfl) ?_
 refine s0 assignA rfl ?_
 refine nil ?_
 refine hK41 _ ?_
 clear hK41 K41
 refine AWp.ret ?_
 repeat (first | refine xBlock_ret ?_ | refine xThen_ret ?_)
 obtain rfl := Option.some.inj hE
 refine retQ.retF (H.set c0 (some (.cells (Coerce_coercer.c x13.2)))) rfl ⟨rfl, rfl⟩ ?_
 exact (fun _ _ h => h)
theorem coerce_coercer_list_step (n : Nat) (ih_32 : ∀ {a0 : Coerce_coercer} {a1 : TRef} {a2 : TValue} {a3 : Int} {oT : Ab.Obj} {c0 : Nat} {gT : Nat} {r : (TValue × Int × Coerce_coercer)}, coerce_coercer_at_n n a0 a1 a2 a3 = some r → ∀ (H : Heap) (hc0 : H c0 = some (.cells (Coerce_coercer.c a0))) (hgT : H gT = some oT) (hoT : IsTab Tryz.prog oT), ACalls Tryz.prog 32 [.d (.ptr c0 0), .agg (TRef.c a1), .agg (TValue.c a2), .d (.int .i64 a3)] H fun v h' => v = .tup [.agg (TValue.c r.1), .d (.int .i64 r.2.1)] ∧ h' = (H.set c0 (some (.cells (Coerce_coercer.c r.2.2))))) (ih_64 : ∀ {a0 : Coerce_coercer} {a1 : TRef} {a2 : TValue} {a3 : Int} {oT : Ab.Obj} {c0 : Nat} {gT : Nat} {r : (TValue × Int × Coerce_coercer)}, coerce_coercer_list_n n a0 a1 a2 a3 = some r → ∀ (H : Heap) (hc0 : H c0 = some (.cells (Coerce_coercer.c a0))) (hgT : H gT = some oT) (hoT : IsTab Tryz.prog oT), ACalls Tryz.prog 64 [.d (.ptr c0 0), .agg (TRef.c a1), .agg (TValue.c a2), .d (.int .i64 a3)] H fun v h' => v = .tup [.agg (TValue.c r.1), .d (.int .i64 r.2.1)] ∧ h' = (H.set c0 (some (.cells (Coerce_coercer.c r.2.2))))) (ih_67 : ∀ {a0 : Coerce_coercer} {a1 : TDef} {a2 : TValue} {a3 : Int} {oT : Ab.Obj} {c0 : Nat} {gT : Nat} {r : (TValue × Int × Coerce_coercer)}, coerce_coercer_object_n n a0 a1 a2 a3 = some r → ∀ (H : Heap) (hc0 : H c0 = some (.cells (Coerce_coercer.c a0))) (hgT : H gT = some oT) (hoT : IsTab Tryz.prog oT), ACalls Tryz.prog 67 [.d (.ptr c0 0), .agg (TDef.c a1), .agg (TValue.c a2), .d (.int .i64 a3)] H fun v h' => v = .tup [.agg (TValue.c r.1), .d (.int .i64 r.2.1)] ∧ h' = (H.set c0 (some (.cells (Coerce_coercer.c r.2.2))))) (ih_91 : ∀ {a0 : Coerce_coercer} {a1 : TInput} {a2 : Int} {oT : Ab.Obj} {c0 : Nat} {gT : Nat} {r : (TValue × Int × Coerce_coercer)}, Z13_n n a0 a1 a2 = some r → ∀ (H : Heap) (hc0 : H c0 = some (.cells (Coerce_coercer.c a0))) (hgT : H gT = some oT) (hoT : IsTab Tryz.prog oT), ACalls Tryz.prog 91 [.d (.ptr c0 0), .agg (TInput.c a1), .d (.int .i64 a2)] H fun v h' => v = .tup [.agg (TValue.c r.1), .d (.int .i64 r.2.1)] ∧ h' = (H.set c0 (some (.cells (Coerce_coercer.c r.2.2))))) : ∀ {a0 : Coerce_coercer} {a1 : TRef} {a2 : TValue} {a3 : Int} {oT : Ab.Obj} {c0 : Nat} {gT : Nat} {r : (TValue × Int × Coerce_coercer)}, coerce_coercer_list_n (n + 1) a0 a1 a2 a3 = some r → ∀ (H : Heap) (hc0 : H c0 = some (.cells (Coerce_coercer.c a0))) (hgT : H gT = some oT) (hoT : IsTab Tryz.prog oT), ACalls Tryz.prog 64 [.d (.ptr c0 0), .agg (TRef.c a1), .agg (TValue.c a2), .d (.int .i64 a3)] H fun v h' => v = .tup [.agg (TValue.c r.1), .d (.int .i64 r.2.1)] ∧ h' = (H.set c0 (some (.cells (Coerce_coercer.c r.2.2)))) := by
 intro a0 a1 a2 a3 oT c0 gT r hE H hc0 hgT hoT
 rw [coerce_coercer_list_n] at hE
 refine ACalls.of_wp (fn := Tryz.f64) (c := _) Tryz.tab_ok (fun _ _ => Tryz.call64 _ _) Tryz.func64 rfl (n := 51) rfl (rs := [.cell 8 31, .tmp 9]) rfl rfl ?_
 have ne_gT_c0 : gT ≠ c0 := fun e_ => by subst e_; obtain ⟨_, _, _, e2_, _⟩ := hoT; simp_all
 refine AWp.heqA (h' := (H.set c0 (some (.cells (Coerce_coercer.c a0))))) (by funext n_; simp only [Heap.set]; (repeat' split) <;> simp_all) ?_
 refine seqK fun K1 hK1 => ?_
 refine region ?_
 refine s0 (boxV rfl) rfl ?_
 refine s0 (boxV rfl) rfl ?_
 refine sL (allocLA (TK rfl) rfl) rfl ?_
 refine s0 assignA rfl ?_
 refine nil ?_
 refine hK1 _ ?_
 clear hK1 K1
 refine seqK fun K2 hK2 => ?_
 refine region ?_
 refine s0 (fieldVA (TK rfl) rfl rfl (TK rfl) rfl rfl) rfl ?_
 refine s0 (loadV (TK rfl) rfl rfl (congrArg (fun x => some (A.d x)) (TValue.FItemsD_eq _))) rfl ?_
 refine s0 assignA rfl ?_
 refine nil ?_
 refine hK2 _ ?_
 clear hK2 K2
 refine seqJH (KeepsT.A (k := 0) (KeepsT.A (k := 3) (KeepsT.A (k := 5) (KeepsT.A (k := 8) KeepsT.nil)))) (fun (z : (Sl TValue)) => [(10, .a (.d (Sl.d 5 TValue.c none z)))]) (fun z => (H.set c0 (some (.cells (Coerce_coercer.c a0))))) (fun z => coerce_coercer_list_j3 a0 a1 a3 (coerce_coercer_at_n n) z = some r) ?_ ?_
 ·intro K3 hK3
  refine seqK fun K33 hK33 => ?_
  refine region ?_
  refine s0 (fieldVA (TK rfl) rfl rfl (TK rfl) rfl rfl) rfl ?_
  refine s0 (loadV (TK rfl) rfl rfl rfl) rfl ?_
  refine s0 (binI rfl rfl rfl) rfl ?_
  refine nil ?_
  refine hK33 _ ?_
  clear hK33 K33
  refine condE hE rfl (fun hc34 hE => ?_) (fun hc34 hE => ?_)
  ·refine region ?_
   refine s0 (loadV (TK rfl) rfl rfl rfl) rfl ?_
   refine s0 (buildSlice (TK rfl) rfl (TK rfl) rfl rfl rfl rfl rfl rfl) rfl ?_
   refine s0 assignA rfl ?_
   refine nil ?_
   exact hK3 _ (⟨false, [a2]⟩ : Sl TValue) Weak.toA hE
  refine AWp.skip ?_
  exact hK3 _ a2.FItems Weak.toA hE
 rintro s10_4 hE
 try dsimp only at hE
 unfold coerce_coercer_list_j3 at hE
 refine seqK fun K5 hK5 => ?_
 refine region ?_
 refine s0 (build Tryz.tab_ok rfl rfl rfl rfl rfl rfl) rfl ?_
 refine sL (allocLA (TK rfl) rfl) rfl ?_
 refine AOps.tok 5 fun tk11_6 htk11_6 => ?_
 obtain ⟨ne_tk11_6_c0, htk11_6⟩ := Heap.set_fresh htk11_6
 have ne_tk11_6_gT : tk11_6 ≠ gT := fun e_ => by subst e_; simp_all
 refine AOps.relocal 1 _ rfl (fun j w cs hh hx => tok_cell 3 5 5 hh (t := tk11_6) hpG hx rfl) ?_
 refine sLn (storeLFA (TK rfl) rfl rfl rfl rfl rfl) ?_
 refine AOps.relocal 1 _ rfl (fun j w cs hh hx => tok_cell 3 5 5 hh (t := tk11_6) hpG hx rfl) ?_
 refine nil ?_
 refine hK5 _ ?_
 clear hK5 K5
 refine seqJ (KeepsT.A (k := 8) (KeepsT.A (k := 11) KeepsT.nil)) (fun (z : Coerce_coercer × TValue × TValue) => []) (fun z => [TValue.c z.2.1, ((intE .i64) z.2.2.FKind ++ (intE .i64) z.2.2.FInt ++ strE z.2.2.FText ++ [Sl.d 5 TValue.c (some tk11_6) z.2.2.FItems] ++ (fun s => [Sl.d 1 strE none s]) z.2.2.FKeys)]) (fun z => ((H.set c0 (some (.cells (Coerce_coercer.c z.1)))).set tk11_6 (some (.tok 5 z.2.2.FItems.l.length)))) (fun z => coerce_coercer_list_j7 z.1 z.2.1 z.2.2 = some r) ?_ ?_
 ·intro K7 hK7
  refine seqK fun K12 hK12 => ?_
  refine region ?_
  refine s0 moveA rfl ?_
  refine sLen (f := TValue.c) (s := s10_4) (TK rfl) rfl rfl rfl rfl fun hL13 => ?_
  refine s0 moveA rfl ?_
  refine nil ?_
  refine hK12 _ ?_
  clear hK12 K12
  refine block ?_
  refine loopO (KeepsT.A (k := 0) (KeepsT.A (k := 3) (KeepsT.A (k := 5) (KeepsT.A (k := 8) (KeepsT.A (k := 11) (KeepsT.A (k := 24) (KeepsT.A (k := 25) KeepsT.nil))))))) (fun (z : Nat × Nat × Coerce_coercer × TValue × TValue) => [(26, .a (.d (.int .i64 ((z.2.1 : Nat) : Int))))]) (fun z => [TValue.c z.2.2.2.1, ((intE .i64) z.2.2.2.2.FKind ++ (intE .i64) z.2.2.2.2.FInt ++ strE z.2.2.2.2.FText ++ [Sl.d 5 TValue.c (some tk11_6) z.2.2.2.2.FItems] ++ (fun s => [Sl.d 1 strE none s]) z.2.2.2.2.FKeys)]) (fun z => ((H.set c0 (some (.cells (Coerce_coercer.c z.2.2.1)))).set tk11_6 (some (.tok 5 z.2.2.2.2.FItems.l.length)))) (fun z => z.1) (fun z => coerce_coercer_list_l14 a1 a3 s10_4 (coerce_coercer_at_n n) z.1 z.2.1 z.2.2.1 z.2.2.2.1 z.2.2.2.2 = some r) ((s10_4.l.length + 1), 0, a0, TValue.zero, (TValue.mk (5 : Int) (0 : Int) ([] : Bs) true ([]) (Sl.nil : Sl Bs))) hE Weak.toA ?_
  rintro ⟨n14, s26_15, y16_c0, y17_l0, y18_l1⟩ hE K14 hK14
  try dsimp only at hE
  cases n14 with
  | zero => cases hE
  | succ n14 =>
    rw [coerce_coercer_list_l14] at hE
    refine seqK fun K19 hK19 => ?_
    refine region ?_
    refine s0 (binI rfl rfl rfl) rfl ?_
    refine nil ?_
    refine hK19 _ ?_
    clear hK19 K19
    refine seqK fun K20 hK20 => ?_
    refine condE hE rfl (fun hc21 hE => ?_) (fun hc21 hE => ?_)
    ·try dsimp only at hc21
     have hf21 := of_decide_eq_true hc21
     refine AWp.skip ?_
     refine hK20 _ ?_
     clear hK20 K20
     refine seqK fun K22 hK22 => ?_
     refine block ?_
     refine seqK fun K23 hK23 => ?_
     refine region ?_
     obtain ⟨x24, gx24, hE⟩ := bindO_some hE
     refine s0 (idxMn (f := TValue.c) (n := s26_15) (TK rfl) rfl (TK rfl) rfl rfl rfl gx24) rfl ?_
     refine s0 (loadV (TK rfl) rfl rfl rfl) rfl ?_
     refine sL (allocLA (TK rfl) rfl) rfl ?_
     refine sLn (storeLFA (TK rfl) rfl rfl rfl rfl rfl) ?_
     refine nil ?_
     refine hK23 _ ?_
     clear hK23 K23
     refine freezeA 13 _ rfl (Keeps.c (k := 0) (by conv => lhs; whnf) (by rfl) (Keeps.c (k := 3) (by conv => lhs; whnf) (by rfl) (Keeps.c (k := 5) (by conv => lhs; whnf) (by rfl) (Keeps.c (k := 8) (by conv => lhs; whnf) (by rfl) (Keeps.c (k := 11) (by conv => lhs; whnf) (by rfl) (Keeps.c (k := 24) (by conv => lhs; whnf) (by rfl) (Keeps.c (k := 25) (by conv => lhs; whnf) (by rfl) (Keeps.c (k := 26) (by conv => lhs; whnf) (by rfl) Keeps.nil)))))))) ?_
     refine seqK fun K25 hK25 => ?_
     refine region ?_
     refine s0 moveA rfl ?_
     refine s0 (loadV (TK rfl) rfl rfl rfl) rfl ?_
     refine s0 (loadV (TK rfl) rfl rfl rfl) rfl ?_
     refine s0 moveA rfl ?_
     obtain ⟨x26, gx26, hE⟩ := bindO_some hE
     refine s0 (addM rfl rfl gx26) rfl ?_
     obtain ⟨x27, gx27, hE⟩ := bindO_some hE
     refine sH (callH rfl rfl (ih_32 (gT := gT) (oT := oT) gx27 _ hpG hpG (by assumption))) rfl ?_
     refine AOps.heq (h' := ((H.set c0 (some (.cells (Coerce_coercer.c x27.2.2)))).set tk11_6 (some (.tok 5 y18_l1.FItems.l.length)))) (by first | rfl | (rw [Heap.set_set]; rfl) | (funext n_; simp only [Heap.set]; (repeat' split) <;> first | rfl | (exfalso; simp_all; done) | (simp_all; done))) ?_
     refine s0 moveA rfl ?_
     refine s0 (extract rfl rfl) rfl ?_
     refine s0 (extract rfl rfl) rfl ?_
     refine sL (allocLA (TK rfl) rfl) rfl ?_
     refine sLn (storeLFA (TK rfl) rfl rfl rfl rfl rfl) ?_
     refine s0 assignA rfl ?_
     refine nil ?_
     refine hK25 _ ?_
     clear hK25 K25
     refine freezeA 14 _ rfl (Keeps.c (k := 0) (by conv => lhs; whnf) (by rfl) (Keeps.c (k := 3) (by conv => lhs; whnf) (by rfl) (Keeps.c (k := 5) (by conv => lhs; whnf) (by rfl) (Keeps.c (k := 8) (by conv => lhs; whnf) (by rfl) (Keeps.c (k := 11) (by conv => lhs; whnf) (by rfl) (Keeps.c (k := 15) (by conv => lhs; whnf) (by rfl) (Keeps.c (k := 24) (by conv => lhs; whnf) (by rfl) (Keeps.c (k := 25) (by conv => lhs; whnf) (by rfl) (Keeps.c (k := 26) (by conv => lhs; whnf) (by rfl) Keeps.nil))))))))) ?_
     refine seqK fun K28 hK28 => ?_
     refine seqK fun K29 hK29 => ?_
     refine region ?_
     refine s0 moveA rfl ?_
     refine s0 (binI rfl rfl rfl) rfl ?_
     refine nil ?_
     refine hK29 _ ?_
     clear hK29 K29
     refine condE hE rfl (fun hc30 hE => ?_) (fun hc30 hE => ?_)
     ·refine seqK fun K31 hK31 => ?_
      refine region ?_
      refine s0 (build Tryz.tab_ok rfl rfl rfl rfl rfl rfl) rfl ?_
      refine s0 moveA rfl ?_
      refine sLn (storeLFA (TK rfl) rfl rfl rfl rfl rfl) ?_
      refine s0 assignA rfl ?_
      refine nil ?_
      refine hK31 _ ?_
      clear hK31 K31
      refine AWp.ret ?_
      repeat (first | refine xBlock_ret ?_ | refine xThen_ret ?_)
      obtain rfl := Option.some.inj hE
      refine retQ.retF (H.set c0 (some (.cells (Coerce_coercer.c x27.2.2)))) rfl ⟨rfl, rfl⟩ ?_
      intro id_ o_ he_
      have e_tk11_6 : id_ ≠ tk11_6 := fun e_ => by subst e_; simp_all [Heap.set]
      rw [← he_]
      simp only [Heap.set] at he_ ⊢
      (repeat' split) <;> simp_all
     refine AWp.skip ?_
     refine hK28 _ ?_
     clear hK28 K28
     refine region ?_
     refine s0 (fieldL (TK rfl) rfl rfl (TK rfl) rfl rfl) rfl ?_
     refine s0 (loadL (TK rfl) rfl rfl rfl rfl) rfl ?_
     refine s0 (loadV (TK rfl) rfl rfl rfl) rfl ?_
     refine s0 (buildSlice (TK rfl) rfl (TK rfl) rfl rfl rfl rfl rfl rfl) rfl ?_
     obtain ⟨x32, gx32, hE⟩ := bindO_some hE
     refine sH (appM (f := TValue.c) (TK rfl) rfl (TK rfl) (TK rfl) ⟨_, rfl⟩ rfl rfl (by decide) rfl rfl rfl rfl hpG rfl gx32) rfl ?_
     refine AOps.heq (h' := ((H.set c0 (some (.cells (Coerce_coercer.c x27.2.2)))).set tk11_6 (some (.tok 5 x32.l.length)))) (by first | rfl | (rw [Heap.set_set]; rfl) | (funext n_; simp only [Heap.set]; (repeat' split) <;> first | rfl | (exfalso; simp_all; done) | (simp_all; done))) ?_
     refine s0 (fieldL (TK rfl) rfl rfl (TK rfl) rfl rfl) rfl ?_
     refine sLn (storeL1 (TK rfl) rfl rfl rfl rfl (by repeat (first | exact SetAt.zero | apply SetAt.succ)) (by repeat (first | exact SetAt.zero | apply SetAt.succ))) ?_
     refine nil ?_
     refine hK22 _ ?_
     clear hK22 K22
     refine region ?_
     refine s0 (addIA rfl rfl) rfl ?_
     refine s0 moveA rfl ?_
     refine nil ?_
     exact hK14 _ (n14, (s26_15 + 1), x27.2.2, y17_l0, (TValue.mk y18_l1.FKind y18_l1.FInt y18_l1.FText x32.nl x32.l y18_l1.FKeys)) Weak.toA hE (Nat.lt_succ_self _)
    refine AWp.exit ?_
    exact hK7 _ (y16_c0, y17_l0, y18_l1) Weak.toA hE
 rintro ⟨y8_c0, y9_l0, y10_l1⟩ hE
 try dsimp only at hE
 unfold coerce_coercer_list_j7 at hE
 refine seqK fun K11 hK11 => ?_
 refine AWp.relocal 1 _ rfl (fun j w cs hh hx => untok_cell 3 hx rfl) ?_
 refine AWp.relocal 1 (TValue.c y10_l1) rfl (fun j w cs hh hx => by rw [TValue.cu_eq]; exact hx) ?_
 refine region ?_
 refine s0 (loadL (TK rfl) rfl rfl rfl rfl) rfl ?_
 refine sLn (storeLFA (TK rfl) rfl rfl rfl rfl rfl) ?_
 refine s0 assignA rfl ?_
 refine nil ?_
 refine hK11 _ ?_
 clear hK11 K11
 refine AWp.ret ?_
 repeat (first | refine xBlock_ret ?_ | refine xThen_ret ?_)
 obtain rfl := Option.some.inj hE
 refine retQ.retF (H.set c0 (some (.cells (Coerce_coercer.c y8_c0)))) rfl ⟨rfl, rfl⟩ ?_
 intro id_ o_ he_
 have e_tk11_6 : id_ ≠ tk11_6 := fun e_ => by subst e_; simp_all [Heap.set]
 rw [← he_]
 simp only [Heap.set] at he_ ⊢
 (repeat' split) <;> simp_all
theorem coerce_coercer_object_step (n : Nat) (ih_32 : ∀ {a0 : Coerce_coercer} {a1 : TRef} {a2 : TValue} {a3 : Int} {oT : Ab.Obj} {c0 : Nat} {gT : Nat} {r : (TValue × Int × Coerce_coercer)}, coerce_coercer_at_n n a0 a1 a2 a3 = some r → ∀ (H : Heap) (hc0 : H c0 = some (.cells (Coerce_coercer.c a0))) (hgT : H gT = some oT) (hoT : IsTab Tryz.prog oT), ACalls Tryz.prog 32 [.d (.ptr c0 0), .agg (TRef.c a1), .agg (TValue.c a2), .d (.int .i64 a3)] H fun v h' => v = .tup [.agg (TValue.c r.1), .d (.int .i64 r.2.1)] ∧ h' = (H.set c0 (some (.cells (Coerce_coercer.c r.2.2))))) (ih_64 : ∀ {a0 : Coerce_coercer} {a1 : TRef} {a2 : TValue} {a3 : Int} {oT : Ab.Obj} {c0 : Nat} {gT : Nat} {r : (TValue × Int × Coerce_coercer)}, coerce_coercer_list_n n a0 a1 a2 a3 = some r → ∀ (H : Heap) (hc0 : H c0 = some (.cells (Coerce_coercer.c a0))) (hgT : H gT = some oT) (hoT : IsTab Tryz.prog oT), ACalls Tryz.prog 64 [.d (.ptr c0 0), .agg (TRef.c a1), .agg (TValue.c a2), .d (.int .i64 a3)] H fun v h' => v = .tup [.agg (TValue.c r.1), .d (.int .i64 r.2.1)] ∧ h' = (H.set c0 (some (.cells (Coerce_coercer.c r.2.2))))) (ih_67 : ∀ {a0 : Coerce_coercer} {a1 : TDef} {a2 : TValue} {a3 : Int} {oT : Ab.Obj} {c0 : Nat} {gT : Nat} {r : (TValue × Int × Coerce_coercer)}, coerce_coercer_object_n n a0 a1 a2 a3 = some r → ∀ (H : Heap) (hc0 : H c0 = some (.cells (Coerce_coercer.c a0))) (hgT : H gT = some oT) (hoT : IsTab Tryz.prog oT), ACalls Tryz.prog 67 [.d (.ptr c0 0), .agg (TDef.c a1), .agg (TValue.c a2), .d (.int .i64 a3)] H fun v h' => v = .tup [.agg (TValue.c r.1), .d (.int .i64 r.2.1)] ∧ h' = (H.set c0 (some (.cells (Coerce_coercer.c r.2.2))))) (ih_91 : ∀ {a0 : Coerce_coercer} {a1 : TInput} {a2 : Int} {oT : Ab.Obj} {c0 : Nat} {gT : Nat} {r : (TValue × Int × Coerce_coercer)}, Z13_n n a0 a1 a2 = some r → ∀ (H : Heap) (hc0 : H c0 = some (.cells (Coerce_coercer.c a0))) (hgT : H gT = some oT) (hoT : IsTab Tryz.prog oT), ACalls Tryz.prog 91 [.d (.ptr c0 0), .agg (TInput.c a1), .d (.int .i64 a2)] H fun v h' => v = .tup [.agg (TValue.c r.1), .d (.int .i64 r.2.1)] ∧ h' = (H.set c0 (some (.cells (Coerce_coercer.c r.2.2))))) : ∀ {a0 : Coerce_coercer} {a1 : TDef} {a2 : TValue} {a3 : Int} {oT : Ab.Obj} {c0 : Nat} {gT : Nat} {r : (TValue × Int × Coerce_coercer)}, coerce_coercer_object_n (n + 1) a0 a1 a2 a3 = some r → ∀ (H : Heap) (hc0 : H c0 = some (.cells (Coerce_coercer.c a0))) (hgT : H gT = some oT) (hoT : IsTab Tryz.prog oT), ACalls Tryz.prog 67 [.d (.ptr c0 0), .agg (TDef.c a1), .agg (TValue.c a2), .d (.int .i64 a3)] H fun v h' => v = .tup [.agg (TValue.c r.1), .d (.int .i64 r.2.1)] ∧ h' = (H.set c0 (some (.cells (Coerce_coercer.c r.2.2)))) := by
 intro a0 a1 a2 a3 oT c0 gT r hE H hc0 hgT hoT
 rw [coerce_coercer_object_n] at hE
 refine ACalls.of_wp (fn := Tryz.f67) (c := _) Tryz.tab_ok (fun _ _ => Tryz.call67 _ _) Tryz.func67 rfl (n := 124) rfl (rs := [.cell 8 31, .tmp 9]) rfl rfl ?_
 have ne_gT_c0 : gT ≠ c0 := fun e_ => by subst e_; obtain ⟨_, _, _, e2_, _⟩ := hoT; simp_all
 refine AWp.heqA (h' := (H.set c0 (some (.cells (Coerce_coercer.c a0))))) (by funext n_; simp only [Heap.set]; (repeat' split) <;> simp_all) ?_
 refine seqK fun K1 hK1 => ?_
 refine region ?_
 refine s0 (boxV rfl) rfl ?_
 refine s0 (boxV rfl) rfl ?_
 refine sL (allocLA (TK rfl) rfl) rfl ?_
 refine s0 assignA rfl ?_
 refine nil ?_
 refine hK1 _ ?_
 clear hK1 K1
 refine seqK fun K2 hK2 => ?_
 refine seqK fun K3 hK3 => ?_
 refine region ?_
 refine s0 (fieldVA (TK rfl) rfl rfl (TK rfl) rfl rfl) rfl ?_
 refine s0 (loadV (TK rfl) rfl rfl rfl) rfl ?_
 refine s0 (binI rfl rfl rfl) rfl ?_
 refine nil ?_
 refine hK3 _ ?_
 clear hK3 K3
 refine condE hE rfl (fun hc4 hE => ?_) (fun hc4 hE => ?_)
 ·refine seqK fun K5 hK5 => ?_
  refine region ?_
  refine s0 (build Tryz.tab_ok rfl rfl rfl rfl rfl rfl) rfl ?_
  refine sLn (storeLFA (TK rfl) rfl rfl rfl rfl rfl) ?_
  refine s0 assignA rfl ?_
  refine nil ?_
  refine hK5 _ ?_
  clear hK5 K5
  refine AWp.ret ?_
  repeat (first | refine xBlock_ret ?_ | refine xThen_ret ?_)
  obtain rfl := Option.some.inj hE
  refine retQ.retF (H.set c0 (some (.cells (Coerce_coercer.c a0)))) rfl ⟨rfl, rfl⟩ ?_
  exact (fun _ _ h => h)
 refine AWp.skip ?_
 refine hK2 _ ?_
 clear hK2 K2
 refine seqJ (KeepsT.A (k := 0) (KeepsT.A (k := 3) (KeepsT.A (k := 5) (KeepsT.A (k := 6) (KeepsT.A (k := 8) KeepsT.nil))))) (fun (z : TValue) => []) (fun z => [TValue.c z]) (fun z => (H.set c0 (some (.cells (Coerce_coercer.c a0))))) (fun z => coerce_coercer_object_j6 a0 a1 a2 a3 (coerce_coercer_at_n n) (Z13_n n) z = some r) ?_ ?_
 ·intro K6 hK6
  refine seqK fun K64 hK64 => ?_
  refine region ?_
  refine s0 (fieldVA (TK rfl) rfl rfl (TK rfl) rfl rfl) rfl ?_
  refine s0 (loadV (TK rfl) rfl rfl rfl) rfl ?_
  refine sLen (f := strE) (s := a2.FKeys) (TK rfl) rfl rfl rfl rfl fun hL65 => ?_
  refine s0 moveA rfl ?_
  refine nil ?_
  refine hK64 _ ?_
  clear hK64 K64
  refine block ?_
  refine loopO (KeepsT.A (k := 0) (KeepsT.A (k := 3) (KeepsT.A (k := 5) (KeepsT.A (k := 6) (KeepsT.A (k := 8) (KeepsT.A (k := 28) (KeepsT.A (k := 29) KeepsT.nil))))))) (fun (z : Nat × Nat × TValue) => [(30, .a (.d (.int .i64 ((z.2.1 : Nat) : Int))))]) (fun z => [TValue.c z.2.2]) (fun z => (H.set c0 (some (.cells (Coerce_coercer.c a0))))) (fun z => z.1) (fun z => coerce_coercer_object_l66 a0 a1 a2 a3 (coerce_coercer_at_n n) (Z13_n n) z.1 z.2.1 z.2.2 = some r) ((a2.FKeys.l.length + 1), 0, TValue.zero) hE Weak.toA ?_
  rintro ⟨n66, s30_67, y68_l0⟩ hE K66 hK66
  try dsimp only at hE
  cases n66 with
  | zero => cases hE
  | succ n66 =>
    rw [coerce_coercer_object_l66] at hE
    refine seqK fun K69 hK69 => ?_
    refine region ?_
    refine s0 (binI rfl rfl rfl) rfl ?_
    refine nil ?_
    refine hK69 _ ?_
    clear hK69 K69
    refine seqK fun K70 hK70 => ?_
    refine condE hE rfl (fun hc71 hE => ?_) (fun hc71 hE => ?_)
    ·try dsimp only at hc71
     have hf71 := of_decide_eq_true hc71
     refine AWp.skip ?_
     refine hK70 _ ?_
     clear hK70 K70
     refine seqK fun K72 hK72 => ?_
     refine block ?_
     refine seqK fun K73 hK73 => ?_
     refine region ?_
     obtain ⟨x74, gx74, hE⟩ := bindO_some hE
     refine s0 (idxMn (f := strE) (n := s30_67) (TK rfl) rfl (TK rfl) rfl rfl rfl gx74) rfl ?_
     refine s0 (loadV (TK rfl) rfl rfl rfl) rfl ?_
     refine s0 assignA rfl ?_
     refine nil ?_
     refine hK73 _ ?_
     clear hK73 K73
     refine seqK fun K75 hK75 => ?_
     refine region ?_
     refine s0 (fieldVA (TK rfl) rfl rfl (TK rfl) rfl rfl) rfl ?_
     refine s0 (loadV (TK rfl) rfl rfl rfl) rfl ?_
     refine s0 moveA rfl ?_
     obtain ⟨x76, gx76, hE⟩ := bindO_some hE
     refine s0 (callP rfl rfl (fun H => Z69_walk gx76 H)) rfl ?_
     refine s0 moveA rfl ?_
     refine s0 (extract rfl rfl) rfl ?_
     refine s0 (extract rfl rfl) rfl ?_
     refine sL (allocLA (TK rfl) rfl) rfl ?_
     refine sLn (storeLFA (TK rfl) rfl rfl rfl rfl rfl) ?_
     refine s0 assignA rfl ?_
     refine nil ?_
     refine hK75 _ ?_
     clear hK75 K75
     refine freezeA 12 _ rfl (Keeps.c (k := 0) (by conv => lhs; whnf) (by rfl) (Keeps.c (k := 3) (by conv => lhs; whnf) (by rfl) (Keeps.c (k := 5) (by conv => lhs; whnf) (by rfl) (Keeps.c (k := 6) (by conv => lhs; whnf) (by rfl) (Keeps.c (k := 8) (by conv => lhs; whnf) (by rfl) (Keeps.c (k := 13) (by conv => lhs; whnf) (by rfl) (Keeps.c (k := 28) (by conv => lhs; whnf) (by rfl) (Keeps.c (k := 29) (by conv => lhs; whnf) (by rfl) (Keeps.c (k := 30) (by conv => lhs; whnf) (by rfl) Keeps.nil))))))))) ?_
     refine seqK fun K77 hK77 => ?_
     refine region ?_
     refine s0 moveA rfl ?_
     refine s0 (notB rfl) rfl ?_
     refine nil ?_
     refine hK77 _ ?_
     clear hK77 K77
     refine condE hE rfl (fun hc78 hE => ?_) (fun hc78 hE => ?_)
     ·refine seqK fun K79 hK79 => ?_
      refine region ?_
      refine s0 (build Tryz.tab_ok rfl rfl rfl rfl rfl rfl) rfl ?_
      refine sLn (storeLFA (TK rfl) rfl rfl rfl rfl rfl) ?_
      refine s0 assignA rfl ?_
      refine nil ?_
      refine hK79 _ ?_
      clear hK79 K79
      refine AWp.ret ?_
      repeat (first | refine xBlock_ret ?_ | refine xThen_ret ?_)
      obtain rfl := Option.some.inj hE
      refine retQ.retF (H.set c0 (some (.cells (Coerce_coercer.c a0)))) rfl ⟨rfl, rfl⟩ ?_
      exact (fun _ _ h => h)
     refine AWp.skip ?_
     refine hK72 _ ?_
     clear hK72 K72
     refine region ?_
     refine s0 (addIA rfl rfl) rfl ?_
     refine s0 moveA rfl ?_
     refine nil ?_
     exact hK66 _ (n66, (s30_67 + 1), y68_l0) Weak.toA hE (Nat.lt_succ_self _)
    refine AWp.exit ?_
    exact hK6 _ y68_l0 Weak.toA hE
 rintro y7_l0 hE
 try dsimp only at hE
 unfold coerce_coercer_object_j6 at hE
 refine seqK fun K8 hK8 => ?_
 refine region ?_
 refine s0 (build Tryz.tab_ok rfl rfl rfl rfl rfl rfl) rfl ?_
 refine sL (allocLA (TK rfl) rfl) rfl ?_
 refine AOps.tok 5 fun tk14_9 htk14_9 => ?_
 obtain ⟨ne_tk14_9_c0, htk14_9⟩ := Heap.set_fresh htk14_9
 have ne_tk14_9_gT : tk14_9 ≠ gT := fun e_ => by subst e_; simp_all
 refine AOps.relocal 1 _ rfl (fun j w cs hh hx => tok_cell 3 5 5 hh (t := tk14_9) hpG hx rfl) ?_
 refine AOps.tok 1 fun tk14_10 htk14_10 => ?_
 obtain ⟨ne_tk14_10_tk14_9, htk14_10⟩ := Heap.set_fresh htk14_10
 obtain ⟨ne_tk14_10_c0, htk14_10⟩ := Heap.set_fresh htk14_10
 have ne_tk14_10_gT : tk14_10 ≠ gT := fun e_ => by subst e_; simp_all
 refine AOps.relocal 1 _ rfl (fun j w cs hh hx => tok_cell 4 1 1 hh (t := tk14_10) hpG hx rfl) ?_
 refine sLn (storeLFA (TK rfl) rfl rfl rfl rfl rfl) ?_
 refine AOps.relocal 1 _ rfl (fun j w cs hh hx => tok_cell 3 5 5 hh (t := tk14_9) hpG hx rfl) ?_
 refine AOps.relocal 1 _ rfl (fun j w cs hh hx => tok_cell 4 1 1 hh (t := tk14_10) hpG hx rfl) ?_
 refine nil ?_
 refine hK8 _ ?_
 clear hK8 K8
 refine seqJ (KeepsT.A (k := 8) (KeepsT.A (k := 14) KeepsT.nil)) (fun (z : Coerce_coercer × TValue × TValue) => []) (fun z => [TValue.c z.2.1, ((intE .i64) z.2.2.FKind ++ (intE .i64) z.2.2.FInt ++ strE z.2.2.FText ++ [Sl.d 5 TValue.c (some tk14_9) z.2.2.FItems] ++ [Sl.d 1 strE (some tk14_10) z.2.2.FKeys])]) (fun z => (((H.set c0 (some (.cells (Coerce_coercer.c z.1)))).set tk14_9 (some (.tok 5 z.2.2.FItems.l.length))).set tk14_10 (some (.tok 1 z.2.2.FKeys.l.length)))) (fun z => coerce_coercer_object_j11 z.1 z.2.1 z.2.2 = some r) ?_ ?_
 ·intro K11 hK11
  refine seqK fun K16 hK16 => ?_
  refine region ?_
  refine s0 (fieldVA (TK rfl) rfl rfl (TK rfl) rfl rfl) rfl ?_
  refine s0 (loadV (TK rfl) rfl rfl rfl) rfl ?_
  refine sLen (f := TInput.c) (s := a1.FInputs) (TK rfl) rfl rfl rfl rfl fun hL17 => ?_
  refine s0 moveA rfl ?_
  refine nil ?_
  refine hK16 _ ?_
  clear hK16 K16
  refine block ?_
  refine loopO (KeepsT.A (k := 0) (KeepsT.A (k := 3) (KeepsT.A (k := 5) (KeepsT.A (k := 6) (KeepsT.A (k := 8) (KeepsT.A (k := 14) (KeepsT.A (k := 47) (KeepsT.A (k := 48) KeepsT.nil)))))))) (fun (z : Nat × Nat × Coerce_coercer × TValue × TValue) => [(49, .a (.d (.int .i64 ((z.2.1 : Nat) : Int))))]) (fun z => [TValue.c z.2.2.2.1, ((intE .i64) z.2.2.2.2.FKind ++ (intE .i64) z.2.2.2.2.FInt ++ strE z.2.2.2.2.FText ++ [Sl.d 5 TValue.c (some tk14_9) z.2.2.2.2.FItems] ++ [Sl.d 1 strE (some tk14_10) z.2.2.2.2.FKeys])]) (fun z => (((H.set c0 (some (.cells (Coerce_coercer.c z.2.2.1)))).set tk14_9 (some (.tok 5 z.2.2.2.2.FItems.l.length))).set tk14_10 (some (.tok 1 z.2.2.2.2.FKeys.l.length)))) (fun z => z.1) (fun z => coerce_coercer_object_l18 a1 a2 a3 (coerce_coercer_at_n n) (Z13_n n) z.1 z.2.1 z.2.2.1 z.2.2.2.1 z.2.2.2.2 = some r) ((a1.FInputs.l.length + 1), 0, a0, y7_l0, (TValue.mk (6 : Int) (0 : Int) ([] : Bs) true ([]) (Sl.nil : Sl Bs))) hE Weak.toA ?_
  rintro ⟨n18, s49_19, y20_c0, y21_l0, y22_l1⟩ hE K18 hK18
  try dsimp only at hE
  cases n18 with
  | zero => cases hE
  | succ n18 =>
    rw [coerce_coercer_object_l18] at hE
    refine seqK fun K23 hK23 => ?_
    refine region ?_
    refine s0 (binI rfl rfl rfl) rfl ?_
    refine nil ?_
    refine hK23 _ ?_
    clear hK23 K23
    refine seqK fun K24 hK24 => ?_
    refine condE hE rfl (fun hc25 hE => ?_) (fun hc25 hE => ?_)
    ·try dsimp only at hc25
     have hf25 := of_decide_eq_true hc25
     refine AWp.skip ?_
     refine hK24 _ ?_
     clear hK24 K24
     refine seqJ (KeepsT.A (k := 0) (KeepsT.A (k := 3) (KeepsT.A (k := 5) (KeepsT.A (k := 6) (KeepsT.A (k := 8) (KeepsT.A (k := 14) (KeepsT.A (k := 47) (KeepsT.A (k := 48) (KeepsT.A (k := 49) KeepsT.nil))))))))) (fun (z : Coerce_coercer × TValue × TValue) => []) (fun z => [TValue.c z.2.1, ((intE .i64) z.2.2.FKind ++ (intE .i64) z.2.2.FInt ++ strE z.2.2.FText ++ [Sl.d 5 TValue.c (some tk14_9) z.2.2.FItems] ++ [Sl.d 1 strE (some tk14_10) z.2.2.FKeys])]) (fun z => (((H.set c0 (some (.cells (Coerce_coercer.c z.1)))).set tk14_9 (some (.tok 5 z.2.2.FItems.l.length))).set tk14_10 (some (.tok 1 z.2.2.FKeys.l.length)))) (fun z => coerce_coercer_object_j26 s49_19 ((coerce_coercer_object_l18 a1 a2 a3 (coerce_coercer_at_n n) (Z13_n n) n18)) z.1 z.2.1 z.2.2 = some r) ?_ ?_
     ·intro K26 hK26
      refine block ?_
      refine seqK fun K30 hK30 => ?_
      refine region ?_
      refine s0 moveA rfl ?_
      obtain ⟨x31, gx31, hE⟩ := bindO_some hE
      refine s0 (idxMn (f := TInput.c) (n := s49_19) (TK rfl) rfl (TK rfl) rfl rfl rfl gx31) rfl ?_
      refine s0 (loadV (TK rfl) rfl rfl rfl) rfl ?_
      refine sL (allocLA (TK rfl) rfl) rfl ?_
      refine s0 assignA rfl ?_
      refine sLn (storeLFA (TK rfl) rfl rfl rfl rfl rfl) ?_
      refine nil ?_
      refine hK30 _ ?_
      clear hK30 K30
      refine freezeA 16 _ rfl (Keeps.c (k := 0) (by conv => lhs; whnf) (by rfl) (Keeps.c (k := 3) (by conv => lhs; whnf) (by rfl) (Keeps.c (k := 5) (by conv => lhs; whnf) (by rfl) (Keeps.c (k := 6) (by conv => lhs; whnf) (by rfl) (Keeps.c (k := 8) (by conv => lhs; whnf) (by rfl) (Keeps.c (k := 14) (by conv => lhs; whnf) (by rfl) (Keeps.c (k := 15) (by conv => lhs; whnf) (by rfl) (Keeps.c (k := 47) (by conv => lhs; whnf) (by rfl) (Keeps.c (k := 48) (by conv => lhs; whnf) (by rfl) (Keeps.c (k := 49) (by conv => lhs; whnf) (by rfl) Keeps.nil)))))))))) ?_
      refine seqK fun K32 hK32 => ?_
      refine seqK fun K33 hK33 => ?_
      refine AWp.draw rfl ?_
      refine DOps.s0 (fieldVA (TK rfl) rfl rfl (TK rfl) rfl rfl) rfl ?_
      refine DOps.s0 (loadV (TK rfl) rfl rfl rfl) rfl ?_
      refine DOps.s0 moveA rfl ?_
      obtain ⟨x34, gx34, hE⟩ := bindO_some hE
      refine DOps.s0 (partM (f := TInput.c) (l := none) (r := (some ((s49_19 : Nat) : Int))) (TK rfl) rfl (TK rfl) rfl rfl trivial rfl gx34) rfl ?_
      refine DOps.s0 (fieldVA (TK rfl) rfl rfl (TK rfl) rfl rfl) rfl ?_
      refine DOps.s0 (loadV (TK rfl) rfl rfl rfl) rfl ?_
      obtain ⟨x35, gx35, hE⟩ := bindO_some hE
      refine DOps.s0 (callP rfl rfl (fun H => Z69_walk gx35 H)) rfl ?_
      refine DOps.s0 moveA rfl ?_
      refine DOps.s0 (extract rfl rfl) rfl ?_
      refine DOps.s0 (extract rfl rfl) rfl ?_
      refine DOps.sB (TK rfl) rfl rfl ?_ (by repeat (first | exact Snoc.nil | apply Snoc.cons))
      refine DOps.sLn (storeLFA (TK rfl) rfl rfl rfl rfl rfl) ?_
      refine DOps.s0 assignA rfl ?_
      refine DOps.nil (by decide +kernel) ?_
      refine hK33 _ ?_
      clear hK33 K33
      refine freezeA 17 _ rfl (Keeps.c (k := 0) (by conv => lhs; whnf) (by rfl) (Keeps.c (k := 3) (by conv => lhs; whnf) (by rfl) (Keeps.c (k := 5) (by conv => lhs; whnf) (by rfl) (Keeps.c (k := 6) (by conv => lhs; whnf) (by rfl) (Keeps.c (k := 8) (by conv => lhs; whnf) (by rfl) (Keeps.c (k := 14) (by conv => lhs; whnf) (by rfl) (Keeps.c (k := 16) (by conv => lhs; whnf) (by rfl) (Keeps.c (k := 18) (by conv => lhs; whnf) (by rfl) (Keeps.c (k := 47) (by conv => lhs; whnf) (by rfl) (Keeps.c (k := 48) (by conv => lhs; whnf) (by rfl) (Keeps.c (k := 49) (by conv => lhs; whnf) (by rfl) Keeps.nil))))))))))) ?_
      refine seqK fun K36 hK36 => ?_
      refine region ?_
      refine s0 moveA rfl ?_
      refine nil ?_
      refine hK36 _ ?_
      clear hK36 K36
      refine condE hE rfl (fun hc37 hE => ?_) (fun hc37 hE => ?_)
      ·refine AWp.exit ?_
       exact hK26 _ (y20_c0, y21_l0, y22_l1) Weak.toA hE
      refine AWp.skip ?_
      refine hK32 _ ?_
      clear hK32 K32
      refine seqK fun K38 hK38 => ?_
      refine region ?_
      refine s0 (loadV (TK rfl) rfl rfl rfl) rfl ?_
      refine s0 (fieldVA (TK rfl) rfl rfl (TK rfl) rfl rfl) rfl ?_
      refine s0 (loadV (TK rfl) rfl rfl rfl) rfl ?_
      obtain ⟨x39, gx39, hE⟩ := bindO_some hE
      refine s0 (callP rfl rfl (fun H => Z89_walk gx39 H)) rfl ?_
      refine s0 moveA rfl ?_
      refine s0 (extract rfl rfl) rfl ?_
      refine s0 (extract rfl rfl) rfl ?_
      refine sL (allocLA (TK rfl) rfl) rfl ?_
      refine sLn (storeLFA (TK rfl) rfl rfl rfl rfl rfl) ?_
      refine s0 assignA rfl ?_
      refine nil ?_
      refine hK38 _ ?_
      clear hK38 K38
      refine freezeA 19 _ rfl (Keeps.c (k := 0) (by conv => lhs; whnf) (by rfl) (Keeps.c (k := 3) (by conv => lhs; whnf) (by rfl) (Keeps.c (k := 5) (by conv => lhs; whnf) (by rfl) (Keeps.c (k := 6) (by conv => lhs; whnf) (by rfl) (Keeps.c (k := 8) (by conv => lhs; whnf) (by rfl) (Keeps.c (k := 14) (by conv => lhs; whnf) (by rfl) (Keeps.c (k := 16) (by conv => lhs; whnf) (by rfl) (Keeps.c (k := 20) (by conv => lhs; whnf) (by rfl) (Keeps.c (k := 47) (by conv => lhs; whnf) (by rfl) (Keeps.c (k := 48) (by conv => lhs; whnf) (by rfl) (Keeps.c (k := 49) (by conv => lhs; whnf) (by rfl) Keeps.nil))))))))))) ?_
      refine seqK fun K40 hK40 => ?_
      refine region ?_
      refine sL (allocLA (TK rfl) rfl) rfl ?_
      refine nil ?_
      refine hK40 _ ?_
      clear hK40 K40
      refine seqK fun K41 hK41 => ?_
      refine region ?_
      refine s0 assignA rfl ?_
      refine nil ?_
      refine hK41 _ ?_
      clear hK41 K41
      refine seqJ (KeepsT.A (k := 0) (KeepsT.A (k := 3) (KeepsT.A (k := 5) (KeepsT.A (k := 6) (KeepsT.A (k := 8) (KeepsT.A (k := 14) (KeepsT.A (k := 16) (KeepsT.A (k := 21) (KeepsT.A (k := 47) (KeepsT.A (k := 48) (KeepsT.A (k := 49) KeepsT.nil))))))))))) (fun (z : Int × Coerce_coercer × TValue) => [(22, .a (.d (.int .i64 z.1)))]) (fun z => [TValue.c y21_l0, ((intE .i64) y22_l1.FKind ++ (intE .i64) y22_l1.FInt ++ strE y22_l1.FText ++ [Sl.d 5 TValue.c (some tk14_9) y22_l1.FItems] ++ [Sl.d 1 strE (some tk14_10) y22_l1.FKeys]), TValue.c z.2.2]) (fun z => (((H.set c0 (some (.cells (Coerce_coercer.c z.2.1)))).set tk14_9 (some (.tok 5 y22_l1.FItems.l.length))).set tk14_10 (some (.tok 1 y22_l1.FKeys.l.length)))) (fun z => coerce_coercer_object_j42 s49_19 y21_l0 y22_l1 x31 ((coerce_coercer_object_l18 a1 a2 a3 (coerce_coercer_at_n n) (Z13_n n) n18)) z.1 z.2.1 z.2.2 = some r) ?_ ?_
      ·intro K42 hK42
       refine block ?_
       refine seqK fun K52 hK52 => ?_
       refine region ?_
       refine s0 moveA rfl ?_
       refine s0 moveA rfl ?_
       refine gC rfl rfl (fun hC => moveA) rfl ?_
       refine gC rfl rfl (fun hC => loadV (TK rfl) rfl rfl rfl) rfl ?_
       obtain ⟨x53, gx53, hE⟩ := guardO_some hE
       refine gC rfl rfl (fun hC => ungdA (k := 75) rfl (ungdA (k := 76) rfl (callR rfl rfl (Z12_walk (gx53 hC) _ hpG)))) rfl ?_
       refine gC rfl rfl (fun hC => ungdA (k := 77) rfl (notB rfl)) rfl ?_
       refine s0 (pickAndA rfl rfl rfl) rfl ?_
       refine s0 assignA rfl ?_
       refine nil ?_
       refine hK52 _ ?_
       clear hK52 K52
       refine condE hE rfl (fun hc54 hE => ?_) (fun hc54 hE => ?_)
       ·refine region ?_
        refine s0 moveA rfl ?_
        refine s0 (fieldVA (TK rfl) rfl rfl (TK rfl) rfl rfl) rfl ?_
        refine s0 (loadV (TK rfl) rfl rfl rfl) rfl ?_
        refine s0 (loadV (TK rfl) rfl rfl rfl) rfl ?_
        refine s0 moveA rfl ?_
        obtain ⟨x55, gx55, hE⟩ := bindO_some hE
        refine s0 (addM rfl rfl gx55) rfl ?_
        obtain ⟨x56, gx56, hE⟩ := bindO_some hE
        refine sH (callH rfl rfl (ih_32 (gT := gT) (oT := oT) gx56 _ hpG hpG (by assumption))) rfl ?_
        refine AOps.heq (h' := (((H.set c0 (some (.cells (Coerce_coercer.c x56.2.2)))).set tk14_9 (some (.tok 5 y22_l1.FItems.l.length))).set tk14_10 (some (.tok 1 y22_l1.FKeys.l.length)))) (by first | rfl | (rw [Heap.set_set]; rfl) | (funext n_; simp only [Heap.set]; (repeat' split) <;> first | rfl | (exfalso; simp_all; done) | (simp_all; done))) ?_
        refine s0 moveA rfl ?_
        refine s0 (extract rfl rfl) rfl ?_
        refine s0 (extract rfl rfl) rfl ?_
        refine sLn (storeLFA (TK rfl) rfl rfl rfl rfl rfl) ?_
        refine s0 assignA rfl ?_
        refine nil ?_
        exact hK42 _ (x56.2.1, x56.2.2, x56.1) Weak.toA hE
       refine seqK fun K57 hK57 => ?_
       refine region ?_
       refine s0 (fieldVA (TK rfl) rfl rfl (TK rfl) rfl rfl) rfl ?_
       refine s0 (loadV (TK rfl) rfl rfl rfl) rfl ?_
       refine s0 assignA rfl ?_
       refine nil ?_
       refine hK57 _ ?_
       clear hK57 K57
       refine condE hE rfl (fun hc58 hE => ?_) (fun hc58 hE => ?_)
       ·refine region ?_
        refine s0 moveA rfl ?_
        refine s0 (loadV (TK rfl) rfl rfl rfl) rfl ?_
        refine s0 moveA rfl ?_
        obtain ⟨x59, gx59, hE⟩ := bindO_some hE
        refine s0 (addM rfl rfl gx59) rfl ?_
        obtain ⟨x60, gx60, hE⟩ := bindO_some hE
        refine sH (callH rfl rfl (ih_91 (gT := gT) (oT := oT) gx60 _ hpG hpG (by assumption))) rfl ?_
        refine AOps.heq (h' := (((H.set c0 (some (.cells (Coerce_coercer.c x60.2.2)))).set tk14_9 (some (.tok 5 y22_l1.FItems.l.length))).set tk14_10 (some (.tok 1 y22_l1.FKeys.l.length)))) (by first | rfl | (rw [Heap.set_set]; rfl) | (funext n_; simp only [Heap.set]; (repeat' split) <;> first | rfl | (exfalso; simp_all; done) | (simp_all; done))) ?_
        refine s0 moveA rfl ?_
        refine s0 (extract rfl rfl) rfl ?_
        refine s0 (extract rfl rfl) rfl ?_
        refine sLn (storeLFA (TK rfl) rfl rfl rfl rfl rfl) ?_
        refine s0 assignA rfl ?_
        refine nil ?_
        exact hK42 _ (x60.2.1, x60.2.2, x60.1) Weak.toA hE
       refine seqK fun K61 hK61 => ?_
       refine region ?_
       refine s0 (fieldVA (TK rfl) rfl rfl (TK rfl) rfl rfl) rfl ?_
       refine s0 (loadV (TK rfl) rfl rfl rfl) rfl ?_
       obtain ⟨x62, gx62, hE⟩ := bindO_some hE
       refine s0 (callP rfl rfl (fun H => Z87_walk gx62 H)) rfl ?_
       refine s0 assignA rfl ?_
       refine nil ?_
       refine hK61 _ ?_
       clear hK61 K61
       refine condE hE rfl (fun hc63 hE => ?_) (fun hc63 hE => ?_)
       ·refine region ?_
        refine s0 assignA rfl ?_
        refine nil ?_
        exact hK42 _ ((22 : Int), y20_c0, TValue.zero) Weak.toA hE
       refine AWp.exit ?_
       exact hK26 _ (y20_c0, y21_l0, y22_l1) Weak.toA hE
      rintro ⟨s22_43, y44_c0, y45_l2⟩ hE
      try dsimp only at hE
      unfold coerce_coercer_object_j42 at hE
      refine seqK fun K46 hK46 => ?_
      refine seqK fun K47 hK47 => ?_
      refine region ?_
      refine s0 moveA rfl ?_
      refine s0 (binI rfl rfl rfl) rfl ?_
      refine nil ?_
      refine hK47 _ ?_
      clear hK47 K47
      refine condE hE rfl (fun hc48 hE => ?_) (fun hc48 hE => ?_)
      ·refine seqK fun K49 hK49 => ?_
       refine region ?_
       refine s0 (build Tryz.tab_ok rfl rfl rfl rfl rfl rfl) rfl ?_
       refine s0 moveA rfl ?_
       refine sLn (storeLFA (TK rfl) rfl rfl rfl rfl rfl) ?_
       refine s0 assignA rfl ?_
       refine nil ?_
       refine hK49 _ ?_
       clear hK49 K49
       refine AWp.ret ?_
       repeat (first | refine xBlock_ret ?_ | refine xThen_ret ?_)
       obtain rfl := Option.some.inj hE
       refine retQ.retF (H.set c0 (some (.cells (Coerce_coercer.c y44_c0)))) rfl ⟨rfl, rfl⟩ ?_
       intro id_ o_ he_
       have e_tk14_9 : id_ ≠ tk14_9 := fun e_ => by subst e_; simp_all [Heap.set]
       have e_tk14_10 : id_ ≠ tk14_10 := fun e_ => by subst e_; simp_all [Heap.set]
       rw [← he_]
       simp only [Heap.set] at he_ ⊢
       (repeat' split) <;> simp_all
      refine AWp.skip ?_
      refine hK46 _ ?_
      clear hK46 K46
      refine AWp.draw rfl ?_
      refine DOps.s0 (fieldL (TK rfl) rfl rfl (TK rfl) rfl rfl) rfl ?_
      refine DOps.s0 (loadL (TK rfl) rfl rfl rfl rfl) rfl ?_
      refine DOps.s0 (fieldVA (TK rfl) rfl rfl (TK rfl) rfl rfl) rfl ?_
      refine DOps.s0 (loadV (TK rfl) rfl rfl rfl) rfl ?_
      refine DOps.s0 (buildSlice (TK rfl) rfl (TK rfl) rfl rfl rfl rfl rfl rfl) rfl ?_
      obtain ⟨x50, gx50, hE⟩ := bindO_some hE
      refine DOps.sH (appM (f := strE) (TK rfl) rfl (TK rfl) (TK rfl) ⟨_, rfl⟩ rfl rfl (by decide) rfl rfl rfl rfl hpG rfl gx50) rfl ?_
      refine DOps.heq (h' := (((H.set c0 (some (.cells (Coerce_coercer.c y44_c0)))).set tk14_9 (some (.tok 5 y22_l1.FItems.l.length))).set tk14_10 (some (.tok 1 x50.l.length)))) (by first | rfl | (rw [Heap.set_set]; rfl) | (funext n_; simp only [Heap.set]; (repeat' split) <;> first | rfl | (exfalso; simp_all; done) | (simp_all; done))) ?_
      refine DOps.s0 (fieldL (TK rfl) rfl rfl (TK rfl) rfl rfl) rfl ?_
      refine DOps.s0 (loadL (TK rfl) rfl rfl rfl rfl) rfl ?_
      refine DOps.s0 (loadL (TK rfl) rfl rfl rfl rfl) rfl ?_
      refine DOps.s0 (buildSlice (TK rfl) rfl (TK rfl) rfl rfl rfl rfl rfl rfl) rfl ?_
      obtain ⟨x51, gx51, hE⟩ := bindO_some hE
      refine DOps.sH (appM (f := TValue.c) (TK rfl) rfl (TK rfl) (TK rfl) ⟨_, rfl⟩ rfl rfl (by decide) rfl rfl rfl rfl hpG rfl gx51) rfl ?_
      refine DOps.heq (h' := (((H.set c0 (some (.cells (Coerce_coercer.c y44_c0)))).set tk14_9 (some (.tok 5 x51.l.length))).set tk14_10 (some (.tok 1 x50.l.length)))) (by first | rfl | (rw [Heap.set_set]; rfl) | (funext n_; simp only [Heap.set]; (repeat' split) <;> first | rfl | (exfalso; simp_all; done) | (simp_all; done))) ?_
      refine DOps.s0 (fieldL (TK rfl) rfl rfl (TK rfl) rfl rfl) rfl ?_
      refine DOps.sLn (storeL1 (TK rfl) rfl rfl rfl rfl (by repeat (first | exact SetAt.zero | apply SetAt.succ)) (by repeat (first | exact SetAt.zero | apply SetAt.succ))) ?_
      refine DOps.s0 (fieldL (TK rfl) rfl rfl (TK rfl) rfl rfl) rfl ?_
      refine DOps.sLn (storeL1 (TK rfl) rfl rfl rfl rfl (by repeat (first | exact SetAt.zero | apply SetAt.succ)) (by repeat (first | exact SetAt.zero | apply SetAt.succ))) ?_
      refine DOps.nil (by decide +kernel) ?_
      exact hK26 _ (y44_c0, y21_l0, (TValue.mk y22_l1.FKind y22_l1.FInt y22_l1.FText x51.nl x51.l x50)) Weak.toA hE
     rintro ⟨y27_c0, y28_l0, y29_l1⟩ hE
     try dsimp only at hE
     unfold coerce_coercer_object_j26 at hE
     refine region ?_
     refine s0 (addIA rfl rfl) rfl ?_
     refine s0 moveA rfl ?_
     refine nil ?_
     exact hK18 _ (n18, (s49_19 + 1), y27_c0, y28_l0, y29_l1) Weak.toA hE (Nat.lt_succ_self _)
    refine AWp.exit ?_
    exact hK11 _ (y20_c0, y21_l0, y22_l1) Weak.toA hE
 rintro ⟨y12_c0, y13_l0, y14_l1⟩ hE
 try dsimp only at hE
 unfold coerce_coercer_object_j11 at hE
 refine seqK fun K15 hK15 => ?_
 refine AWp.relocal 1 _ rfl (fun j w cs hh hx => untok_cell 3 hx rfl) ?_
 refine AWp.relocal 1 _ rfl (fun j w cs hh hx => untok_cell 4 hx rfl) ?_
 refine AWp.relocal 1 (TValue.c y14_l1) rfl (fun j w cs hh hx => by rw [TValue.cu_eq]; exact hx) ?_
 refine region ?_
 refine s0 (loadL (TK rfl) rfl rfl rfl rfl) rfl ?_
 refine sLn (storeLFA (TK rfl) rfl rfl rfl rfl rfl) ?_
 refine s0 assignA rfl ?_
 refine nil ?_
 refine hK15 _ ?_
 clear hK15 K15
 refine AWp.ret ?_
 repeat (first | refine xBlock_ret ?_ | refine xThen_ret ?_)
 obtain rfl := Option.some.inj hE
 refine retQ.retF (H.set c0 (some (.cells (Coerce_coercer.c y12_c0)))) rfl ⟨rfl, rfl⟩ ?_
 intro id_ o_ he_
 have e_tk14_9 : id_ ≠ tk14_9 := fun e_ => by subst e_; simp_all [Heap.set]
 have e_tk14_10 : id_ ≠ tk14_10 := fun e_ => by subst e_; simp_all [Heap.set]
 rw [← he_]
 simp only [Heap.set] at he_ ⊢
 (repeat' split) <;> simp_all
theorem Z13_step (n : Nat) (ih_32 : ∀ {a0 : Coerce_coercer} {a1 : TRef} {a2 : TValue} {a3 : Int} {oT : Ab.Obj} {c0 : Nat} {gT : Nat} {r : (TValue × Int × Coerce_coercer)}, coerce_coercer_at_n n a0 a1 a2 a3 = some r → ∀ (H : Heap) (hc0 : H c0 = some (.cells (Coerce_coercer.c a0))) (hgT : H gT = some oT) (hoT : IsTab Tryz.prog oT), ACalls Tryz.prog 32 [.d (.ptr c0 0), .agg (TRef.c a1), .agg (TValue.c a2), .d (.int .i64 a3)] H fun v h' => v = .tup [.agg (TValue.c r.1), .d (.int .i64 r.2.1)] ∧ h' = (H.set c0 (some (.cells (Coerce_coercer.c r.2.2))))) (ih_64 : ∀ {a0 : Coerce_coercer} {a1 : TRef} {a2 : TValue} {a3 : Int} {oT : Ab.Obj} {c0 : Nat} {gT : Nat} {r : (TValue × Int × Coerce_coercer)}, coerce_coercer_list_n n a0 a1 a2 a3 = some r → ∀ (H : Heap) (hc0 : H c0 = some (.cells (Coerce_coercer.c a0))) (hgT : H gT = some oT) (hoT : IsTab Tryz.prog oT), ACalls Tryz.prog 64 [.d (.ptr c0 0), .agg (TRef.c a1), .agg (TValue.c a2), .d (.int .i64 a3)] H fun v h' => v = .tup [.agg (TValue.c r.1), .d (.int .i64 r.2.1)] ∧ h' = (H.set c0 (some (.cells (Coerce_coercer.c r.2.2))))) (ih_67 : ∀ {a0 : Coerce_coercer} {a1 : TDef} {a2 : TValue} {a3 : Int} {oT : Ab.Obj} {c0 : Nat} {gT : Nat} {r : (TValue × Int × Coerce_coercer)}, coerce_coercer_object_n n a0 a1 a2 a3 = some r → ∀ (H : Heap) (hc0 : H c0 = some (.cells (Coerce_coercer.c a0))) (hgT : H gT = some oT) (hoT : IsTab Tryz.prog oT), ACalls Tryz.prog 67 [.d (.ptr c0 0), .agg (TDef.c a1), .agg (TValue.c a2), .d (.int .i64 a3)] H fun v h' => v = .tup [.agg (TValue.c r.1), .d (.int .i64 r.2.1)] ∧ h' = (H.set c0 (some (.cells (Coerce_coercer.c r.2.2))))) (ih_91 : ∀ {a0 : Coerce_coercer} {a1 : TInput} {a2 : Int} {oT : Ab.Obj} {c0 : Nat} {gT : Nat} {r : (TValue × Int × Coerce_coercer)}, Z13_n n a0 a1 a2 = some r → ∀ (H : Heap) (hc0 : H c0 = some (.cells (Coerce_coercer.c a0))) (hgT : H gT = some oT) (hoT : IsTab Tryz.prog oT), ACalls Tryz.prog 91 [.d (.ptr c0 0), .agg (TInput.c a1), .d (.int .i64 a2)] H fun v h' => v = .tup [.agg (TValue.c r.1), .d (.int .i64 r.2.1)] ∧ h' = (H.set c0 (some (.cells (Coerce_coercer.c r.2.2))))) : ∀ {a0 : Coerce_coercer} {a1 : TInput} {a2 : Int} {oT : Ab.Obj} {c0 : Nat} {gT : Nat} {r : (TValue × Int × Coerce_coercer)}, Z13_n (n + 1) a0 a1 a2 = some r → ∀ (H : Heap) (hc0 : H c0 = some (.cells (Coerce_coercer.c a0))) (hgT : H gT = some oT) (hoT : IsTab Tryz.prog oT), ACalls Tryz.prog 91 [.d (.ptr c0 0), .agg (TInput.c a1), .d (.int .i64 a2)] H fun v h' => v = .tup [.agg (TValue.c r.1), .d (.int .i64 r.2.1)] ∧ h' = (H.set c0 (some (.cells (Coerce_coercer.c r.2.2)))) := by
 intro a0 a1 a2 oT c0 gT r hE H hc0 hgT hoT
 rw [Z13_n] at hE
 apply ACalls.of_wpD (fn := Tryz.f91) (c := _) Tryz.tab_ok (fun _ _ => Tryz.call91 _ _) Tryz.func91 rfl (n := 35) rfl (rs := [.cell 6 31, .tmp 7]) rfl rfl
 have ne_gT_c0 : gT ≠ c0 := fun e_ => by subst e_; obtain ⟨_, _, _, e2_, _⟩ := hoT; simp_all
 refine Via.heqA (h' := (H.set c0 (some (.cells (Coerce_coercer.c a0))))) (by funext n_; simp only [Heap.set]; (repeat' split) <;> simp_all) ?_
 refine Via.seqK fun K1 hK1 => ?_
 refine region ?_
 refine s0 (boxV rfl) rfl ?_
 refine s0 (boxV rfl) rfl ?_
 refine sL (allocLA (TK rfl) rfl) rfl ?_
 refine s0 assignA rfl ?_
 refine nil ?_
 refine hK1 _ ?_
 clear hK1 K1
 refine Via.seqK fun K2 hK2 => ?_
 refine AWp.draw rfl ?_
 refine DOps.s0 (loadV (TK rfl) rfl rfl rfl) rfl ?_
 refine DOps.s0 (nilP rfl) rfl ?_
 refine DOps.s0 (fieldP (TK rfl) rfl rfl (TK rfl) rfl rfl) rfl ?_
 refine DOps.s0 (loadP (TK rfl) rfl rfl hpG rfl) rfl ?_
 refine DOps.s0 (loadV (TK rfl) rfl rfl rfl) rfl ?_
 refine DOps.s0 (nilP rfl) rfl ?_
 refine DOps.s0 (fieldP (TK rfl) rfl rfl (TK rfl) rfl rfl) rfl ?_
 refine DOps.s0 (loadP (TK rfl) rfl rfl hpG rfl) rfl ?_
 refine DOps.sB (TK rfl) rfl rfl ?_ (by repeat (first | exact Snoc.nil | apply Snoc.cons))
 refine DOps.sB (TK rfl) rfl rfl ?_ (by repeat (first | exact Snoc.nil | apply Snoc.cons))
 refine DOps.sLn (storeLFA (TK rfl) rfl rfl rfl rfl rfl) ?_
 refine DOps.sLn (storeL1 (TK rfl) rfl rfl rfl rfl (by repeat (first | exact SetAt.zero | apply SetAt.succ)) (by repeat (first | exact SetAt.zero | apply SetAt.succ))) ?_
 refine DOps.nil (by decide +kernel) ?_
 refine hK2 _ ?_
 clear hK2 K2
 refine Via.freeze 9 _ rfl (by repeat (first | exact Snoc.nil | apply Snoc.cons)) (Keeps.c (k := 2) (by conv => lhs; whnf) (by rfl) (Keeps.c (k := 3) (by conv => lhs; whnf) (by rfl) (Keeps.c (k := 4) (by conv => lhs; whnf) (by rfl) (Keeps.c (k := 6) (by conv => lhs; whnf) (by rfl) (Keeps.c (k := 8) (by conv => lhs; whnf) (by rfl) Keeps.nil))))) ?_
 refine Via.freeze 8 _ rfl (by repeat (first | exact Snoc.nil | apply Snoc.cons)) (Keeps.c (k := 2) (by conv => lhs; whnf) (by rfl) (Keeps.c (k := 3) (by conv => lhs; whnf) (by rfl) (Keeps.c (k := 4) (by conv => lhs; whnf) (by rfl) (Keeps.c (k := 6) (by conv => lhs; whnf) (by rfl) (Keeps.c (k := 9) (by conv => lhs; whnf) (by rfl) Keeps.nil))))) ?_
 refine Via.seqK fun K3 hK3 => ?_
 refine AWp.draw rfl ?_
 refine DOps.s0 (loadV (TK rfl) rfl rfl rfl) rfl ?_
 refine DOps.s0 (loadV (TK rfl) rfl rfl rfl) rfl ?_
 refine DOps.s0 (build Tryz.tab_ok rfl rfl rfl rfl rfl rfl) rfl ?_
 refine DOps.s0 (nilP rfl) rfl ?_
 refine DOps.s0 (fieldP (TK rfl) rfl rfl (TK rfl) rfl rfl) rfl ?_
 refine DOps.sHn (storeP' (TK rfl) rfl rfl hpG rfl (Nat.le_of_ble_eq_true rfl) rfl rfl) rfl rfl ?_
 refine DOps.heq (h' := (H.set c0 (some (.cells (Coerce_coercer.c (Coerce_coercer.mk a0.Fd (TValue.mk (0 : Int) (0 : Int) ([] : Bs) true ([]) (Sl.nil : Sl Bs)) a0.Fliteral a0.Fnodes)))))) (by first | rfl | (rw [Heap.set_set]; rfl) | (funext n_; simp only [Heap.set]; (repeat' split) <;> first | rfl | (exfalso; simp_all; done) | (simp_all; done))) ?_
 refine DOps.s0 (nilP rfl) rfl ?_
 refine DOps.s0 (fieldP (TK rfl) rfl rfl (TK rfl) rfl rfl) rfl ?_
 refine DOps.sHn (storeP1 (TK rfl) rfl rfl hpG rfl (by repeat (first | exact SetAt.zero | apply SetAt.succ))) rfl rfl ?_
 refine DOps.heq (h' := (H.set c0 (some (.cells (Coerce_coercer.c (Coerce_coercer.mk a0.Fd (TValue.mk (0 : Int) (0 : Int) ([] : Bs) true ([]) (Sl.nil : Sl Bs)) true a0.Fnodes)))))) (by first | rfl | (rw [Heap.set_set]; rfl) | (funext n_; simp only [Heap.set]; (repeat' split) <;> first | rfl | (exfalso; simp_all; done) | (simp_all; done))) ?_
 refine DOps.nil (by decide +kernel) ?_
 refine hK3 _ ?_
 clear hK3 K3
 refine Via.done ⟨_, rfl, rfl, fun amb => ?_⟩
 refine seqK fun K4 hK4 => ?_
 refine region ?_
 refine s0 (loadV (TK rfl) rfl rfl rfl) rfl ?_
 refine s0 (fieldVA (TK rfl) rfl rfl (TK rfl) rfl rfl) rfl ?_
 refine s0 (loadV (TK rfl) rfl rfl rfl) rfl ?_
 refine s0 (fieldVA (TK rfl) rfl rfl (TK rfl) rfl rfl) rfl ?_
 refine s0 (loadV (TK rfl) rfl rfl rfl) rfl ?_
 refine s0 moveA rfl ?_
 obtain ⟨x5, gx5, hE⟩ := bindO_some hE
 refine sH (callH rfl rfl (ih_32 (gT := gT) (oT := oT) gx5 _ hpG hpG (by assumption))) rfl ?_
 refine AOps.heq (h' := (H.set c0 (some (.cells (Coerce_coercer.c x5.2.2))))) (by first | rfl | (rw [Heap.set_set]; rfl) | (funext n_; simp only [Heap.set]; (repeat' split) <;> first | rfl | (exfalso; simp_all; done) | (simp_all; done))) ?_
 refine s0 (extract rfl rfl) rfl ?_
 refine s0 (extract rfl rfl) rfl ?_
 refine sLn (storeLFA (TK rfl) rfl rfl rfl rfl rfl) ?_
 refine s0 assignA rfl ?_
 refine nil ?_
 refine hK4 _ ?_
 clear hK4 K4
 obtain ⟨x6, gx6, hE⟩ := bindO_some hE
 refine AWp.ret ?_
 repeat (first | refine xBlock_ret ?_ | refine xThen_ret ?_ | refine xBlock_normal ?_ | refine xThen_exit ?_ | refine xBlock_exit ?_)
 refine ⟨.inr rfl, ?_⟩
 obtain rfl := Option.some.inj hE
 refine ACallsD.mono (Z14_walk gx6 _ hpG) fun _ _ ⟨_, e_⟩ => ?_
 subst e_
 refine ⟨_, (H.set c0 (some (.cells (Coerce_coercer.c x6)))), rfl, ?_, ⟨rfl, rfl⟩⟩
 refine fun id_ o_ he_ => ?_
 rw [← he_]; clear he_
 exact congrFun (by first | rfl | exact (Heap.set_set _ _ _ _).symm | (rw [Heap.set_set]; rfl) | (funext n_; simp only [Heap.set]; (repeat' split) <;> first | rfl | (exfalso; simp_all; done) | (simp_all; done))) id_
theorem coerce_coercer_at_all : ∀ (n : Nat), (∀ {a0 : Coerce_coercer} {a1 : TRef} {a2 : TValue} {a3 : Int} {oT : Ab.Obj} {c0 : Nat} {gT : Nat} {r : (TValue × Int × Coerce_coercer)}, coerce_coercer_at_n n a0 a1 a2 a3 = some r → ∀ (H : Heap) (hc0 : H c0 = some (.cells (Coerce_coercer.c a0))) (hgT : H gT = some oT) (hoT : IsTab Tryz.prog oT), ACalls Tryz.prog 32 [.d (.ptr c0 0), .agg (TRef.c a1), .agg (TValue.c a2), .d (.int .i64 a3)] H fun v h' => v = .tup [.agg (TValue.c r.1), .d (.int .i64 r.2.1)] ∧ h' = (H.set c0 (some (.cells (Coerce_coercer.c r.2.2))))) ∧ (∀ {a0 : Coerce_coercer} {a1 : TRef} {a2 : TValue} {a3 : Int} {oT : Ab.Obj} {c0 : Nat} {gT : Nat} {r : (TValue × Int × Coerce_coercer)}, coerce_coercer_list_n n a0 a1 a2 a3 = some r → ∀ (H : Heap) (hc0 : H c0 = some (.cells (Coerce_coercer.c a0))) (hgT : H gT = some oT) (hoT : IsTab Tryz.prog oT), ACalls Tryz.prog 64 [.d (.ptr c0 0), .agg (TRef.c a1), .agg (TValue.c a2), .d (.int .i64 a3)] H fun v h' => v = .tup [.agg (TValue.c r.1), .d (.int .i64 r.2.1)] ∧ h' = (H.set c0 (some (.cells (Coerce_coercer.c r.2.2))))) ∧ (∀ {a0 : Coerce_coercer} {a1 : TDef} {a2 : TValue} {a3 : Int} {oT : Ab.Obj} {c0 : Nat} {gT : Nat} {r : (TValue × Int × Coerce_coercer)}, coerce_coercer_object_n n a0 a1 a2 a3 = some r → ∀ (H : Heap) (hc0 : H c0 = some (.cells (Coerce_coercer.c a0))) (hgT : H gT = some oT) (hoT : IsTab Tryz.prog oT), ACalls Tryz.prog 67 [.d (.ptr c0 0), .agg (TDef.c a1), .agg (TValue.c a2), .d (.int .i64 a3)] H fun v h' => v = .tup [.agg (TValue.c r.1), .d (.int .i64 r.2.1)] ∧ h' = (H.set c0 (some (.cells (Coerce_coercer.c r.2.2))))) ∧ (∀ {a0 : Coerce_coercer} {a1 : TInput} {a2 : Int} {oT : Ab.Obj} {c0 : Nat} {gT : Nat} {r : (TValue × Int × Coerce_coercer)}, Z13_n n a0 a1 a2 = some r → ∀ (H : Heap) (hc0 : H c0 = some (.cells (Coerce_coercer.c a0))) (hgT : H gT = some oT) (hoT : IsTab Tryz.prog oT), ACalls Tryz.prog 91 [.d (.ptr c0 0), .agg (TInput.c a1), .d (.int .i64 a2)] H fun v h' => v = .tup [.agg (TValue.c r.1), .d (.int .i64 r.2.1)] ∧ h' = (H.set c0 (some (.cells (Coerce_coercer.c r.2.2)))))
 | 0 => ⟨fun hE => by first | cases hE | (rw [coerce_coercer_at_n] at hE; cases hE), fun hE => by first | cases hE | (rw [coerce_coercer_list_n] at hE; cases hE), fun hE => by first | cases hE | (rw [coerce_coercer_object_n] at hE; cases hE), fun hE => by first | cases hE | (rw [Z13_n] at hE; cases hE)⟩
 | n + 1 => ⟨coerce_coercer_at_step n (coerce_coercer_at_all n).1 (coerce_coercer_at_all n).2.1 (coerce_coercer_at_all n).2.2.1 (coerce_coercer_at_all n).2.2.2, coerce_coercer_list_step n (coerce_coercer_at_all n).1 (coerce_coercer_at_all n).2.1 (coerce_coercer_at_all n).2.2.1 (coerce_coercer_at_all n).2.2.2, coerce_coercer_object_step n (coerce_coercer_at_all n).1 (coerce_coercer_at_all n).2.1 (coerce_coercer_at_all n).2.2.1 (coerce_coercer_at_all n).2.2.2, Z13_step n (coerce_coercer_at_all n).1 (coerce_coercer_at_all n).2.1 (coerce_coercer_at_all n).2.2.1 (coerce_coercer_at_all n).2.2.2⟩
def coerce_coercer_at (a0 : Coerce_coercer) (a1 : TRef) (a2 : TValue) (a3 : Int) : Option (TValue × Int × Coerce_coercer) := coerce_coercer_at_n F0 a0 a1 a2 a3
theorem coerce_coercer_at_walk {a0 : Coerce_coercer} {a1 : TRef} {a2 : TValue} {a3 : Int} {oT : Ab.Obj} {c0 : Nat} {gT : Nat} {r : (TValue × Int × Coerce_coercer)} (hE : coerce_coercer_at a0 a1 a2 a3 = some r) (H : Heap) (hc0 : H c0 = some (.cells (Coerce_coercer.c a0))) (hgT : H gT = some oT) (hoT : IsTab Tryz.prog oT) : ACalls Tryz.prog 32 [.d (.ptr c0 0), .agg (TRef.c a1), .agg (TValue.c a2), .d (.int .i64 a3)] H fun v h' => v = .tup [.agg (TValue.c r.1), .d (.int .i64 r.2.1)] ∧ h' = (H.set c0 (some (.cells (Coerce_coercer.c r.2.2)))) := (coerce_coercer_at_all F0).1 hE H hc0 hgT hoT
end Go.Proofs
