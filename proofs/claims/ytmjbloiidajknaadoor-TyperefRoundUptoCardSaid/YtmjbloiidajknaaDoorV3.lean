import Derived.Test.YtmjbloiidajknaaDoorV2
set_option maxRecDepth 100000
set_option maxHeartbeats 2000000
set_option linter.unusedVariables false
set_option linter.unusedSimpArgs false
namespace Go.Proofs
open Go Go.Ab
open AOps Cert AWp
variable {lou : Lou}
def Z31_j3   : Option Bool := some false
def Z31_l6 (a0 : Int)  : Nat → Nat → Option Bool
 | 0, _ => none
 | n6 + 1, s4_7 => bif (decide (((s4_7 : Nat) : Int) < ((([33, 36, 38, 40, 41, 58, 61, 64, 91, 93, 123, 124, 125] : Bs).length : Nat) : Int))) then ((([33, 36, 38, 40, 41, 58, 61, 64, 91, 93, 123, 124, 125] : Bs)[s4_7]?).bind fun x14 => bif (decide (((x14.toNat : Nat) : Int) = a0)) then (some true) else ((Z31_l6 a0 n6) (s4_7 + 1))) else (Z31_j3   )
def Z31 (a0 : Int) : Option Bool := Z31_l6 a0 ((Int.toNat ((([33, 36, 38, 40, 41, 58, 61, 64, 91, 93, 123, 124, 125] : Bs).length : Nat) : Int)) + 1) 0
def Z18 (a0 : Int) : Option Bool := some ((decide ((48 : Int) ≤ a0)) && (decide (a0 ≤ (57 : Int))))
theorem Z18_walk {a0 : Int}   {r : Bool} (hE : Z18 a0 = some r) (H : Heap)  : ACalls Tryd.prog 73 [.d (.int .u8 a0)] H fun v h' => v = .a (.d (.bool r)) ∧ h' = H := by
 unfold Z18 at hE
 refine ACalls.of_wp (fn := Tryd.f73) (c := _) Tryd.tab_ok (fun _ _ => Tryd.call73 _ _) Tryd.func73 rfl (n := 9) rfl (rs := [.tmp 2]) rfl rfl ?_
 refine seqK fun K1 hK1 => ?_
 refine region ?_
 refine s0 assignA rfl ?_
 refine nil ?_
 refine hK1 _ ?_
 clear hK1 K1
 refine seqK fun K2 hK2 => ?_
 refine region ?_
 refine s0 moveA rfl ?_
 refine s0 (binI rfl rfl rfl) rfl ?_
 refine s0 moveA rfl ?_
 refine gC rfl rfl (fun hC => moveA) rfl ?_
 refine gC rfl rfl (fun hC => ungdA (k := 6) rfl (binI rfl rfl rfl)) rfl ?_
 refine s0 (pickAndA rfl rfl rfl) rfl ?_
 refine s0 assignA rfl ?_
 refine nil ?_
 refine hK2 _ ?_
 clear hK2 K2
 refine AWp.ret ?_
 repeat (first | refine xBlock_ret ?_ | refine xThen_ret ?_)
 obtain rfl := Option.some.inj hE
 refine retQ.retF H rfl ⟨rfl, rfl⟩ ?_
 exact (fun _ _ h => h)
end Go.Proofs

namespace Go.Proofs
open Go Go.Ab
open AOps Cert AWp
variable {lou : Lou}
def Z22_j2   : Option (Int × Bool) := some ((0 : Int), false)
def Z22_j5 (a0 : Int)  (s5_6 : Bool) : Option (Int × Bool) := bif s5_6 then (some (a0, true)) else (bif (decide (a0 = (98 : Int))) then (some ((8 : Int), true)) else (bif (decide (a0 = (102 : Int))) then (some ((12 : Int), true)) else (bif (decide (a0 = (110 : Int))) then (some ((10 : Int), true)) else (bif (decide (a0 = (114 : Int))) then (some ((13 : Int), true)) else (bif (decide (a0 = (116 : Int))) then (some ((9 : Int), true)) else (Z22_j2   ))))))
def Z22 (a0 : Int) : Option (Int × Bool) := bif (decide (a0 = (34 : Int))) then (Z22_j5 a0  (decide (a0 = (34 : Int)))) else (bif (decide (a0 = (92 : Int))) then (Z22_j5 a0  (decide (a0 = (92 : Int)))) else (Z22_j5 a0  (decide (a0 = (47 : Int)))))
def Z23 (a0 : Int) : Option Int := (Z18 a0).bind fun x4 => bif x4 then ((subC (IntKind.wrap .i64 a0) (48 : Int)).bind fun x7 => some x7) else (bif ((decide ((97 : Int) ≤ a0)) && (decide (a0 ≤ (102 : Int)))) then ((subC (IntKind.wrap .i64 a0) (87 : Int)).bind fun x12 => some x12) else (bif ((decide ((65 : Int) ≤ a0)) && (decide (a0 ≤ (70 : Int)))) then ((subC (IntKind.wrap .i64 a0) (55 : Int)).bind fun x17 => some x17) else (some (-1 : Int))))
def Z17_j8  (s3_9 : Int) : Option Int := some s3_9
def Z17_l12 (a0 : Bs)  : Nat → Int → Int → Option Int
 | 0, _, _ => none
 | n12 + 1, s3_13, s4_14 => bif (decide (s4_14 < (4 : Int))) then ((idxC a0 s4_14).bind fun x21 => (Z23 ((x21.toNat : Nat) : Int)).bind fun x22 => bif (decide (x22 < (0 : Int))) then (some (-1 : Int)) else ((mulC (16 : Int) s3_13).bind fun x25 => (idxC a0 s4_14).bind fun x26 => (Z23 ((x26.toNat : Nat) : Int)).bind fun x27 => (addC x25 x27).bind fun x28 => (addC s4_14 (1 : Int)).bind fun x29 => (Z17_l12 a0 n12) x28 x29)) else (Z17_j8   s3_13)
def Z17 (a0 : Bs) : Option Int := bif (!decide (((a0.length : Nat) : Int) = (4 : Int))) then (some (-1 : Int)) else (Z17_l12 a0 F0 (0 : Int) (0 : Int))
def Z16_j16  (s5_17 : Bs) : Option (Bs × Int) := some (s5_17, (0 : Int))
def Z16_l19 (x13 : Bs)  : Nat → Bs → Int → Option (Bs × Int)
 | 0, _, _ => none
 | n19 + 1, s5_20, s6_21 => bif (decide (s6_21 < ((x13.length : Nat) : Int))) then ((idxC x13 s6_21).bind fun x27 => bif (((decide (((x27.toNat : Nat) : Int) < (32 : Int))) || (decide ((126 : Int) < ((x27.toNat : Nat) : Int)))) || (decide (((x27.toNat : Nat) : Int) = (34 : Int)))) then (some (([] : Bs), (3 : Int))) else (bif (!decide (((x27.toNat : Nat) : Int) = (92 : Int))) then ((catC s5_20 (bytesC (⟨false, [((x27.toNat : Nat) : Int)]⟩ : Sl Int))).bind fun x36 => (addC s6_21 (1 : Int)).bind fun x38 => (Z16_l19 x13 n19) x36 x38) else ((addC s6_21 (1 : Int)).bind fun x41 => bif (decide (((x13.length : Nat) : Int) ≤ x41)) then (some (([] : Bs), (3 : Int))) else ((addC s6_21 (1 : Int)).bind fun x46 => (idxC x13 x46).bind fun x47 => (Z22 ((x47.toNat : Nat) : Int)).bind fun x48 => bif x48.2 then ((catC s5_20 (bytesC (⟨false, [x48.1]⟩ : Sl Int))).bind fun x53 => (addC s6_21 (2 : Int)).bind fun x55 => (Z16_l19 x13 n19) x53 x55) else ((addC s6_21 (1 : Int)).bind fun x58 => (idxC x13 x58).bind fun x59 => guardO (!(!decide (((x59.toNat : Nat) : Int) = (117 : Int)))) (addC s6_21 (6 : Int)) (0 : Int) fun x60 => bif ((!decide (((x59.toNat : Nat) : Int) = (117 : Int))) || (decide (((x13.length : Nat) : Int) < x60))) then (some (([] : Bs), (3 : Int))) else ((addC s6_21 (2 : Int)).bind fun x64 => (addC s6_21 (6 : Int)).bind fun x65 => (cutC x13 (some x64) (some x65)).bind fun x66 => (Z17 x66).bind fun x67 => bif ((decide (x67 < (0 : Int))) || (decide ((255 : Int) < x67))) then (some (([] : Bs), (3 : Int))) else ((catC s5_20 (bytesC (⟨false, [(IntKind.wrap .u8 x67)]⟩ : Sl Int))).bind fun x73 => (addC s6_21 (6 : Int)).bind fun x74 => (Z16_l19 x13 n19) x73 x74))))))) else (Z16_j16   s5_20)
def Z16 (a0 : Bs) : Option (Bs × Int) := guardO (!(decide (((a0.length : Nat) : Int) < (2 : Int)))) (a0[0]?) (0 : UInt8) fun x5 => guardO (!((decide (((a0.length : Nat) : Int) < (2 : Int))) || (!decide (((x5.toNat : Nat) : Int) = (34 : Int))))) (subC ((a0.length : Nat) : Int) (1 : Int)) (0 : Int) fun x6 => guardO (!((decide (((a0.length : Nat) : Int) < (2 : Int))) || (!decide (((x5.toNat : Nat) : Int) = (34 : Int))))) (idxC a0 x6) (0 : UInt8) fun x7 => bif (((decide (((a0.length : Nat) : Int) < (2 : Int))) || (!decide (((x5.toNat : Nat) : Int) = (34 : Int)))) || (!decide (((x7.toNat : Nat) : Int) = (34 : Int)))) then (some (([] : Bs), (3 : Int))) else ((subC ((a0.length : Nat) : Int) (1 : Int)).bind fun x12 => (cutC a0 (some (1 : Int)) (some x12)).bind fun x13 => Z16_l19 x13 F0 ([] : Bs) (0 : Int))
end Go.Proofs
