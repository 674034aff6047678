import Derived.Test.YtmjbloiidajknaaDoorV2
set_option maxRecDepth 100000
set_option maxHeartbeats 2000000
set_option linter.unusedVariables false
set_option linter.unusedSimpArgs false
namespace Go.Proofs
open Go Go.Ab
variable {lou : Lou}
def Z19_j3   : Option Bool := some false
def Z19_l6 (a0 : Int)  : Nat → Nat → Option Bool
 | 0, _ => none
 | n6 + 1, s4_7 => bif (decide (((s4_7 : Nat) : Int) < ((([33, 36, 38, 40, 41, 58, 61, 64, 91, 93, 123, 124, 125] : Bs).length : Nat) : Int))) then ((([33, 36, 38, 40, 41, 58, 61, 64, 91, 93, 123, 124, 125] : Bs)[s4_7]?).bind fun x14 => bif (decide (((x14.toNat : Nat) : Int) = a0)) then (some true) else ((Z19_l6 a0 n6) (s4_7 + 1))) else (Z19_j3   )
def Z19 (a0 : Int) : Option Bool := Z19_l6 a0 ((Int.toNat ((([33, 36, 38, 40, 41, 58, 61, 64, 91, 93, 123, 124, 125] : Bs).length : Nat) : Int)) + 1) 0
def Z17 (a0 : Int) : Option Bool := some ((((decide ((65 : Int) ≤ a0)) && (decide (a0 ≤ (90 : Int)))) || ((decide ((97 : Int) ≤ a0)) && (decide (a0 ≤ (122 : Int))))) || (decide (a0 = (95 : Int))))
def Z16 (a0 : Int) : Option Bool := some ((decide ((48 : Int) ≤ a0)) && (decide (a0 ≤ (57 : Int))))
def Z22_j2  (s1_3 : Int) : Option Int := some s1_3
def Z22_l5 (a0 : Bs)  : Nat → Int → Option Int
 | 0, _ => none
 | n5 + 1, s1_6 => guardO ((decide (s1_6 < ((a0.length : Nat) : Int)))) (idxC a0 s1_6) (0 : UInt8) fun x10 => guardO ((decide (s1_6 < ((a0.length : Nat) : Int)))) (Z17 ((x10.toNat : Nat) : Int)) false fun x11 => guardO (((decide (s1_6 < ((a0.length : Nat) : Int))) && !x11)) (idxC a0 s1_6) (0 : UInt8) fun x12 => guardO (((decide (s1_6 < ((a0.length : Nat) : Int))) && !x11)) (Z16 ((x12.toNat : Nat) : Int)) false fun x13 => bif ((decide (s1_6 < ((a0.length : Nat) : Int))) && (x11 || x13)) then ((addC s1_6 (1 : Int)).bind fun x15 => (Z22_l5 a0 n5) x15) else (Z22_j2   s1_6)
def Z22 (a0 : Bs) (a1 : Int) : Option Int := Z22_l5 a0 F0 a1
def Z11 (a0 : Int) : Option Bool := some ((decide ((48 : Int) ≤ a0)) && (decide (a0 ≤ (57 : Int))))
def Z8_j16 (a0 : Bs) (x5 : UInt8)  (s7_17 : Int) : Option (Int × Int) := bif ((decide ((0 : Int) < ((a0.length : Nat) : Int))) && (decide (((x5.toNat : Nat) : Int) = (45 : Int)))) then (some (s7_17, (0 : Int))) else (bif (decide (s7_17 = (-9223372036854775808 : Int))) then (some ((0 : Int), (4 : Int))) else (some ((IntKind.wrap .i64 (0 - s7_17)), (0 : Int))))
def Z8_l28 (a0 : Bs) (x5 : UInt8) (s4_7 : Bs)  : Nat → Int → Nat → Option (Int × Int)
 | 0, _, _ => none
 | n28 + 1, s7_29, s8_30 => bif (decide (((s8_30 : Nat) : Int) < ((s4_7.length : Nat) : Int))) then ((s4_7[s8_30]?).bind fun x37 => (subC (IntKind.wrap .i64 ((x37.toNat : Nat) : Int)) (48 : Int)).bind fun x38 => (addC (-9223372036854775808 : Int) x38).bind fun x41 => bif (decide (s7_29 < (IntKind.wrap .i64 (Int.tdiv x41 (10 : Int))))) then (some ((0 : Int), (4 : Int))) else ((mulC (10 : Int) s7_29).bind fun x44 => (subC x44 x38).bind fun x45 => (Z8_l28 a0 x5 s4_7 n28) x45 (s8_30 + 1))) else (Z8_j16 a0 x5  s7_29)
def Z8_j14 (a0 : Bs) (x5 : UInt8) (s4_7 : Bs)   : Option (Int × Int) := Z8_l28 a0 x5 s4_7 (s4_7.length + 1) (0 : Int) 0
def Z8_l47 (a0 : Bs) (x5 : UInt8) (s4_7 : Bs)  : Nat → Nat → Option (Int × Int)
 | 0, _ => none
 | n47 + 1, s6_48 => bif (decide (((s6_48 : Nat) : Int) < ((s4_7.length : Nat) : Int))) then ((s4_7[s6_48]?).bind fun x55 => (Z11 ((x55.toNat : Nat) : Int)).bind fun x56 => bif (!x56) then (some ((0 : Int), (3 : Int))) else ((Z8_l47 a0 x5 s4_7 n47) (s6_48 + 1))) else (Z8_j14 a0 x5 s4_7  )
def Z8_j6 (a0 : Bs) (x5 : UInt8)  (s4_7 : Bs) : Option (Int × Int) := guardO (!(decide (((s4_7.length : Nat) : Int) = (0 : Int)))) (s4_7[0]?) (0 : UInt8) fun x11 => bif ((decide (((s4_7.length : Nat) : Int) = (0 : Int))) || ((decide (((x11.toNat : Nat) : Int) = (48 : Int))) && ((decide ((1 : Int) < ((s4_7.length : Nat) : Int))) || ((decide ((0 : Int) < ((a0.length : Nat) : Int))) && (decide (((x5.toNat : Nat) : Int) = (45 : Int))))))) then (some ((0 : Int), (3 : Int))) else (Z8_l47 a0 x5 s4_7 (s4_7.length + 1) 0)
def Z8 (a0 : Bs) : Option (Int × Int) := guardO ((decide ((0 : Int) < ((a0.length : Nat) : Int)))) (a0[0]?) (0 : UInt8) fun x5 => bif ((decide ((0 : Int) < ((a0.length : Nat) : Int))) && (decide (((x5.toNat : Nat) : Int) = (45 : Int)))) then ((cutC a0 (some (1 : Int)) none).bind fun x61 => Z8_j6 a0 x5  x61) else (Z8_j6 a0 x5  a0)
def Z15_j4   : Option Int := some (-1 : Int)
def Z15_j18 (k_next_6 : Int → Option Int) (s1_19 : Int) : Option Int := (addC s1_19 (1 : Int)).bind fun x20 => k_next_6 x20
def Z15_l6 (a0 : Bs)  : Nat → Int → Option Int
 | 0, _ => none
 | n6 + 1, s1_7 => bif (decide (s1_7 < ((a0.length : Nat) : Int))) then ((idxC a0 s1_7).bind fun x14 => bif (decide (((x14.toNat : Nat) : Int) = (34 : Int))) then ((addC s1_7 (1 : Int)).bind fun x17 => some x17) else ((idxC a0 s1_7).bind fun x22 => bif (decide (((x22.toNat : Nat) : Int) = (92 : Int))) then ((addC s1_7 (1 : Int)).bind fun x24 => Z15_j18  ((Z15_l6 a0 n6)) x24) else (Z15_j18  ((Z15_l6 a0 n6)) s1_7))) else (Z15_j4   )
def Z15 (a0 : Bs) (a1 : Int) : Option Int := (addC a1 (1 : Int)).bind fun x3 => Z15_l6 a0 F0 x3
end Go.Proofs

namespace Go.Proofs
open Go Go.Ab
variable {lou : Lou}
def Z12_j2   : Option (Int × Bool) := some ((0 : Int), false)
def Z12_j5 (a0 : Int)  (s5_6 : Bool) : Option (Int × Bool) := bif s5_6 then (some (a0, true)) else (bif (decide (a0 = (98 : Int))) then (some ((8 : Int), true)) else (bif (decide (a0 = (102 : Int))) then (some ((12 : Int), true)) else (bif (decide (a0 = (110 : Int))) then (some ((10 : Int), true)) else (bif (decide (a0 = (114 : Int))) then (some ((13 : Int), true)) else (bif (decide (a0 = (116 : Int))) then (some ((9 : Int), true)) else (Z12_j2   ))))))
def Z12 (a0 : Int) : Option (Int × Bool) := bif (decide (a0 = (34 : Int))) then (Z12_j5 a0  (decide (a0 = (34 : Int)))) else (bif (decide (a0 = (92 : Int))) then (Z12_j5 a0  (decide (a0 = (92 : Int)))) else (Z12_j5 a0  (decide (a0 = (47 : Int)))))
def Z13 (a0 : Int) : Option Int := (Z11 a0).bind fun x4 => bif x4 then ((subC (IntKind.wrap .i64 a0) (48 : Int)).bind fun x7 => some x7) else (bif ((decide ((97 : Int) ≤ a0)) && (decide (a0 ≤ (102 : Int)))) then ((subC (IntKind.wrap .i64 a0) (87 : Int)).bind fun x12 => some x12) else (bif ((decide ((65 : Int) ≤ a0)) && (decide (a0 ≤ (70 : Int)))) then ((subC (IntKind.wrap .i64 a0) (55 : Int)).bind fun x17 => some x17) else (some (-1 : Int))))
def Z10_j8  (s3_9 : Int) : Option Int := some s3_9
def Z10_l12 (a0 : Bs)  : Nat → Int → Int → Option Int
 | 0, _, _ => none
 | n12 + 1, s3_13, s4_14 => bif (decide (s4_14 < (4 : Int))) then ((idxC a0 s4_14).bind fun x21 => (Z13 ((x21.toNat : Nat) : Int)).bind fun x22 => bif (decide (x22 < (0 : Int))) then (some (-1 : Int)) else ((mulC (16 : Int) s3_13).bind fun x25 => (idxC a0 s4_14).bind fun x26 => (Z13 ((x26.toNat : Nat) : Int)).bind fun x27 => (addC x25 x27).bind fun x28 => (addC s4_14 (1 : Int)).bind fun x29 => (Z10_l12 a0 n12) x28 x29)) else (Z10_j8   s3_13)
def Z10 (a0 : Bs) : Option Int := bif (!decide (((a0.length : Nat) : Int) = (4 : Int))) then (some (-1 : Int)) else (Z10_l12 a0 F0 (0 : Int) (0 : Int))
def Z9_j16  (s5_17 : Bs) : Option (Bs × Int) := some (s5_17, (0 : Int))
def Z9_l19 (x13 : Bs)  : Nat → Bs → Int → Option (Bs × Int)
 | 0, _, _ => none
 | n19 + 1, s5_20, s6_21 => bif (decide (s6_21 < ((x13.length : Nat) : Int))) then ((idxC x13 s6_21).bind fun x27 => bif (((decide (((x27.toNat : Nat) : Int) < (32 : Int))) || (decide ((126 : Int) < ((x27.toNat : Nat) : Int)))) || (decide (((x27.toNat : Nat) : Int) = (34 : Int)))) then (some (([] : Bs), (3 : Int))) else (bif (!decide (((x27.toNat : Nat) : Int) = (92 : Int))) then ((catC s5_20 (bytesC (⟨false, [((x27.toNat : Nat) : Int)]⟩ : Sl Int))).bind fun x36 => (addC s6_21 (1 : Int)).bind fun x38 => (Z9_l19 x13 n19) x36 x38) else ((addC s6_21 (1 : Int)).bind fun x41 => bif (decide (((x13.length : Nat) : Int) ≤ x41)) then (some (([] : Bs), (3 : Int))) else ((addC s6_21 (1 : Int)).bind fun x46 => (idxC x13 x46).bind fun x47 => (Z12 ((x47.toNat : Nat) : Int)).bind fun x48 => bif x48.2 then ((catC s5_20 (bytesC (⟨false, [x48.1]⟩ : Sl Int))).bind fun x53 => (addC s6_21 (2 : Int)).bind fun x55 => (Z9_l19 x13 n19) x53 x55) else ((addC s6_21 (1 : Int)).bind fun x58 => (idxC x13 x58).bind fun x59 => guardO (!(!decide (((x59.toNat : Nat) : Int) = (117 : Int)))) (addC s6_21 (6 : Int)) (0 : Int) fun x60 => bif ((!decide (((x59.toNat : Nat) : Int) = (117 : Int))) || (decide (((x13.length : Nat) : Int) < x60))) then (some (([] : Bs), (3 : Int))) else ((addC s6_21 (2 : Int)).bind fun x64 => (addC s6_21 (6 : Int)).bind fun x65 => (cutC x13 (some x64) (some x65)).bind fun x66 => (Z10 x66).bind fun x67 => bif ((decide (x67 < (0 : Int))) || (decide ((255 : Int) < x67))) then (some (([] : Bs), (3 : Int))) else ((catC s5_20 (bytesC (⟨false, [(IntKind.wrap .u8 x67)]⟩ : Sl Int))).bind fun x73 => (addC s6_21 (6 : Int)).bind fun x74 => (Z9_l19 x13 n19) x73 x74))))))) else (Z9_j16   s5_20)
def Z9 (a0 : Bs) : Option (Bs × Int) := guardO (!(decide (((a0.length : Nat) : Int) < (2 : Int)))) (a0[0]?) (0 : UInt8) fun x5 => guardO (!((decide (((a0.length : Nat) : Int) < (2 : Int))) || (!decide (((x5.toNat : Nat) : Int) = (34 : Int))))) (subC ((a0.length : Nat) : Int) (1 : Int)) (0 : Int) fun x6 => guardO (!((decide (((a0.length : Nat) : Int) < (2 : Int))) || (!decide (((x5.toNat : Nat) : Int) = (34 : Int))))) (idxC a0 x6) (0 : UInt8) fun x7 => bif (((decide (((a0.length : Nat) : Int) < (2 : Int))) || (!decide (((x5.toNat : Nat) : Int) = (34 : Int)))) || (!decide (((x7.toNat : Nat) : Int) = (34 : Int)))) then (some (([] : Bs), (3 : Int))) else ((subC ((a0.length : Nat) : Int) (1 : Int)).bind fun x12 => (cutC a0 (some (1 : Int)) (some x12)).bind fun x13 => Z9_l19 x13 F0 ([] : Bs) (0 : Int))
end Go.Proofs
