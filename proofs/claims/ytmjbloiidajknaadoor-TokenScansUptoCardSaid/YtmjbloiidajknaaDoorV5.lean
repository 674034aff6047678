import Derived.Test.YtmjbloiidajknaaDoorV4
import Derived.Test.YtmjbloiidajknaaDoorRows
set_option maxRecDepth 100000
set_option maxHeartbeats 2000000
set_option linter.unusedVariables false
set_option linter.unusedSimpArgs false
namespace Go.Proofs
open Go Go.Ab
theorem add_nat {i k : Nat} (h : i ≤ 2097152) (hk : k ≤ 2097152) : addC (i : Int) (k : Int) = some ((i + k : Nat) : Int) := by rw [addC_ok (by omega)]; exact some_nat rfl
theorem j29_eq (k : Int → Strings_Builder → Option (Bs × Int)) {i : Nat} (h : i ≤ 2097152) (B : Strings_Builder) : Z36_j29 k (i : Int) B = k ((i + 1 : Nat) : Int) B := by
 unfold Z36_j29
 rw [show (1 : Int) = ((1 : Nat) : Int) from rfl, add_nat h (by omega), Option.bind_some]
theorem wrap8_byte (c : UInt8) : UInt8.ofNat (((c.toNat : Nat) : Int)).toNat = c := by
 rw [Int.toNat_natCast]; exact UInt8.ofNat_toNat
theorem wrap8_small {n : Int} (h0 : 0 ≤ n) (h1 : n < 256) : IntKind.wrap .u8 n = n := by
 simp [IntKind.wrap, IntKind.bits, IntKind.signed]; omega
theorem four {s : Bs} {i : Nat} (h : i + 4 ≤ s.length) : ∃ a b c d, (s.drop i).take 4 = [a, b, c, d] := by
 have h1 : ∀ k, k < 4 → ∃ c, s[i + k]? = some c := fun k hk => ⟨_, List.getElem?_eq_getElem (by omega)⟩
 obtain ⟨a, ha⟩ := h1 0 (by omega)
 obtain ⟨b, hb⟩ := h1 1 (by omega)
 obtain ⟨c, hc⟩ := h1 2 (by omega)
 obtain ⟨d, hd⟩ := h1 3 (by omega)
 exact ⟨a, b, c, d, by rw [drop_cons (show s[i]? = some a from ha), drop_cons hb, drop_cons hc, drop_cons hd]; rfl⟩
def badC (c : UInt8) : Bool := ((decide (((c.toNat : Nat) : Int) < (32 : Int))) || (decide ((126 : Int) < ((c.toNat : Nat) : Int)))) || (decide (((c.toNat : Nat) : Int) = (34 : Int)))
theorem tU_stop (x : Bs) (n i : Nat) (B : Strings_Builder) (h : x.length ≤ i) : Z36_l22 x (n + 1) (i : Int) B = Z36_j17 B := by
 rw [Z36_l22, show decide ((i : Int) < ((x.length : Nat) : Int)) = false from decide_eq_false (by omega), cond_false]
theorem rU_stop (x : Bs) (n i : Nat) (o : Bs) (h : x.length ≤ i) : Z8_l19 x (n + 1) o (i : Int) = some (o, 0) := by
 rw [Z8_l19, show decide ((i : Int) < ((x.length : Nat) : Int)) = false from decide_eq_false (by omega), cond_false]; rfl
theorem tU_bad {x : Bs} (n : Nat) {i : Nat} (B : Strings_Builder) {c : UInt8} (hc : x[i]? = some c) (h : badC c = true) : Z36_l22 x (n + 1) (i : Int) B = some ([], 3) := by
 have hi := (List.getElem?_eq_some_iff.1 hc).1
 unfold badC at h
 rw [Z36_l22, show decide ((i : Int) < ((x.length : Nat) : Int)) = true from decide_eq_true (by omega), cond_true, idxC_nat, hc, Option.bind_some, h, cond_true]
theorem rU_bad {x : Bs} (n : Nat) {i : Nat} (o : Bs) {c : UInt8} (hc : x[i]? = some c) (h : badC c = true) : Z8_l19 x (n + 1) o (i : Int) = some ([], 3) := by
 have hi := (List.getElem?_eq_some_iff.1 hc).1
 unfold badC at h
 rw [Z8_l19, show decide ((i : Int) < ((x.length : Nat) : Int)) = true from decide_eq_true (by omega), cond_true, idxC_nat, hc, Option.bind_some, h, cond_true]
theorem tU_char {x : Bs} (n : Nat) {i : Nat} {B B' : Strings_Builder} {c : UInt8} (hi2 : i ≤ 2097152) (hc : x[i]? = some c) (h : badC c = false) (h92 : decide (((c.toNat : Nat) : Int) = 92) = false) (hw : Z24 B ((c.toNat : Nat) : Int) = some (false, B')) : Z36_l22 x (n + 1) (i : Int) B = Z36_l22 x n ((i + 1 : Nat) : Int) B' := by
 have hi := (List.getElem?_eq_some_iff.1 hc).1
 unfold badC at h
 rw [Z36_l22, show decide ((i : Int) < ((x.length : Nat) : Int)) = true from decide_eq_true (by omega), cond_true, idxC_nat, hc, Option.bind_some, h, cond_false, h92, Bool.not_false, cond_true, hw, Option.bind_some, j29_eq _ hi2]
theorem rU_char {x : Bs} (n : Nat) {i : Nat} {o : Bs} {c : UInt8} (hi2 : i ≤ 1048576) (ho : o.length ≤ 1048576) (hc : x[i]? = some c) (h : badC c = false) (h92 : decide (((c.toNat : Nat) : Int) = 92) = false) : Z8_l19 x (n + 1) o (i : Int) = Z8_l19 x n (o ++ [c]) ((i + 1 : Nat) : Int) := by
 have hi := (List.getElem?_eq_some_iff.1 hc).1
 unfold badC at h
 have one : addC (i : Int) 1 = some (((i + 1 : Nat)) : Int) := add_nat (k := 1) (by omega) (by omega)
 rw [Z8_l19, show decide ((i : Int) < ((x.length : Nat) : Int)) = true from decide_eq_true (by omega), cond_true, idxC_nat, hc, Option.bind_some, h, cond_false, h92, Bool.not_false, cond_true, cat_one ho, Option.bind_some, one, Option.bind_some, wrap8_byte]
theorem tU_end {x : Bs} (n : Nat) {i : Nat} (B : Strings_Builder) {c : UInt8} (hi2 : i ≤ 1048576) (hc : x[i]? = some c) (h : badC c = false) (h92 : decide (((c.toNat : Nat) : Int) = 92) = true) (hn : x.length ≤ i + 1) : Z36_l22 x (n + 1) (i : Int) B = some ([], 3) := by
 have hi := (List.getElem?_eq_some_iff.1 hc).1
 unfold badC at h
 have one : addC (i : Int) 1 = some (((i + 1 : Nat)) : Int) := add_nat (k := 1) (by omega) (by omega)
 rw [Z36_l22, show decide ((i : Int) < ((x.length : Nat) : Int)) = true from decide_eq_true (by omega), cond_true, idxC_nat, hc, Option.bind_some, h, cond_false, h92, Bool.not_true, cond_false, one, Option.bind_some, show decide (((i + 1 : Nat) : Int) = ((x.length : Nat) : Int)) = true from decide_eq_true (by omega), cond_true]
theorem rU_end {x : Bs} (n : Nat) {i : Nat} (o : Bs) {c : UInt8} (hi2 : i ≤ 1048576) (hc : x[i]? = some c) (h : badC c = false) (h92 : decide (((c.toNat : Nat) : Int) = 92) = true) (hn : x.length ≤ i + 1) : Z8_l19 x (n + 1) o (i : Int) = some ([], 3) := by
 have hi := (List.getElem?_eq_some_iff.1 hc).1
 unfold badC at h
 have one : addC (i : Int) 1 = some (((i + 1 : Nat)) : Int) := add_nat (k := 1) (by omega) (by omega)
 rw [Z8_l19, show decide ((i : Int) < ((x.length : Nat) : Int)) = true from decide_eq_true (by omega), cond_true, idxC_nat, hc, Option.bind_some, h, cond_false, h92, Bool.not_true, cond_false, one, Option.bind_some, show decide (((x.length : Nat) : Int) ≤ ((i + 1 : Nat) : Int)) = true from decide_eq_true (by omega), cond_true]
theorem tU_esc {x : Bs} (n : Nat) {i : Nat} (B : Strings_Builder) {c d : UInt8} (hi2 : i ≤ 1048576) (hc : x[i]? = some c) (h : badC c = false) (h92 : decide (((c.toNat : Nat) : Int) = 92) = true) (hd : x[i + 1]? = some d) :
  Z36_l22 x (n + 1) (i : Int) B = bif (plV ((d.toNat : Nat) : Int)).2 then ((Z24 B (plV ((d.toNat : Nat) : Int)).1).bind fun x58 => Z36_j29 (Z36_l22 x n) ((i + 1 : Nat) : Int) x58.2) else bif (!decide (((d.toNat : Nat) : Int) = (117 : Int))) || (decide (x.length ≤ i + 5)) then (some (([] : Bs), (3 : Int))) else ((cutC x (some ((i + 2 : Nat) : Int)) (some ((i + 6 : Nat) : Int))).bind fun x78 => (bytesOf x78).bind fun x79 => Z36_l81 B ((i + 1 : Nat) : Int) x79 (Z36_l22 x n) (x79.l.length + 1) (0 : Int) 0) := by
 have hi := (List.getElem?_eq_some_iff.1 hc).1
 have hi1 := (List.getElem?_eq_some_iff.1 hd).1
 unfold badC at h
 have one : addC (i : Int) 1 = some (((i + 1 : Nat)) : Int) := add_nat (k := 1) (by omega) (by omega)
 have a1 : addC ((i + 1 : Nat) : Int) 1 = some (((i + 2 : Nat)) : Int) := add_nat (i := i + 1) (k := 1) (by omega) (by omega)
 have a4 : addC ((i + 1 : Nat) : Int) 4 = some (((i + 5 : Nat)) : Int) := add_nat (i := i + 1) (k := 4) (by omega) (by omega)
 have a5 : addC ((i + 1 : Nat) : Int) 5 = some (((i + 6 : Nat)) : Int) := add_nat (i := i + 1) (k := 5) (by omega) (by omega)
 rw [Z36_l22, show decide ((i : Int) < ((x.length : Nat) : Int)) = true from decide_eq_true (by omega), cond_true, idxC_nat, hc, Option.bind_some, h, cond_false, h92, Bool.not_true, cond_false, one, Option.bind_some, show decide (((i + 1 : Nat) : Int) = ((x.length : Nat) : Int)) = false from decide_eq_false (by omega), cond_false, idxC_nat, hd, Option.bind_some, (pl_at d).1, Option.bind_some]
 cases (plV ((d.toNat : Nat) : Int)).2
 ·rw [cond_false, cond_false, Option.bind_some, a4, a1, a5]
  cases decide (((d.toNat : Nat) : Int) = (117 : Int))
  ·rfl
  ·unfold guardO
   rw [Bool.not_true, Bool.not_false, if_pos rfl, Option.bind_some, Bool.false_or, Bool.false_or, Option.bind_some, Option.bind_some, show decide (((x.length : Nat) : Int) ≤ ((i + 5 : Nat) : Int)) = decide (x.length ≤ i + 5) from decide_eq_decide.2 (by omega)]
 ·rfl
theorem rU_esc {x : Bs} (n : Nat) {i : Nat} {o : Bs} {c d : UInt8} (hi2 : i ≤ 1048576) (ho : o.length ≤ 1048576) (hc : x[i]? = some c) (h : badC c = false) (h92 : decide (((c.toNat : Nat) : Int) = 92) = true) (hd : x[i + 1]? = some d) :
  Z8_l19 x (n + 1) o (i : Int) = bif (plV ((d.toNat : Nat) : Int)).2 then Z8_l19 x n (o ++ [UInt8.ofNat (plV ((d.toNat : Nat) : Int)).1.toNat]) ((i + 2 : Nat) : Int) else bif (!decide (((d.toNat : Nat) : Int) = (117 : Int))) || (decide (x.length ≤ i + 5)) then (some (([] : Bs), (3 : Int))) else ((cutC x (some ((i + 2 : Nat) : Int)) (some ((i + 6 : Nat) : Int))).bind fun x66 => (Z9 x66).bind fun x67 => bif ((decide (x67 < (0 : Int))) || (decide ((255 : Int) < x67))) then (some (([] : Bs), (3 : Int))) else Z8_l19 x n (o ++ [UInt8.ofNat (IntKind.wrap .u8 x67).toNat]) ((i + 6 : Nat) : Int)) := by
 have hi := (List.getElem?_eq_some_iff.1 hc).1
 have hi1 := (List.getElem?_eq_some_iff.1 hd).1
 unfold badC at h
 have one : addC (i : Int) 1 = some (((i + 1 : Nat)) : Int) := add_nat (k := 1) (by omega) (by omega)
 have a2 : addC (i : Int) 2 = some (((i + 2 : Nat)) : Int) := add_nat (k := 2) (by omega) (by omega)
 have a6 : addC (i : Int) 6 = some (((i + 6 : Nat)) : Int) := add_nat (k := 6) (by omega) (by omega)
 rw [Z8_l19, show decide ((i : Int) < ((x.length : Nat) : Int)) = true from decide_eq_true (by omega), cond_true, idxC_nat, hc, Option.bind_some, h, cond_false, h92, Bool.not_true, cond_false, one, Option.bind_some, show decide (((x.length : Nat) : Int) ≤ ((i + 1 : Nat) : Int)) = false from decide_eq_false (by omega), cond_false, Option.bind_some, idxC_nat, hd, Option.bind_some, simple_plain, (pl_at d).1, Option.bind_some]
 cases (plV ((d.toNat : Nat) : Int)).2
 ·rw [cond_false, cond_false, Option.bind_some, idxC_nat, hd, Option.bind_some, a6, a2]
  cases decide (((d.toNat : Nat) : Int) = (117 : Int))
  ·rfl
  ·unfold guardO
   rw [Bool.not_true, Bool.not_false, if_pos rfl, Option.bind_some, Bool.false_or, Bool.false_or, Option.bind_some, Option.bind_some, show decide (((x.length : Nat) : Int) < ((i + 6 : Nat) : Int)) = decide (x.length ≤ i + 5) from decide_eq_decide.2 (by omega)]
   cases decide (x.length ≤ i + 5)
   ·simp only [cond_false, cat_one ho, Option.bind_some]
   ·rfl
 ·rw [cond_true, cond_true, cat_one ho, Option.bind_some, a2, Option.bind_some]
theorem unq_loop (x : Bs) (hx : x.length ≤ 1048576) : ∀ (n i : Nat) (B : Strings_Builder) (o : Bs), Rp B o → o.length ≤ i → i ≤ x.length → x.length - i < n → ∃ r e, Z36_l22 x n (i : Int) B = some (r, e) ∧ Z8_l19 x n o (i : Int) = some (r, e) ∧ r.length ≤ x.length
 | 0, _, _, _, _, _, _, h => by omega
 | n + 1, i, B, o, hB, ho, hi, hn => by
  by_cases hlt : i < x.length
  ·obtain ⟨c, hc⟩ : ∃ c, x[i]? = some c := ⟨x[i], List.getElem?_eq_getElem hlt⟩
   cases hb : badC c
   ·cases h92 : decide (((c.toNat : Nat) : Int) = 92)
    ·obtain ⟨B', hw, hB'⟩ := hB.wb (n := ((c.toNat : Nat) : Int)) (by omega) (by have := c.toNat_lt; omega) (by omega)
     rw [tU_char n (by omega) hc hb h92 hw, rU_char n (by omega) (by omega) hc hb h92]
     rw [wrap8_byte] at hB'
     exact unq_loop x hx n (i + 1) B' _ hB' (by simp; omega) (by omega) (by omega)
    ·by_cases h1 : x.length ≤ i + 1
     ·exact ⟨[], 3, tU_end n B (by omega) hc hb h92 h1, rU_end n o (by omega) hc hb h92 h1, by simp⟩
     ·obtain ⟨d, hd⟩ : ∃ d, x[i + 1]? = some d := ⟨_, List.getElem?_eq_getElem (show i + 1 < x.length by omega)⟩
      rw [tU_esc n B (by omega) hc hb h92 hd, rU_esc n (by omega) (by omega) hc hb h92 hd]
      cases (plV ((d.toNat : Nat) : Int)).2
      ·rw [cond_false, cond_false]
       cases hs : (!decide (((d.toNat : Nat) : Int) = (117 : Int))) || (decide (x.length ≤ i + 5))
       ·have h6 : i + 6 ≤ x.length := by
         simp only [Bool.or_eq_false_iff, decide_eq_false_iff_not] at hs; omega
        obtain ⟨p, q, r, s, h4⟩ := four (s := x) (i := i + 2) (by omega)
        have hcut : cutC x (some ((i + 2 : Nat) : Int)) (some ((i + 6 : Nat) : Int)) = some [p, q, r, s] := by
         rw [cut_part (by omega) (by omega), show i + 6 - (i + 2) = 4 by omega, h4]
        have hbo : bytesOf [p, q, r, s] = some (strSl [p, q, r, s]) := rfl
        rw [cond_false, cond_false, hcut, Option.bind_some, Option.bind_some, hbo, Option.bind_some, hexT_eq, code_eq, Option.bind_some]
        generalize hex4 ((p.toNat : Nat) : Int) ((q.toNat : Nat) : Int) ((r.toNat : Nat) : Int) ((s.toNat : Nat) : Int) = v
        cases hv : decide (v < 0) || decide (255 < v)
        ·simp only [Bool.or_eq_false_iff, decide_eq_false_iff_not] at hv
         rw [cond_false, cond_false, wrap8_small (by omega) (by omega)]
         obtain ⟨B', hw, hB'⟩ := hB.wb (n := v) (by omega) (by omega) (by omega)
         have a4 : addC ((i + 1 : Nat) : Int) 4 = some (((i + 5 : Nat)) : Int) := add_nat (i := i + 1) (k := 4) (by omega) (by omega)
         rw [hw, Option.bind_some, a4, Option.bind_some, j29_eq _ (by omega)]
         exact unq_loop x hx n (i + 6) B' _ hB' (by simp; omega) (by omega) (by omega)
        ·exact ⟨[], 3, rfl, rfl, by simp⟩
       ·exact ⟨[], 3, rfl, rfl, by simp⟩
      ·obtain ⟨-, p0, p1⟩ := pl_at d
       obtain ⟨B', hw, hB'⟩ := hB.wb p0 p1 (by omega)
       rw [cond_true, cond_true, hw, Option.bind_some, j29_eq _ (by omega)]
       exact unq_loop x hx n (i + 2) B' _ hB' (by simp; omega) (by omega) (by omega)
   ·exact ⟨[], 3, tU_bad n B hc hb, rU_bad n o hc hb, by simp⟩
  ·refine ⟨o, 0, ?_, rU_stop x n i o (by omega), by omega⟩
   rw [tU_stop x n i B (by omega)]
   unfold Z36_j17
   rw [hB.str, Option.bind_some]
theorem unquote_eq {s : Bs} (hs : s.length ≤ 1048576) : ∃ r e, Z36 s = some (r, e) ∧ Z8 s = some (r, e) ∧ r.length ≤ s.length := by
 unfold Z36 Z8
 by_cases h2 : s.length < 2
 ·rw [show decide (((s.length : Nat) : Int) < 2) = true from decide_eq_true (by omega)]
  exact ⟨[], 3, rfl, rfl, by simp⟩
 ·rw [show decide (((s.length : Nat) : Int) < 2) = false from decide_eq_false (by omega)]
  obtain ⟨c, hc⟩ : ∃ c, s[0]? = some c := ⟨_, List.getElem?_eq_getElem (show 0 < s.length by omega)⟩
  have hsub : subC ((s.length : Nat) : Int) 1 = some ((s.length - 1 : Nat) : Int) := by rw [subC_ok (by omega)]; exact congrArg some (by omega)
  obtain ⟨z, hz⟩ : ∃ z, s[s.length - 1]? = some z := ⟨_, List.getElem?_eq_getElem (show s.length - 1 < s.length by omega)⟩
  have hcut : cutC s (some (1 : Int)) (some ((s.length - 1 : Nat) : Int)) = some ((s.drop 1).take (s.length - 1 - 1)) := cut_part (i := 1) (by omega) (by omega)
  rw [hc, hsub]
  simp only [guardO, Bool.not_false, if_true, Option.bind_some, Bool.false_or, idxC_nat, hz]
  cases decide (((c.toNat : Nat) : Int) = 34)
  ·exact ⟨[], 3, rfl, rfl, by simp⟩
  ·simp only [Bool.not_true, Bool.not_false, if_true, Option.bind_some, Bool.false_or, idxC_nat, hz, hcut]
   cases decide (((z.toNat : Nat) : Int) = 34)
   ·exact ⟨[], 3, rfl, rfl, by simp⟩
   ·obtain ⟨r, e, h1, h3, h4⟩ := unq_loop ((s.drop 1).take (s.length - 1 - 1)) (by simp; omega) F0 0 Strings_Builder.zero [] (.inl ⟨rfl, rfl⟩) (by simp) (by omega) (by rw [F0_eq]; simp; omega)
    exact ⟨r, e, h1, h3, by simp at h4; omega⟩
end Go.Proofs

namespace Go.Proofs
open Go Go.Ab
def sgV (n : Int) : Bool := (Z18 n).getD false
theorem sg_tab : (List.range 256).all (fun n => (Z18 (n : Int) == some (sgV (n : Int))) && ((Z27 ([33, 36, 38, 40, 41, 58, 61, 64, 91, 93, 123, 124, 125] : Bs) (n : Int) == some (sgV (n : Int))))) = true := by
 set_option maxRecDepth 100000 in kernel_rfl
theorem sg_at (c : UInt8) : Z18 ((c.toNat : Nat) : Int) = some (sgV ((c.toNat : Nat) : Int)) ∧ Z27 ([33, 36, 38, 40, 41, 58, 61, 64, 91, 93, 123, 124, 125] : Bs) ((c.toNat : Nat) : Int) = some (sgV ((c.toNat : Nat) : Int)) := by
 have h := List.all_eq_true.1 sg_tab c.toNat (List.mem_range.2 c.toNat_lt)
 simp only [Bool.and_eq_true, beq_iff_eq] at h
 exact h
theorem word_pos {s : Bs} {i : Nat} {c : UInt8} (hc : s[i]? = some c) (h : isW c = true) : 1 ≤ wordN (s.drop i) := by
 rw [drop_cons hc, wordN_cons, h, cond_true]; omega
theorem litR_cases (s : Bs) (i : Nat) (hi : i ≤ s.length) : litR s i false = -1 ∨ ∃ j : Nat, litR s i false = (j : Int) ∧ i ≤ j ∧ j ≤ s.length := by
 unfold litR
 cases h : litN false (s.drop i) with
 | none => exact .inl rfl
 | some k => 
  have := litN_le _ _ _ h
  simp only [List.length_drop] at this
  exact .inr ⟨i + k, rfl, by omega, by omega⟩
theorem letter_eq' (c : UInt8) : Z40 ((c.toNat : Nat) : Int) = some (isW c) := rfl
theorem one_eq {s : Bs} (hs : s.length ≤ 1048576) {i : Nat} (hi : i < s.length) : ∃ (t : Token_Token) (j e : Int), Z42 s (i : Int) = some (t, j, e) ∧ Z17 s (i : Int) = some (⟨t.FKind, t.FText, t.FAt⟩, j, e) ∧ (e = 0 → ∃ m : Nat, j = (m : Int) ∧ i < m ∧ m ≤ s.length) := by
 obtain ⟨c, hc⟩ : ∃ c, s[i]? = some c := ⟨_, List.getElem?_eq_getElem hi⟩
 have hlt := c.toNat_lt
 have one : addC (i : Int) 1 = some (((i + 1 : Nat)) : Int) := add_nat (k := 1) (by omega) (by omega)
 have three : addC (i : Int) 3 = some (((i + 3 : Nat)) : Int) := add_nat (k := 3) (by omega) (by omega)
 unfold Z42 Z17
 rw [idxC_nat, hc]
 simp only [Option.bind_some, wrap32]
 rw [(sg_at c).1, (sg_at c).2, Option.bind_some, Option.bind_some]
 cases hsg : sgV ((c.toNat : Nat) : Int)
 ·rw [cond_false, cond_false]
  by_cases h46 : ((c.toNat : Nat) : Int) = 46
  ·have hL : Z16 ((c.toNat : Nat) : Int) = some false := by rw [h46]; rfl
   have hD : Z15 ((c.toNat : Nat) : Int) = some false := by rw [h46]; rfl
   have hcut : cutC s (some (i : Int)) none = some (s.drop i) := cut_from (by omega)
   rw [decide_eq_true h46, cond_true, hcut, Option.bind_some, Z28_eq, Option.bind_some, three]
   have hp : Z28_q (s.drop i) ([46, 46, 46] : Bs) = (decide (i + 3 ≤ s.length) && (List.take 3 (s.drop i) == ([46, 46, 46] : Bs))) := by
    unfold Z28_q Z0_q
    simp only [Ab.on]
    rw [show decide (((([46, 46, 46] : Bs).length : Nat) : Int) ≤ (((s.drop i).length : Nat) : Int)) = decide (i + 3 ≤ s.length) from decide_eq_decide.2 (by simp only [List.length_cons, List.length_nil, List.length_drop]; omega)]
    cases decide (i + 3 ≤ s.length) <;> rfl
   rw [hp]
   by_cases h3 : i + 3 ≤ s.length
   ·have hcut3 : cutC s (some (i : Int)) (some ((i + 3 : Nat) : Int)) = some ((s.drop i).take 3) := by rw [cut_part (by omega) h3, show i + 3 - i = 3 by omega]
    simp only [guardO, if_true, Option.bind_some, Bool.true_and]
    rw [decide_eq_true (show ((i + 3 : Nat) : Int) ≤ ((s.length : Nat) : Int) by omega), if_pos rfl, if_pos rfl, hcut3, decide_eq_true h3]
    simp only [Option.bind_some, Bool.true_and]
    cases List.take 3 (s.drop i) == ([46, 46, 46] : Bs)
    ·rw [hL, hD, h46]
     exact ⟨_, _, _, rfl, rfl, fun h => absurd h (by decide)⟩
    ·exact ⟨_, _, _, rfl, rfl, fun _ => ⟨_, rfl, by omega, h3⟩⟩
   ·simp only [guardO, if_true, Option.bind_some, Bool.true_and]
    rw [decide_eq_false (show ¬ ((i + 3 : Nat) : Int) ≤ ((s.length : Nat) : Int) by omega), if_neg (by decide), if_neg (by decide), decide_eq_false h3]
    rw [hL, hD, h46]
    exact ⟨_, _, _, rfl, rfl, fun h => absurd h (by decide)⟩
  ·rw [decide_eq_false h46, cond_false]
   simp only [guardO, Bool.false_and, if_neg (show ¬ (false = true) by decide), cond_false]
   rw [letter_eq' c, rletter_eq, rdigit_eq, Option.bind_some, Option.bind_some, Option.bind_some, isW_eq]
   have hlet : isL c = true → ¬ ((c.toNat : Nat) : Int) = 45 ∧ isD c = false := by
    intro h
    unfold isL at h; unfold isD
    simp only [Bool.or_eq_true, Bool.and_eq_true, decide_eq_true_eq] at h
    refine ⟨by omega, ?_⟩
    rw [Bool.and_eq_false_iff, decide_eq_false_iff_not, decide_eq_false_iff_not]
    omega
   rw [show ((decide ((48 : Int) ≤ ((c.toNat : Nat) : Int))) && (decide (((c.toNat : Nat) : Int) ≤ (57 : Int)))) = isD c from rfl]
   cases hL : isL c
   ·rw [Bool.false_or, cond_false, Bool.or_comm (isD c)]
    cases hN : decide (((c.toNat : Nat) : Int) = (45 : Int)) || isD c
    ·rw [cond_false, cond_false]
     have hD : isD c = false := by rw [Bool.or_eq_false_iff] at hN; exact hN.2
     rw [hD, cond_false]
     cases h34 : decide (((c.toNat : Nat) : Int) = (34 : Int))
     ·exact ⟨_, _, _, rfl, rfl, fun h => absurd h (by decide)⟩
     ·rw [cond_true, cond_true, literal_eq hs hi, closing_eq hs hi, Option.bind_some, Option.bind_some]
      rcases litR_cases s (i + 1) (by omega) with h | ⟨j, h, h1, h2⟩
      ·rw [h]; exact ⟨_, _, _, rfl, rfl, fun h => absurd h (by decide)⟩
      ·rw [h, decide_eq_false (show ¬ ((j : Int) < 0) by omega), cond_false, cond_false, cut_part (by omega) h2, Option.bind_some, Option.bind_some]
       obtain ⟨r, e, u1, u2, -⟩ := unquote_eq (s := (s.drop i).take (j - i)) (by simp; omega)
       rw [u1, u2]
       exact ⟨_, _, _, rfl, rfl, fun _ => ⟨_, rfl, by omega, h2⟩⟩
    ·rw [cond_true, cond_true, one, Option.bind_some, Option.bind_some, span_eq hs (by omega), word_eq hs (by omega), Option.bind_some, Option.bind_some]
     have hw := wordN_le (s.drop (i + 1))
     simp only [List.length_drop] at hw
     rw [cut_part (by omega) (by omega), Option.bind_some, Option.bind_some]
     obtain ⟨v, h1⟩ := tnum_eq (s := (s.drop i).take (i + 1 + wordN (s.drop (i + 1)) - i)) (by simp; omega)
     obtain ⟨v', h2⟩ := rnum_eq ((s.drop i).take (i + 1 + wordN (s.drop (i + 1)) - i))
     rw [h1, h2]
     exact ⟨_, _, _, rfl, rfl, fun _ => ⟨_, rfl, by omega, by omega⟩⟩
   ·obtain ⟨h45, hD⟩ := hlet hL
    have hw := wordN_le (s.drop i)
    have hw1 := word_pos hc (by rw [isW_eq, hL]; rfl)
    simp only [List.length_drop] at hw
    rw [decide_eq_false h45, hD, Bool.or_self, cond_false, Bool.or_false, cond_true, cond_true, span_eq hs (by omega), word_eq hs (by omega), Option.bind_some, Option.bind_some, subC_ok (by omega), Option.bind_some, Option.bind_some]
    cases decide ((64 : Int) < ((i + wordN (s.drop i) : Nat) : Int) - (i : Int))
    ·rw [cond_false, cond_false, cut_part (by omega) (by omega), Option.bind_some, Option.bind_some]
     exact ⟨_, _, _, rfl, rfl, fun _ => ⟨_, rfl, by omega, by omega⟩⟩
    ·exact ⟨_, _, _, rfl, rfl, fun h => absurd h (by decide)⟩
 ·rw [cond_true, cond_true, one, Option.bind_some, Option.bind_some, cut_part (by omega) (by omega), Option.bind_some, Option.bind_some]
  exact ⟨_, _, _, rfl, rfl, fun _ => ⟨_, rfl, by omega, by omega⟩⟩
end Go.Proofs

namespace Go.Proofs
open Go Go.Ab
def cvT (t : Token_Token) : R04_Token := ⟨t.FKind, t.FText, t.FAt⟩
def cvS (s : Sl Token_Token) : Sl R04_Token := ⟨s.nl, s.l.map cvT⟩
theorem app_one {α : Type} {s : Sl α} {t : α} (h : s.l.length ≤ 1048576) : appC 32 s (⟨false, [t]⟩ : Sl α) = some ⟨false, s.l ++ [t]⟩ := by
 unfold appC
 rw [if_pos (by simp only [List.length_cons, List.length_nil]; unfold maxN; omega)]
 simp
theorem app_cv {s : Sl Token_Token} {t : Token_Token} (h : s.l.length ≤ 1048576) : appC 32 (cvS s) (⟨false, [cvT t]⟩ : Sl R04_Token) = some (cvS ⟨false, s.l ++ [t]⟩) := by
 rw [app_one (by simp [cvS]; exact h)]
 simp [cvS]
theorem scan_loop (s : Bs) (hs : s.length ≤ 1048575) : ∀ (n i : Nat) (A : Sl Token_Token), A.l.length ≤ i → i ≤ s.length → s.length - i < n → ∃ (L : Sl Token_Token) (p e : Int), Z39_l15 s n A (i : Int) = some (L, p, e) ∧ Z13_l16 s n (cvS A) (i : Int) = some (cvS L, p, e) ∧ L.l.length ≤ s.length + 1
 | 0, _, _, _, _, h => by omega
 | n + 1, i, A, hA, hi, hn => by
  rw [Z39_l15, Z13_l16]
  by_cases hlt : i < s.length
  ·rw [show decide ((i : Int) < ((s.length : Nat) : Int)) = true from decide_eq_true (by omega), cond_true, cond_true]
   obtain ⟨t, j, e, h1, h2, h3⟩ := one_eq (s := s) (by omega) hlt
   rw [h1, h2, Option.bind_some, Option.bind_some]
   by_cases he : e = 0
   ·obtain ⟨m, rfl, h4, h5⟩ := h3 he
    rw [show decide (e = 0) = true from decide_eq_true he, Bool.not_true, cond_false, cond_false, app_one (by omega), show (⟨t.FKind, t.FText, t.FAt⟩ : R04_Token) = cvT t from rfl, app_cv (by omega), Option.bind_some, Option.bind_some, skip_eq (by omega) h5, rskip_eq (by omega) h5, Option.bind_some, Option.bind_some]
    have hk := skN_le false (s.drop m)
    simp only [List.length_drop] at hk
    exact scan_loop s hs n _ ⟨false, A.l ++ [t]⟩ (by simp; omega) (by omega) (by omega)
   ·rw [show decide (e = 0) = false from decide_eq_false he, Bool.not_false, cond_true, cond_true]
    exact ⟨⟨true, []⟩, _, _, rfl, rfl, by simp⟩
  ·rw [show decide ((i : Int) < ((s.length : Nat) : Int)) = false from decide_eq_false (by omega), cond_false, cond_false]
   unfold Z39_j8 Z13_j10
   rw [app_one (by omega), show (⟨5, [], ((s.length : Nat) : Int)⟩ : R04_Token) = cvT ⟨5, [], ((s.length : Nat) : Int)⟩ from rfl, app_cv (by omega)]
   exact ⟨_, _, _, rfl, rfl, by simp; omega⟩
theorem scan_eq (s : Bs) : ∃ (L : Sl Token_Token) (p e : Int), Z39 s = some (L, p, e) ∧ Z13 s = some (cvS L, p, e) ∧ L.l.length ≤ 65537 := by
 unfold Z39 Z13
 by_cases h : s.length ≤ 65536
 ·rw [show decide ((65536 : Int) < ((s.length : Nat) : Int)) = false from decide_eq_false (by omega), cond_false, cond_false]
  have k1 := skip_eq (s := s) (i := 0) (by omega) (by omega)
  have k2 := rskip_eq (s := s) (i := 0) (by omega) (by omega)
  have hk := skN_le false (s.drop 0)
  rw [show (((0 : Nat) : Int)) = 0 from rfl] at k1 k2
  rw [k1, k2, Option.bind_some, Option.bind_some]
  simp only [List.length_drop] at hk
  obtain ⟨L, p, e, h1, h2, h3⟩ := scan_loop s (by omega) F0 (0 + skN false (s.drop 0)) ⟨true, []⟩ (by simp) (by omega) (by rw [F0_eq]; omega)
  exact ⟨L, p, e, h1, h2, by omega⟩
 ·rw [show decide ((65536 : Int) < ((s.length : Nat) : Int)) = true from decide_eq_true (by omega), cond_true, cond_true]
  exact ⟨⟨true, []⟩, _, _, rfl, rfl, by simp⟩
theorem own_loop : ∀ (l : List Token_Token) (A : Sl R04_Token), A.l.length + l.length ≤ 1048576 → ∃ r, Z5_q7 l A = some r ∧ r.l = A.l ++ l.map cvT
 | [], A, _ => ⟨A, rfl, by simp⟩
 | t :: l, A, h => by
  simp only [List.length_cons] at h
  rw [Z5_q7]
  simp only [Ab.on]
  rw [app_one (by omega), Option.bind_some]
  obtain ⟨r, h1, h2⟩ := own_loop l ⟨false, A.l ++ [R04_Token.mk t.FKind t.FText t.FAt]⟩ (by simp; omega)
  exact ⟨r, h1, by rw [h2, List.map_cons]; simp [cvT]⟩
theorem own_eq {L : Sl Token_Token} (h : L.l.length ≤ 1048576) : ∃ r, Z5 L = some r ∧ r.l = (cvS L).l := by
 rw [Z5_eq]
 unfold Z5_q
 obtain ⟨r, h1, h2⟩ := own_loop L.l Sl.nil (by simpa [Sl.nil] using h)
 exact ⟨r, by rw [h1]; rfl, by rw [h2]; simp [Sl.nil, cvS]⟩
theorem same_loop (b : Sl R04_Token) : ∀ (l : List R04_Token) (i : Nat), b.l.drop i = l → Z6_q11 b l i = some (Sum.inl ())
 | [], _, _ => rfl
 | t :: l, i, h => by
  have hi : b.l[i]? = some t := by
   have := congrArg List.head? h
   simpa [List.head?_drop] using this
  rw [Z6_q11]
  simp only [Ab.on]
  rw [hi, Option.bind_some]
  have hd : (!(decide (t.FKind = t.FKind) && ((t.FText == t.FText) && (decide (t.FAt = t.FAt) && true)))) = false := by simp
  rw [hd, cond_false]
  exact same_loop b l (i + 1) (by rw [← List.drop_drop, h]; rfl)
theorem same_eq {a b : Sl R04_Token} (h : a.l = b.l) : Z6 a b = some true := by
 rw [Z6_eq]
 unfold Z6_q
 rw [h, show (!decide (((b.l.length : Nat) : Int) = ((b.l.length : Nat) : Int))) = false by simp, cond_false, same_loop b b.l 0 rfl]
 rfl
theorem example04 : Z3 = some true := by
 set_option maxRecDepth 1000000 in kernel_rfl
theorem tokenScans_true (s : Bs) : Z2 s = some true := by
 unfold Z2
 rw [show Z4 s = some (Z4_q s) from rfl, Option.bind_some]
 cases Z4_q s
 ·rw [cond_false]
  obtain ⟨L, p, e, h1, h2, h3⟩ := scan_eq s
  obtain ⟨r, h4, h5⟩ := own_eq (L := L) (by omega)
  rw [h1, h2, Option.bind_some, Option.bind_some, h4, Option.bind_some, same_eq (show r.l = (cvS L).l from h5), Option.bind_some, example04]
  simp [guardO]
 ·rw [cond_true, example04]; rfl
end Go.Proofs

namespace Go.Proofs.YtmjbloiidajknaaDoor
open Go Go.Ab Go.RowKit Go.ChangeShapes Go.WideShapes Go.ChangeAt
variable {lou : Lou}
theorem bulkAll {H : Type} (l : List (DataW H)) : Rows.uptoBulkAll l = (l.map Rows.uptoBulk).sum := by
 induction l with
 | nil => rfl
 | cons x r ih => simp only [Rows.uptoBulkAll, List.map_cons, List.sum_cons, ih]
theorem bulkB {H : Type} : Bulk (H := H) Rows.uptoBulk := by
 refine ⟨fun d => ?_, fun b => by simp [Rows.uptoBulk], fun e s => by simp only [Rows.uptoBulk, bulkAll]; omega, fun l => by simp only [Rows.uptoBulk, bulkAll]; omega⟩
 cases d with
 | lit l => cases l <;> simp [Rows.uptoBulk]
 | nil => simp [Rows.uptoBulk]
 | ptr d => simp [Rows.uptoBulk]
 | slice elems spare => simp [Rows.uptoBulk]
 | agg parts => simp [Rows.uptoBulk]
 | iface t d => simp [Rows.uptoBulk]
 | map entries => simp [Rows.uptoBulk]
 | held h => simp [Rows.uptoBulk]
theorem own : ownKnob Tryd.prog.godebug = none := by kernel_rfl
theorem laid : laidOutB Tryd.prog = true := by kernel_rfl
theorem bound {H : Type} {l : List (DataW H)} (hk : Rows.uptoSmall H l = true) : Rows.uptoBulkAll l ≤ 1048576 := of_decide_eq_true hk
theorem table {W : World} (h : laidMet Tryd.prog Rows.tokenScansUptoRow.laid W) : ∃ tp p u fr, W.heap[2]? = some (.cells #[.iface tp p] u fr) :=
 err_of (P := Tryd.prog) (g := 2) (ti := 70) (by kernel_rfl) (by kernel_rfl) (by kernel_rfl) h (.tail _ (.tail _ (.tail _ (.head _))))
theorem isErr (tp : TypeId) (p : Value) (u : TypeId) (fr : Nat × Nat) : IsErr Tryd.prog (.fix 2 (.cells #[.iface tp p] u fr)) := .of (by kernel_rfl)
theorem tokenScans_call [IsLoud lou] (a : Bs) (tp : TypeId) (p : Value) (u : TypeId) (fr : Nat × Nat) : ACalls Tryd.prog 3 [.d (.str a)] (hTab 2 (.cells #[.iface tp p] u fr)) fun r h' => r = .a (.d (.bool true)) ∧ h' = hTab 2 (.cells #[.iface tp p] u fr) :=
 Z2_walk (tokenScans_true a) _ (gE := 0) rfl (isErr tp p u fr)
end Go.Proofs.YtmjbloiidajknaaDoor

