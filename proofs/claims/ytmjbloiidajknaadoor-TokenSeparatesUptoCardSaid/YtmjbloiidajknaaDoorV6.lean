import Derived.Test.YtmjbloiidajknaaDoorV5
import Derived.Test.YtmjbloiidajknaaDoorRows
set_option maxRecDepth 100000
set_option maxHeartbeats 2000000
set_option linter.unusedVariables false
set_option linter.unusedSimpArgs false
namespace Go.Proofs
open Go Go.Ab
theorem add_nat {i k : Nat} (h : i ≤ 2097152) (hk : k ≤ 2097152) : addC (i : Int) (k : Int) = some ((i + k : Nat) : Int) := by rw [addC_ok (by omega)]; exact some_nat rfl
theorem j29_eq (k : Int → Strings_Builder → Option (Bs × Int)) {i : Nat} (h : i ≤ 2097152) (B : Strings_Builder) : Z45_j29 k (i : Int) B = k ((i + 1 : Nat) : Int) B := by
 unfold Z45_j29
 rw [show (1 : Int) = ((1 : Nat) : Int) from rfl, add_nat h (by omega), Option.bind_some]
theorem wrap8_byte (c : UInt8) : UInt8.ofNat (((c.toNat : Nat) : Int)).toNat = c := by
 rw [Int.toNat_natCast]; exact UInt8.ofNat_toNat
theorem wrap8_small {n : Int} (h0 : 0 ≤ n) (h1 : n < 256) : IntKind.wrap .u8 n = n := by
 simp [IntKind.wrap, IntKind.bits, IntKind.signed]; omega
theorem four {s : Bs} {i : Nat} (h : i + 4 ≤ s.length) : ∃ a b c d, (s.drop i).take 4 = [a, b, c, d] := by
 have h1 : ∀ k, k < 4 → ∃ c, s[i + k]? = some c := fun k hk => ⟨_, List.getElem?_eq_getElem (by omega)⟩
 obtain ⟨a, ha⟩ := h1 0 (by omega)
 obtain ⟨b, hb⟩ := h1 1 (by omega)
 obtain ⟨c, hc⟩ := h1 2 (by omega)
 obtain ⟨d, hd⟩ := h1 3 (by omega)
 exact ⟨a, b, c, d, by rw [drop_cons (show s[i]? = some a from ha), drop_cons hb, drop_cons hc, drop_cons hd]; rfl⟩
def badC (c : UInt8) : Bool := ((decide (((c.toNat : Nat) : Int) < (32 : Int))) || (decide ((126 : Int) < ((c.toNat : Nat) : Int)))) || (decide (((c.toNat : Nat) : Int) = (34 : Int)))
theorem tU_stop (x : Bs) (n i : Nat) (B : Strings_Builder) (h : x.length ≤ i) : Z45_l22 x (n + 1) (i : Int) B = Z45_j17 B := by
 rw [Z45_l22, show decide ((i : Int) < ((x.length : Nat) : Int)) = false from decide_eq_false (by omega), cond_false]
theorem rU_stop (x : Bs) (n i : Nat) (o : Bs) (h : x.length ≤ i) : Z13_l19 x (n + 1) o (i : Int) = some (o, 0) := by
 rw [Z13_l19, show decide ((i : Int) < ((x.length : Nat) : Int)) = false from decide_eq_false (by omega), cond_false]; rfl
theorem tU_bad {x : Bs} (n : Nat) {i : Nat} (B : Strings_Builder) {c : UInt8} (hc : x[i]? = some c) (h : badC c = true) : Z45_l22 x (n + 1) (i : Int) B = some ([], 3) := by
 have hi := (List.getElem?_eq_some_iff.1 hc).1
 unfold badC at h
 rw [Z45_l22, show decide ((i : Int) < ((x.length : Nat) : Int)) = true from decide_eq_true (by omega), cond_true, idxC_nat, hc, Option.bind_some, h, cond_true]
theorem rU_bad {x : Bs} (n : Nat) {i : Nat} (o : Bs) {c : UInt8} (hc : x[i]? = some c) (h : badC c = true) : Z13_l19 x (n + 1) o (i : Int) = some ([], 3) := by
 have hi := (List.getElem?_eq_some_iff.1 hc).1
 unfold badC at h
 rw [Z13_l19, show decide ((i : Int) < ((x.length : Nat) : Int)) = true from decide_eq_true (by omega), cond_true, idxC_nat, hc, Option.bind_some, h, cond_true]
theorem tU_char {x : Bs} (n : Nat) {i : Nat} {B B' : Strings_Builder} {c : UInt8} (hi2 : i ≤ 2097152) (hc : x[i]? = some c) (h : badC c = false) (h92 : decide (((c.toNat : Nat) : Int) = 92) = false) (hw : Z33 B ((c.toNat : Nat) : Int) = some (false, B')) : Z45_l22 x (n + 1) (i : Int) B = Z45_l22 x n ((i + 1 : Nat) : Int) B' := by
 have hi := (List.getElem?_eq_some_iff.1 hc).1
 unfold badC at h
 rw [Z45_l22, show decide ((i : Int) < ((x.length : Nat) : Int)) = true from decide_eq_true (by omega), cond_true, idxC_nat, hc, Option.bind_some, h, cond_false, h92, Bool.not_false, cond_true, hw, Option.bind_some, j29_eq _ hi2]
theorem rU_char {x : Bs} (n : Nat) {i : Nat} {o : Bs} {c : UInt8} (hi2 : i ≤ 1048576) (ho : o.length ≤ 1048576) (hc : x[i]? = some c) (h : badC c = false) (h92 : decide (((c.toNat : Nat) : Int) = 92) = false) : Z13_l19 x (n + 1) o (i : Int) = Z13_l19 x n (o ++ [c]) ((i + 1 : Nat) : Int) := by
 have hi := (List.getElem?_eq_some_iff.1 hc).1
 unfold badC at h
 have one : addC (i : Int) 1 = some (((i + 1 : Nat)) : Int) := add_nat (k := 1) (by omega) (by omega)
 rw [Z13_l19, show decide ((i : Int) < ((x.length : Nat) : Int)) = true from decide_eq_true (by omega), cond_true, idxC_nat, hc, Option.bind_some, h, cond_false, h92, Bool.not_false, cond_true, cat_one ho, Option.bind_some, one, Option.bind_some, wrap8_byte]
theorem tU_end {x : Bs} (n : Nat) {i : Nat} (B : Strings_Builder) {c : UInt8} (hi2 : i ≤ 1048576) (hc : x[i]? = some c) (h : badC c = false) (h92 : decide (((c.toNat : Nat) : Int) = 92) = true) (hn : x.length ≤ i + 1) : Z45_l22 x (n + 1) (i : Int) B = some ([], 3) := by
 have hi := (List.getElem?_eq_some_iff.1 hc).1
 unfold badC at h
 have one : addC (i : Int) 1 = some (((i + 1 : Nat)) : Int) := add_nat (k := 1) (by omega) (by omega)
 rw [Z45_l22, show decide ((i : Int) < ((x.length : Nat) : Int)) = true from decide_eq_true (by omega), cond_true, idxC_nat, hc, Option.bind_some, h, cond_false, h92, Bool.not_true, cond_false, one, Option.bind_some, show decide (((i + 1 : Nat) : Int) = ((x.length : Nat) : Int)) = true from decide_eq_true (by omega), cond_true]
theorem rU_end {x : Bs} (n : Nat) {i : Nat} (o : Bs) {c : UInt8} (hi2 : i ≤ 1048576) (hc : x[i]? = some c) (h : badC c = false) (h92 : decide (((c.toNat : Nat) : Int) = 92) = true) (hn : x.length ≤ i + 1) : Z13_l19 x (n + 1) o (i : Int) = some ([], 3) := by
 have hi := (List.getElem?_eq_some_iff.1 hc).1
 unfold badC at h
 have one : addC (i : Int) 1 = some (((i + 1 : Nat)) : Int) := add_nat (k := 1) (by omega) (by omega)
 rw [Z13_l19, show decide ((i : Int) < ((x.length : Nat) : Int)) = true from decide_eq_true (by omega), cond_true, idxC_nat, hc, Option.bind_some, h, cond_false, h92, Bool.not_true, cond_false, one, Option.bind_some, show decide (((x.length : Nat) : Int) ≤ ((i + 1 : Nat) : Int)) = true from decide_eq_true (by omega), cond_true]
theorem tU_esc {x : Bs} (n : Nat) {i : Nat} (B : Strings_Builder) {c d : UInt8} (hi2 : i ≤ 1048576) (hc : x[i]? = some c) (h : badC c = false) (h92 : decide (((c.toNat : Nat) : Int) = 92) = true) (hd : x[i + 1]? = some d) :
  Z45_l22 x (n + 1) (i : Int) B = bif (plV ((d.toNat : Nat) : Int)).2 then ((Z33 B (plV ((d.toNat : Nat) : Int)).1).bind fun x58 => Z45_j29 (Z45_l22 x n) ((i + 1 : Nat) : Int) x58.2) else bif (!decide (((d.toNat : Nat) : Int) = (117 : Int))) || (decide (x.length ≤ i + 5)) then (some (([] : Bs), (3 : Int))) else ((cutC x (some ((i + 2 : Nat) : Int)) (some ((i + 6 : Nat) : Int))).bind fun x78 => (bytesOf x78).bind fun x79 => Z45_l81 B ((i + 1 : Nat) : Int) x79 (Z45_l22 x n) (x79.l.length + 1) (0 : Int) 0) := by
 have hi := (List.getElem?_eq_some_iff.1 hc).1
 have hi1 := (List.getElem?_eq_some_iff.1 hd).1
 unfold badC at h
 have one : addC (i : Int) 1 = some (((i + 1 : Nat)) : Int) := add_nat (k := 1) (by omega) (by omega)
 have a1 : addC ((i + 1 : Nat) : Int) 1 = some (((i + 2 : Nat)) : Int) := add_nat (i := i + 1) (k := 1) (by omega) (by omega)
 have a4 : addC ((i + 1 : Nat) : Int) 4 = some (((i + 5 : Nat)) : Int) := add_nat (i := i + 1) (k := 4) (by omega) (by omega)
 have a5 : addC ((i + 1 : Nat) : Int) 5 = some (((i + 6 : Nat)) : Int) := add_nat (i := i + 1) (k := 5) (by omega) (by omega)
 rw [Z45_l22, show decide ((i : Int) < ((x.length : Nat) : Int)) = true from decide_eq_true (by omega), cond_true, idxC_nat, hc, Option.bind_some, h, cond_false, h92, Bool.not_true, cond_false, one, Option.bind_some, show decide (((i + 1 : Nat) : Int) = ((x.length : Nat) : Int)) = false from decide_eq_false (by omega), cond_false, idxC_nat, hd, Option.bind_some, (pl_at d).1, Option.bind_some]
 cases (plV ((d.toNat : Nat) : Int)).2
 ·rw [cond_false, cond_false, Option.bind_some, a4, a1, a5]
  cases decide (((d.toNat : Nat) : Int) = (117 : Int))
  ·rfl
  ·unfold guardO
   rw [Bool.not_true, Bool.not_false, if_pos rfl, Option.bind_some, Bool.false_or, Bool.false_or, Option.bind_some, Option.bind_some, show decide (((x.length : Nat) : Int) ≤ ((i + 5 : Nat) : Int)) = decide (x.length ≤ i + 5) from decide_eq_decide.2 (by omega)]
 ·rfl
theorem rU_esc {x : Bs} (n : Nat) {i : Nat} {o : Bs} {c d : UInt8} (hi2 : i ≤ 1048576) (ho : o.length ≤ 1048576) (hc : x[i]? = some c) (h : badC c = false) (h92 : decide (((c.toNat : Nat) : Int) = 92) = true) (hd : x[i + 1]? = some d) :
  Z13_l19 x (n + 1) o (i : Int) = bif (plV ((d.toNat : Nat) : Int)).2 then Z13_l19 x n (o ++ [UInt8.ofNat (plV ((d.toNat : Nat) : Int)).1.toNat]) ((i + 2 : Nat) : Int) else bif (!decide (((d.toNat : Nat) : Int) = (117 : Int))) || (decide (x.length ≤ i + 5)) then (some (([] : Bs), (3 : Int))) else ((cutC x (some ((i + 2 : Nat) : Int)) (some ((i + 6 : Nat) : Int))).bind fun x66 => (Z14 x66).bind fun x67 => bif ((decide (x67 < (0 : Int))) || (decide ((255 : Int) < x67))) then (some (([] : Bs), (3 : Int))) else Z13_l19 x n (o ++ [UInt8.ofNat (IntKind.wrap .u8 x67).toNat]) ((i + 6 : Nat) : Int)) := by
 have hi := (List.getElem?_eq_some_iff.1 hc).1
 have hi1 := (List.getElem?_eq_some_iff.1 hd).1
 unfold badC at h
 have one : addC (i : Int) 1 = some (((i + 1 : Nat)) : Int) := add_nat (k := 1) (by omega) (by omega)
 have a2 : addC (i : Int) 2 = some (((i + 2 : Nat)) : Int) := add_nat (k := 2) (by omega) (by omega)
 have a6 : addC (i : Int) 6 = some (((i + 6 : Nat)) : Int) := add_nat (k := 6) (by omega) (by omega)
 rw [Z13_l19, show decide ((i : Int) < ((x.length : Nat) : Int)) = true from decide_eq_true (by omega), cond_true, idxC_nat, hc, Option.bind_some, h, cond_false, h92, Bool.not_true, cond_false, one, Option.bind_some, show decide (((x.length : Nat) : Int) ≤ ((i + 1 : Nat) : Int)) = false from decide_eq_false (by omega), cond_false, Option.bind_some, idxC_nat, hd, Option.bind_some, simple_plain, (pl_at d).1, Option.bind_some]
 cases (plV ((d.toNat : Nat) : Int)).2
 ·rw [cond_false, cond_false, Option.bind_some, idxC_nat, hd, Option.bind_some, a6, a2]
  cases decide (((d.toNat : Nat) : Int) = (117 : Int))
  ·rfl
  ·unfold guardO
   rw [Bool.not_true, Bool.not_false, if_pos rfl, Option.bind_some, Bool.false_or, Bool.false_or, Option.bind_some, Option.bind_some, show decide (((x.length : Nat) : Int) < ((i + 6 : Nat) : Int)) = decide (x.length ≤ i + 5) from decide_eq_decide.2 (by omega)]
   cases decide (x.length ≤ i + 5)
   ·simp only [cond_false, cat_one ho, Option.bind_some]
   ·rfl
 ·rw [cond_true, cond_true, cat_one ho, Option.bind_some, a2, Option.bind_some]
theorem unq_loop (x : Bs) (hx : x.length ≤ 1048576) : ∀ (n i : Nat) (B : Strings_Builder) (o : Bs), Rp B o → o.length ≤ i → i ≤ x.length → x.length - i < n → ∃ r e, Z45_l22 x n (i : Int) B = some (r, e) ∧ Z13_l19 x n o (i : Int) = some (r, e) ∧ r.length ≤ x.length
 | 0, _, _, _, _, _, _, h => by omega
 | n + 1, i, B, o, hB, ho, hi, hn => by
  by_cases hlt : i < x.length
  ·obtain ⟨c, hc⟩ : ∃ c, x[i]? = some c := ⟨x[i], List.getElem?_eq_getElem hlt⟩
   cases hb : badC c
   ·cases h92 : decide (((c.toNat : Nat) : Int) = 92)
    ·obtain ⟨B', hw, hB'⟩ := hB.wb (n := ((c.toNat : Nat) : Int)) (by omega) (by have := c.toNat_lt; omega) (by omega)
     rw [tU_char n (by omega) hc hb h92 hw, rU_char n (by omega) (by omega) hc hb h92]
     rw [wrap8_byte] at hB'
     exact unq_loop x hx n (i + 1) B' _ hB' (by simp; omega) (by omega) (by omega)
    ·by_cases h1 : x.length ≤ i + 1
     ·exact ⟨[], 3, tU_end n B (by omega) hc hb h92 h1, rU_end n o (by omega) hc hb h92 h1, by simp⟩
     ·obtain ⟨d, hd⟩ : ∃ d, x[i + 1]? = some d := ⟨_, List.getElem?_eq_getElem (show i + 1 < x.length by omega)⟩
      rw [tU_esc n B (by omega) hc hb h92 hd, rU_esc n (by omega) (by omega) hc hb h92 hd]
      cases (plV ((d.toNat : Nat) : Int)).2
      ·rw [cond_false, cond_false]
       cases hs : (!decide (((d.toNat : Nat) : Int) = (117 : Int))) || (decide (x.length ≤ i + 5))
       ·have h6 : i + 6 ≤ x.length := by
         simp only [Bool.or_eq_false_iff, decide_eq_false_iff_not] at hs; omega
        obtain ⟨p, q, r, s, h4⟩ := four (s := x) (i := i + 2) (by omega)
        have hcut : cutC x (some ((i + 2 : Nat) : Int)) (some ((i + 6 : Nat) : Int)) = some [p, q, r, s] := by
         rw [cut_part (by omega) (by omega), show i + 6 - (i + 2) = 4 by omega, h4]
        have hbo : bytesOf [p, q, r, s] = some (strSl [p, q, r, s]) := rfl
        rw [cond_false, cond_false, hcut, Option.bind_some, Option.bind_some, hbo, Option.bind_some, hexT_eq, code_eq, Option.bind_some]
        generalize hex4 ((p.toNat : Nat) : Int) ((q.toNat : Nat) : Int) ((r.toNat : Nat) : Int) ((s.toNat : Nat) : Int) = v
        cases hv : decide (v < 0) || decide (255 < v)
        ·simp only [Bool.or_eq_false_iff, decide_eq_false_iff_not] at hv
         rw [cond_false, cond_false, wrap8_small (by omega) (by omega)]
         obtain ⟨B', hw, hB'⟩ := hB.wb (n := v) (by omega) (by omega) (by omega)
         have a4 : addC ((i + 1 : Nat) : Int) 4 = some (((i + 5 : Nat)) : Int) := add_nat (i := i + 1) (k := 4) (by omega) (by omega)
         rw [hw, Option.bind_some, a4, Option.bind_some, j29_eq _ (by omega)]
         exact unq_loop x hx n (i + 6) B' _ hB' (by simp; omega) (by omega) (by omega)
        ·exact ⟨[], 3, rfl, rfl, by simp⟩
       ·exact ⟨[], 3, rfl, rfl, by simp⟩
      ·obtain ⟨-, p0, p1⟩ := pl_at d
       obtain ⟨B', hw, hB'⟩ := hB.wb p0 p1 (by omega)
       rw [cond_true, cond_true, hw, Option.bind_some, j29_eq _ (by omega)]
       exact unq_loop x hx n (i + 2) B' _ hB' (by simp; omega) (by omega) (by omega)
   ·exact ⟨[], 3, tU_bad n B hc hb, rU_bad n o hc hb, by simp⟩
  ·refine ⟨o, 0, ?_, rU_stop x n i o (by omega), by omega⟩
   rw [tU_stop x n i B (by omega)]
   unfold Z45_j17
   rw [hB.str, Option.bind_some]
theorem unquote_eq {s : Bs} (hs : s.length ≤ 1048576) : ∃ r e, Z45 s = some (r, e) ∧ Z13 s = some (r, e) ∧ r.length ≤ s.length := by
 unfold Z45 Z13
 by_cases h2 : s.length < 2
 ·rw [show decide (((s.length : Nat) : Int) < 2) = true from decide_eq_true (by omega)]
  exact ⟨[], 3, rfl, rfl, by simp⟩
 ·rw [show decide (((s.length : Nat) : Int) < 2) = false from decide_eq_false (by omega)]
  obtain ⟨c, hc⟩ : ∃ c, s[0]? = some c := ⟨_, List.getElem?_eq_getElem (show 0 < s.length by omega)⟩
  have hsub : subC ((s.length : Nat) : Int) 1 = some ((s.length - 1 : Nat) : Int) := by rw [subC_ok (by omega)]; exact congrArg some (by omega)
  obtain ⟨z, hz⟩ : ∃ z, s[s.length - 1]? = some z := ⟨_, List.getElem?_eq_getElem (show s.length - 1 < s.length by omega)⟩
  have hcut : cutC s (some (1 : Int)) (some ((s.length - 1 : Nat) : Int)) = some ((s.drop 1).take (s.length - 1 - 1)) := cut_part (i := 1) (by omega) (by omega)
  rw [hc, hsub]
  simp only [guardO, Bool.not_false, if_true, Option.bind_some, Bool.false_or, idxC_nat, hz]
  cases decide (((c.toNat : Nat) : Int) = 34)
  ·exact ⟨[], 3, rfl, rfl, by simp⟩
  ·simp only [Bool.not_true, Bool.not_false, if_true, Option.bind_some, Bool.false_or, idxC_nat, hz, hcut]
   cases decide (((z.toNat : Nat) : Int) = 34)
   ·exact ⟨[], 3, rfl, rfl, by simp⟩
   ·obtain ⟨r, e, h1, h3, h4⟩ := unq_loop ((s.drop 1).take (s.length - 1 - 1)) (by simp; omega) F0 0 Strings_Builder.zero [] (.inl ⟨rfl, rfl⟩) (by simp) (by omega) (by rw [F0_eq]; simp; omega)
    exact ⟨r, e, h1, h3, by simp at h4; omega⟩
end Go.Proofs

namespace Go.Proofs
open Go Go.Ab
def sgV (n : Int) : Bool := (Z27 n).getD false
theorem sg_tab : (List.range 256).all (fun n => (Z27 (n : Int) == some (sgV (n : Int))) && ((Z36 ([33, 36, 38, 40, 41, 58, 61, 64, 91, 93, 123, 124, 125] : Bs) (n : Int) == some (sgV (n : Int))))) = true := by
 set_option maxRecDepth 100000 in kernel_rfl
theorem sg_at (c : UInt8) : Z27 ((c.toNat : Nat) : Int) = some (sgV ((c.toNat : Nat) : Int)) ∧ Z36 ([33, 36, 38, 40, 41, 58, 61, 64, 91, 93, 123, 124, 125] : Bs) ((c.toNat : Nat) : Int) = some (sgV ((c.toNat : Nat) : Int)) := by
 have h := List.all_eq_true.1 sg_tab c.toNat (List.mem_range.2 c.toNat_lt)
 simp only [Bool.and_eq_true, beq_iff_eq] at h
 exact h
theorem letter_eq' (c : UInt8) : Z49 ((c.toNat : Nat) : Int) = some (isW c) := rfl
end Go.Proofs

namespace Go.Proofs
open Go Go.Ab
def cvT (t : Token_Token) : R04_Token := ⟨t.FKind, t.FText, t.FAt⟩
def cvS (s : Sl Token_Token) : Sl R04_Token := ⟨s.nl, s.l.map cvT⟩
theorem app_one {α : Type} {s : Sl α} {t : α} (h : s.l.length ≤ 1048576) : appC 32 s (⟨false, [t]⟩ : Sl α) = some ⟨false, s.l ++ [t]⟩ := by
 unfold appC
 rw [if_pos (by simp only [List.length_cons, List.length_nil]; unfold maxN; omega)]
 simp
theorem own_loop : ∀ (l : List Token_Token) (A : Sl R04_Token), A.l.length + l.length ≤ 1048576 → ∃ r, Z9_q7 l A = some r ∧ r.l = A.l ++ l.map cvT
 | [], A, _ => ⟨A, rfl, by simp⟩
 | t :: l, A, h => by
  simp only [List.length_cons] at h
  rw [Z9_q7]
  simp only [Ab.on]
  rw [app_one (by omega), Option.bind_some]
  obtain ⟨r, h1, h2⟩ := own_loop l ⟨false, A.l ++ [R04_Token.mk t.FKind t.FText t.FAt]⟩ (by simp; omega)
  exact ⟨r, h1, by rw [h2, List.map_cons]; simp [cvT]⟩
theorem own_eq {L : Sl Token_Token} (h : L.l.length ≤ 1048576) : ∃ r, Z9 L = some r ∧ r.l = (cvS L).l := by
 rw [Z9_eq]
 unfold Z9_q
 obtain ⟨r, h1, h2⟩ := own_loop L.l Sl.nil (by simpa [Sl.nil] using h)
 exact ⟨r, by rw [h1]; rfl, by rw [h2]; simp [Sl.nil, cvS]⟩
theorem example04 : Z7 = some true := by
 set_option maxRecDepth 1000000 in kernel_rfl
end Go.Proofs

namespace Go.Proofs
open Go Go.Ab
theorem all_u8 {p : UInt8 → Prop} (h : ∀ i : Fin 256, p (UInt8.ofNat i.val)) (c : UInt8) : p c := by
 have := h ⟨c.toNat, c.toNat_lt⟩
 simpa using this
def hx (n : Nat) : UInt8 := if n < 10 then UInt8.ofNat (48 + n) else UInt8.ofNat (87 + n)
def esc (c : UInt8) : Bs := if c = 34 then [92, 34] else if c = 92 then [92, 92] else if c = 10 then [92, 110] else if c = 13 then [92, 114] else if c = 9 then [92, 116] else if 32 ≤ c.toNat ∧ c.toNat ≤ 126 then [c] else [92, 117, 48, 48, hx (c.toNat / 16), hx (c.toNat % 16)]
def qt (s : Bs) : Bs := 34 :: (s.flatMap esc ++ [34])
theorem esc_len (c : UInt8) : (esc c).length ≤ 6 := by
 unfold esc; repeat' split
 all_goals simp
theorem flat_len (s : Bs) : (s.flatMap esc).length ≤ 6 * s.length := by
 induction s with
 | nil => simp
 | cons a r ih => have := esc_len a; simp only [List.flatMap_cons, List.length_append, List.length_cons]; omega
theorem qt_len (s : Bs) : (qt s).length ≤ 6 * s.length + 2 := by have := flat_len s; simp only [qt, List.length_append, List.length_cons, List.length_nil]; omega
theorem escape_eq (c : UInt8) : Z16_q ((c.toNat : Nat) : Int) = some (esc c) := by
 revert c
 apply all_u8
 decide +kernel
theorem quote_loop : ∀ (s : Bs) (o : Bs), o.length + 6 * s.length ≤ 1099511627776 → Z12_q8 s o = some (o ++ s.flatMap esc) := by
 intro s
 induction s with
 | nil => intro o _; simp [Z12_q8]
 | cons a r ih =>
  intro o h
  have := esc_len a
  simp only [List.length_cons] at h
  rw [Z12_q8]
  simp only [Ab.on]
  rw [escape_eq, Option.bind_some, catC_ok (by omega), Option.bind_some, ih _ (by simp; omega)]
  simp
theorem rquote_eq (s : Bs) (h : s.length ≤ 1048576) : Z12_q s = some (qt s) := by
 have hf := flat_len s
 unfold Z12_q
 rw [quote_loop _ _ (by simp; omega), Option.bind_some]
 simp only [Ab.on]
 rw [catC_ok (by simp only [List.length_append, List.length_cons, List.length_nil]; omega)]
 simp [qt]
def bb (l : Bs) : Strings_Builder := ⟨true, ⟨false, l.map fun b => (b.toNat : Int)⟩⟩
theorem bb_len (l : Bs) : (bb l).Fbuf.l.length = l.length := by simp [bb]
theorem wb_eq (l : Bs) (c : UInt8) (h : l.length ≤ 1099511627000) : Z33_q (bb l) ((c.toNat : Nat) : Int) = some (false, bb (l ++ [c])) := by
 unfold Z33_q Z35_q
 rw [Option.bind_some, appC_ok (by decide) (by show (bb l).Fbuf.l.length + 1 ≤ _; rw [bb_len]; omega), Option.bind_some]
 simp [bb]
theorem ws_eq (l s : Bs) (h : l.length + s.length ≤ 1099511627000) : ∃ k, Z34_q (bb l) s = some (k, false, bb (l ++ s)) := by
 unfold Z34_q Z35_q
 rw [Option.bind_some, appC_ok (by decide) (by show (bb l).Fbuf.l.length + _ ≤ _; rw [bb_len, strSl_len]; omega), Option.bind_some]
 exact ⟨(s.length : Nat), by simp [bb, strSl]⟩
theorem str_eq (l : Bs) (h : l ≠ []) : Z32_q (bb l) = some l := by
 unfold Z32_q bldStr
 have h1 : (bb l).Fbuf.l.all (fun n => decide (0 ≤ n ∧ n < 256)) = true := by
  rw [List.all_eq_true]
  intro x hx
  obtain ⟨b, _, rfl⟩ := List.mem_map.1 hx
  have := b.toNat_lt
  exact decide_eq_true ⟨by omega, by omega⟩
 rw [if_pos ⟨h1, .inr ⟨rfl, by simp [bb, h]⟩⟩]
 have : bytesC (bb l).Fbuf = l := by
  unfold bytesC bb
  rw [List.map_map]
  conv => rhs; rw [← List.map_id l]
  refine List.map_congr_left fun b _ => ?_
  simp
 rw [this]
theorem hexHi (c : UInt8) : idxC ([48, 49, 50, 51, 52, 53, 54, 55, 56, 57, 97, 98, 99, 100, 101, 102] : Bs) (Int.fdiv ((c.toNat : Nat) : Int) (2 ^ (min (Int.toNat 4) (IntKind.bits .u8)))) = some (hx (c.toNat / 16)) := by
 revert c
 apply all_u8
 decide +kernel
theorem hexLo (c : UInt8) : idxC ([48, 49, 50, 51, 52, 53, 54, 55, 56, 57, 97, 98, 99, 100, 101, 102] : Bs) (IntKind.wrap .u8 ((BitVec.ofInt (IntKind.bits .u8) ((c.toNat : Nat) : Int) &&& BitVec.ofInt (IntKind.bits .u8) (15 : Int)).toNat : Int)) = some (hx (c.toNat % 16)) := by
 revert c
 apply all_u8
 decide +kernel
theorem u8_ne {c d : UInt8} : decide (((c.toNat : Nat) : Int) = ((d.toNat : Nat) : Int)) = decide (c = d) := by
 by_cases h : c = d
 ·subst h; simp
 ·rw [decide_eq_false h, decide_eq_false]
  intro e; exact h (UInt8.toNat_inj.1 (by omega))
theorem tquote_loop : ∀ (s : Bs) (o : Bs), o.length + 6 * s.length ≤ 1099511626000 → Z44_q15 s (bb o) = some (bb (o ++ s.flatMap esc)) := by
 intro s
 induction s with
 | nil => intro o _; simp [Z44_q15]
 | cons a r ih =>
  intro o h
  have hel := esc_len a
  simp only [List.length_cons] at h
  have fin : ∀ x : Bs, x = esc a → Z44_q15 r (bb (o ++ x)) = some (bb (o ++ (a :: r).flatMap esc)) := by
   rintro _ rfl
   rw [ih _ (by simp; omega)]; simp
  have e34 := u8_ne (c := a) (d := 34); have e92 := u8_ne (c := a) (d := 92); have e10 := u8_ne (c := a) (d := 10); have e13 := u8_ne (c := a) (d := 13); have e9 := u8_ne (c := a) (d := 9)
  rw [Z44_q15]
  simp only [Ab.on]
  rw [show (34 : Int) = (((34 : UInt8).toNat : Nat) : Int) from rfl, e34, show (92 : Int) = (((92 : UInt8).toNat : Nat) : Int) from rfl, e92, show (10 : Int) = (((10 : UInt8).toNat : Nat) : Int) from rfl, e10, show (13 : Int) = (((13 : UInt8).toNat : Nat) : Int) from rfl, e13, show (9 : Int) = (((9 : UInt8).toNat : Nat) : Int) from rfl, e9]
  by_cases c1 : a = 34
  ·rw [decide_eq_true c1, cond_true, cond_true, wb_eq _ _ (by omega), Option.bind_some, wb_eq _ _ (by simp; omega), Option.bind_some, Option.bind_some]
   simp only [List.append_assoc]
   exact fin _ (by rw [c1]; rfl)
  rw [decide_eq_false c1, cond_false]
  by_cases c2 : a = 92
  ·rw [decide_eq_true c2, cond_true, wb_eq _ _ (by omega), Option.bind_some, wb_eq _ _ (by simp; omega), Option.bind_some, Option.bind_some]
   simp only [List.append_assoc]
   exact fin _ (by rw [c2]; rfl)
  rw [decide_eq_false c2, cond_false]
  by_cases c3 : a = 10
  ·obtain ⟨k, e⟩ := ws_eq o [92, 110] (by simp; omega)
   rw [decide_eq_true c3, cond_true, e, Option.bind_some, Option.bind_some]
   exact fin _ (by rw [c3]; rfl)
  rw [decide_eq_false c3, cond_false]
  by_cases c4 : a = 13
  ·obtain ⟨k, e⟩ := ws_eq o [92, 114] (by simp; omega)
   rw [decide_eq_true c4, cond_true, e, Option.bind_some, Option.bind_some]
   exact fin _ (by rw [c4]; rfl)
  rw [decide_eq_false c4, cond_false]
  by_cases c5 : a = 9
  ·obtain ⟨k, e⟩ := ws_eq o [92, 116] (by simp; omega)
   rw [decide_eq_true c5, cond_true, e, Option.bind_some, Option.bind_some]
   exact fin _ (by rw [c5]; rfl)
  rw [decide_eq_false c5, cond_false]
  have he : esc a = if 32 ≤ a.toNat ∧ a.toNat ≤ 126 then [a] else [92, 117, 48, 48, hx (a.toNat / 16), hx (a.toNat % 16)] := by
   unfold esc; rw [if_neg c1, if_neg c2, if_neg c3, if_neg c4, if_neg c5]
  by_cases c6 : 32 ≤ a.toNat ∧ a.toNat ≤ 126
  ·rw [show ((decide ((32 : Int) ≤ ((a.toNat : Nat) : Int))) && (decide (((a.toNat : Nat) : Int) ≤ (126 : Int)))) = true by simp; omega, cond_true, wb_eq _ _ (by omega), Option.bind_some, Option.bind_some]
   exact fin _ (by rw [he, if_pos c6])
  ·rw [show ((decide ((32 : Int) ≤ ((a.toNat : Nat) : Int))) && (decide (((a.toNat : Nat) : Int) ≤ (126 : Int)))) = false by simp; omega, cond_false]
   obtain ⟨k, e⟩ := ws_eq o [92, 117, 48, 48] (by simp; omega)
   rw [e, Option.bind_some, hexHi, Option.bind_some, wb_eq _ _ (by simp; omega), Option.bind_some, hexLo, Option.bind_some, wb_eq _ _ (by simp; omega), Option.bind_some, Option.bind_some]
   simp only [List.append_assoc]
   exact fin _ (by rw [he, if_neg c6]; rfl)
theorem tquote_eq (s : Bs) (h : s.length ≤ 1048576) : Z44_q s = some (qt s) := by
 have hf := flat_len s
 unfold Z44_q
 have h0 : Z33_q Strings_Builder.zero (34 : Int) = some (false, bb [34]) := by rfl
 rw [h0, Option.bind_some, tquote_loop _ _ (by simp; omega), Option.bind_some]
 simp only [Ab.on]
 rw [show (34 : Int) = (((34 : UInt8).toNat : Nat) : Int) from rfl, wb_eq _ _ (by simp only [List.length_append, List.length_cons, List.length_nil]; omega), Option.bind_some, str_eq _ (by simp)]
 simp [qt]
end Go.Proofs

namespace Go.Proofs
open Go Go.Ab
def pcs : List R04_Token → List Bs
 | [] => []
 | t :: r => if t.FKind = 5 then pcs r else (if t.FKind = 4 then qt t.FText else t.FText) :: pcs r
def Short (l : List R04_Token) : Prop := ∀ t ∈ l, t.FText.length ≤ 1048576
theorem Short.tail {t : R04_Token} {r : List R04_Token} (h : Short (t :: r)) : Short r := by
 intro x hx
 exact h x (List.mem_cons_of_mem _ hx)
theorem Short.head {t : R04_Token} {r : List R04_Token} (h : Short (t :: r)) : t.FText.length ≤ 1048576 := by
 exact h t List.mem_cons_self
theorem pc_len {t : R04_Token} (h : t.FText.length ≤ 1048576) : (if t.FKind = 4 then qt t.FText else t.FText).length ≤ 6291458 := by
 split
 ·have := qt_len t.FText; omega
 ·omega
theorem tail_len : ∀ l : List R04_Token, Short l → (Lib.joinTail [32] (pcs l)).length ≤ l.length * 6291459
 | [], _ => by simp [pcs, Lib.joinTail]
 | t :: r, h => by
  have ih := tail_len r h.tail
  have hp := pc_len h.head
  rw [pcs]
  split
  ·rw [List.length_cons, Nat.succ_mul]; exact Nat.le_trans ih (Nat.le_add_right _ _)
  ·unfold Lib.joinTail at ih ⊢
   simp only [List.map_cons, List.flatten_cons, List.length_append, List.length_cons, List.length_nil]
   rw [Nat.succ_mul]
   generalize r.length * 6291459 = m at *
   omega
theorem join_len : ∀ l : List R04_Token, Short l → (Lib.join (pcs l) [32]).length ≤ l.length * 6291459
 | [], _ => by simp [pcs, Lib.join_nil]
 | t :: r, h => by
  have hp := pc_len h.head
  have ht := tail_len r h.tail
  have ih := join_len r h.tail
  rw [pcs]
  split
  ·rw [List.length_cons, Nat.succ_mul]; exact Nat.le_trans ih (Nat.le_add_right _ _)
  ·rw [Lib.join_cons]; simp only [List.length_append, List.length_cons]
   rw [Nat.succ_mul]
   generalize r.length * 6291459 = m at *
   omega
theorem split_b {o m : Nat} (hb : o + (m + 6291459) ≤ 1099511627776) : o + 6291459 ≤ 1099511627776 ∧ ∀ k, k ≤ o + 6291459 → k + m ≤ 1099511627776 :=
 ⟨Nat.le_trans (Nat.add_le_add_left (Nat.le_add_left _ m) o) hb, fun k hk => Nat.le_trans (Nat.add_le_add_right hk m) (by rw [Nat.add_assoc, Nat.add_comm 6291459 m]; exact hb)⟩
theorem le3 {a b o : Nat} (h : a ≤ o + 1) (h2 : b ≤ 6291458) (hb : o + 6291459 ≤ 1099511627776) : a + b ≤ 1152921504606846976 := by
 have h3 : a + b ≤ (o + 1) + 6291458 := Nat.add_le_add h h2
 rw [Nat.add_assoc] at h3
 exact Nat.le_trans h3 (Nat.le_trans hb (Nat.le_of_ble_eq_true rfl))
theorem rprint_loop : ∀ (l : List R04_Token) (o : Bs) (b : Bool), Short l → o.length + l.length * 6291459 ≤ 1099511627776 → Z21_q8 l o b = some (o ++ bif b then Lib.join (pcs l) [32] else Lib.joinTail [32] (pcs l))
 | [], o, b, _, _ => by rw [Z21_q8]; cases b <;> simp [pcs, Lib.join_nil, Lib.joinTail]
 | t :: r, o, b, h, hb => by
  have hr : Short r := h.tail
  have ht := h.head
  have hp := pc_len ht
  have hq := qt_len t.FText
  rw [List.length_cons, Nat.succ_mul] at hb
  obtain ⟨hb1, hb2⟩ := split_b hb
  clear hb
  have key : ∀ (o' : Bs), o'.length ≤ o.length + 1 → (bif decide (t.FKind = 4) then (Z12_q t.FText).bind fun x30 => (catC o' x30).bind fun x31 => some (x31, false) else (catC o' t.FText).bind fun x33 => some (x33, false)) = some (o' ++ (if t.FKind = 4 then qt t.FText else t.FText), false) := by
   intro o' ho
   by_cases h4 : t.FKind = 4
   ·rw [decide_eq_true h4, cond_true, rquote_eq _ ht, Option.bind_some, catC_ok (le3 ho (by omega) hb1), if_pos h4]; rfl
   ·rw [decide_eq_false h4, cond_false, catC_ok (le3 ho (by omega) hb1), if_neg h4]; rfl
  rw [Z21_q8, pcs]
  simp only [Ab.on]
  by_cases h5 : t.FKind = 5
  ·rw [decide_eq_true h5, cond_true, Option.bind_some, if_pos h5]
   exact rprint_loop r o b hr (hb2 _ (by omega))
  ·rw [decide_eq_false h5, cond_false, if_neg h5]
   cases b
   ·rw [Bool.not_false, cond_true, cond_false, catC_ok (le3 (Nat.le_add_right _ 1) (show ([32] : Bs).length ≤ _ by decide) hb1), Option.bind_some, Option.bind_some, key _ (by simp), Option.bind_some]
    rw [rprint_loop r _ false hr (hb2 _ (by simp only [List.length_append, List.length_cons, List.length_nil]; omega))]
    simp [Lib.joinTail]
   ·rw [Bool.not_true, cond_false, cond_true, Option.bind_some, key o (by omega), Option.bind_some]
    rw [rprint_loop r _ false hr (hb2 _ (by simp only [List.length_append]; omega)), Lib.join_cons]
    simp
theorem rprint_eq {s : Sl R04_Token} (h : Short s.l) (hl : s.l.length ≤ 70000) : Z21 s = some (Lib.join (pcs s.l) [32]) := by
 rw [Z21_eq]
 unfold Z21_q
 rw [rprint_loop s.l [] true h (by simp; omega)]
 rfl
theorem tprint_loop : ∀ (l : List Token_Token) (A : Sl Bs), Short (l.map cvT) → A.l.length + l.length ≤ 1048576 → ∃ B, Z47_q9 l A = some B ∧ B.l = A.l ++ pcs (l.map cvT)
 | [], A, _, _ => ⟨A, rfl, by simp [pcs]⟩
 | t :: r, A, h, hb => by
  have hr : Short (r.map cvT) := h.tail
  have ht : t.FText.length ≤ 1048576 := h.head
  simp only [List.length_cons] at hb
  rw [Z47_q9, List.map_cons, pcs]
  simp only [Ab.on]
  by_cases h5 : t.FKind = 5
  ·rw [decide_eq_true h5, cond_true, Option.bind_some, if_pos (show (cvT t).FKind = 5 from h5)]
   exact tprint_loop r A hr (by omega)
  ·rw [decide_eq_false h5, cond_false, if_neg (show ¬ (cvT t).FKind = 5 from h5)]
   by_cases h4 : t.FKind = 4
   ·rw [decide_eq_true h4, cond_true, tquote_eq _ ht, Option.bind_some, appC_ok (by decide) (by simp only [List.length_cons, List.length_nil]; omega), Option.bind_some, Option.bind_some, if_pos (show (cvT t).FKind = 4 from h4)]
    obtain ⟨B, h1, h2⟩ := tprint_loop r ⟨A.nl && false, A.l ++ [qt t.FText]⟩ hr (by simp; omega)
    exact ⟨B, h1, by rw [h2]; simp [cvT]⟩
   ·rw [decide_eq_false h4, cond_false, appC_ok (by decide) (by simp only [List.length_cons, List.length_nil]; omega), Option.bind_some, Option.bind_some, if_neg (show ¬ (cvT t).FKind = 4 from h4)]
    obtain ⟨B, h1, h2⟩ := tprint_loop r ⟨A.nl && false, A.l ++ [t.FText]⟩ hr (by simp; omega)
    exact ⟨B, h1, by rw [h2]; simp [cvT]⟩
theorem pcs_len : ∀ l : List R04_Token, (pcs l).length ≤ l.length
 | [] => by simp [pcs]
 | t :: r => by have := pcs_len r; rw [pcs]; split <;> simp <;> omega
theorem tprint_eq {s : Sl Token_Token} (h : Short (cvS s).l) (hl : s.l.length ≤ 70000) : Z47 s = some (Lib.join (pcs (cvS s).l) [32]) := by
 rw [Z47_eq]
 unfold Z47_q
 obtain ⟨B, h1, h2⟩ := tprint_loop s.l Sl.nil h (by simp [Sl.nil]; omega)
 rw [h1, Option.bind_some]
 simp only [Ab.on]
 have hB : B.l = pcs (cvS s).l := by rw [h2]; rfl
 have hj := join_len (cvS s).l h
 have hp := pcs_len (cvS s).l
 have hc : (cvS s).l.length = s.l.length := by simp [cvS]
 rw [show Z41_q B [32] = joinA B [32] from rfl]
 unfold joinA
 rw [hB, if_pos ⟨by unfold maxN; omega, by unfold maxN; omega⟩]
 rfl
theorem prints_loop (a : Sl R04_Token) (ha : a.l.length ≤ 200) : ∀ (n : Nat) (A : Sl Token_Token) (i : Nat), A.l.map cvT = a.l.take i → i ≤ a.l.length → a.l.length - i < n → (∀ t ∈ a.l.take i, t.FText.length ≤ 200) → Z3_l16 a n A i = some true
 | 0, _, _, _, _, h, _ => by omega
 | n + 1, A, i, hA, hi, hn, hs => by
  have hAl : A.l.length = i := by
   have := congrArg List.length hA
   simpa [Nat.min_eq_left hi] using this
  rw [Z3_l16]
  by_cases hlt : i < a.l.length
  ·obtain ⟨t, ht⟩ : ∃ t, a.l[i]? = some t := ⟨_, List.getElem?_eq_getElem hlt⟩
   have htk : a.l.take (i + 1) = a.l.take i ++ [t] := by rw [List.take_add_one, ht]; rfl
   rw [show decide (((i : Nat) : Int) < ((a.l.length : Nat) : Int)) = true from decide_eq_true (by omega), cond_true, ht, Option.bind_some]
   by_cases h2 : t.FText.length ≤ 200
   ·rw [show decide ((200 : Int) < ((t.FText.length : Nat) : Int)) = false from decide_eq_false (by omega), cond_false, Option.bind_some, Option.bind_some, Option.bind_some, app_one (by omega), Option.bind_some]
    refine prints_loop a ha n _ (i + 1) ?_ (by omega) (by omega) ?_
    ·rw [htk, ← hA]; simp [cvT]
    ·intro x hx
     rw [htk] at hx
     rcases List.mem_append.1 hx with hx | hx
     ·exact hs x hx
     ·rw [List.mem_singleton.1 hx]; exact h2
   ·rw [show decide ((200 : Int) < ((t.FText.length : Nat) : Int)) = true from decide_eq_true (by omega), cond_true, example04]; rfl
  ·rw [show decide (((i : Nat) : Int) < ((a.l.length : Nat) : Int)) = false from decide_eq_false (by omega), cond_false]
   have he : (cvS A).l = a.l := by rw [show (cvS A).l = A.l.map cvT from rfl, hA, List.take_of_length_le (by omega)]
   rw [List.take_of_length_le (by omega)] at hs
   have hsh : Short a.l := fun t ht => by have := hs t ht; omega
   unfold Z3_j9
   rw [tprint_eq (by rw [he]; exact hsh) (by omega), rprint_eq hsh (by omega), he, Option.bind_some, Option.bind_some, example04]
   simp [guardO]
theorem tokenPrints_true (a : Sl R04_Token) : Z3 a = some true := by
 unfold Z3
 by_cases h : a.l.length ≤ 200
 ·rw [show decide ((200 : Int) < ((a.l.length : Nat) : Int)) = false from decide_eq_false (by omega), cond_false]
  exact prints_loop a h _ Sl.nil 0 rfl (by omega) (by omega) (by simp)
 ·rw [show decide ((200 : Int) < ((a.l.length : Nat) : Int)) = true from decide_eq_true (by omega), cond_true, example04]; rfl
end Go.Proofs

namespace Go.Proofs
open Go Go.Ab
def unqF (s : Bs) : Option Bs := match Z45 s with
 | some (r, e) => if e = 0 then some r else none
 | none => none
def tokF : Bs → Option (Int × Bs × Nat)
 | [] => none
 | c :: r =>
  if sgV ((c.toNat : Nat) : Int) = true then some (1, [c], 1)
  else if ((c.toNat : Nat) : Int) = 46 then (if (c :: r).take 3 = [46, 46, 46] then some (1, [46, 46, 46], 3) else none)
  else if isL c = true then (if 64 < wordN (c :: r) then none else some (2, (c :: r).take (wordN (c :: r)), wordN (c :: r)))
  else if isD c = true ∨ ((c.toNat : Nat) : Int) = 45 then (if numE ((c :: r).take (1 + wordN r)) = 0 then some (3, (c :: r).take (1 + wordN r), 1 + wordN r) else none)
  else if ((c.toNat : Nat) : Int) = 34 then (match litN false r with
   | none => none
   | some k => match unqF ((c :: r).take (1 + k)) with
    | none => none
    | some t => some (4, t, 1 + k))
  else none
theorem unqF_eq {s : Bs} (hs : s.length ≤ 1048576) : ∃ r e, Z45 s = some (r, e) ∧ Z13 s = some (r, e) ∧ r.length ≤ s.length ∧ unqF s = if e = 0 then some r else none := by
 obtain ⟨r, e, h1, h2, h3⟩ := unquote_eq hs
 refine ⟨r, e, h1, h2, h3, ?_⟩
 unfold unqF
 rw [h1]
def Rd1 (s : Bs) (i : Nat) : Prop := (∃ k t w, tokF (s.drop i) = some (k, t, w) ∧ Z51 s (i : Int) = some (⟨k, t, (i : Int)⟩, ((i + w : Nat) : Int), 0)) ∨ (tokF (s.drop i) = none ∧ ∃ t j e, Z51 s (i : Int) = some (t, j, e) ∧ e ≠ 0)
theorem read_spec {s : Bs} (hs : s.length ≤ 1048576) {i : Nat} (hi : i < s.length) : Rd1 s i := by
 obtain ⟨c, hc⟩ : ∃ c, s[i]? = some c := ⟨_, List.getElem?_eq_getElem hi⟩
 have hlt := c.toNat_lt
 have one : addC (i : Int) 1 = some (((i + 1 : Nat)) : Int) := add_nat (k := 1) (by omega) (by omega)
 have three : addC (i : Int) 3 = some (((i + 3 : Nat)) : Int) := add_nat (k := 3) (by omega) (by omega)
 have hd := drop_cons hc
 unfold Rd1
 rw [hd]
 unfold Z51 tokF
 rw [idxC_nat, hc]
 simp only [Option.bind_some, wrap32]
 rw [(sg_at c).2, Option.bind_some]
 cases hsg : sgV ((c.toNat : Nat) : Int)
 ·rw [cond_false, if_neg (by decide)]
  by_cases h46 : ((c.toNat : Nat) : Int) = 46
  ·have hcut : cutC s (some (i : Int)) none = some (s.drop i) := cut_from (by omega)
   rw [decide_eq_true h46, cond_true, hcut, Option.bind_some, Z37_eq, Option.bind_some, three, if_pos h46]
   have hp : Z37_q (s.drop i) ([46, 46, 46] : Bs) = (decide (i + 3 ≤ s.length) && (List.take 3 (s.drop i) == ([46, 46, 46] : Bs))) := by
    unfold Z37_q Z0_q
    simp only [Ab.on]
    rw [show decide (((([46, 46, 46] : Bs).length : Nat) : Int) ≤ (((s.drop i).length : Nat) : Int)) = decide (i + 3 ≤ s.length) from decide_eq_decide.2 (by simp only [List.length_cons, List.length_nil, List.length_drop]; omega)]
    cases decide (i + 3 ≤ s.length) <;> rfl
   rw [hp, hd]
   by_cases ht : List.take 3 (c :: s.drop (i + 1)) = [46, 46, 46]
   ·have h3 : i + 3 ≤ s.length := by
     have := congrArg List.length ht
     simp only [List.length_take, List.length_cons, List.length_drop, List.length_nil] at this
     omega
    left
    refine ⟨1, [46, 46, 46], 3, by rw [if_pos ht], ?_⟩
    rw [ht, decide_eq_true h3]; rfl
   ·right
    refine ⟨by rw [if_neg ht], ⟨0, [], 0⟩, 0, 3, ?_, show (3 : Int) ≠ 0 by decide⟩
    rw [show (List.take 3 (c :: s.drop (i + 1)) == ([46, 46, 46] : Bs)) = false by simpa using ht, Bool.and_false]; rfl
  ·rw [decide_eq_false h46, cond_false, if_neg h46, letter_eq' c, isW_eq]
   have hlet : isL c = true → ¬ ((c.toNat : Nat) : Int) = 45 ∧ isD c = false := by
    intro h
    unfold isL at h; unfold isD
    simp only [Bool.or_eq_true, Bool.and_eq_true, decide_eq_true_eq] at h
    refine ⟨by omega, ?_⟩
    rw [Bool.and_eq_false_iff, decide_eq_false_iff_not, decide_eq_false_iff_not]
    omega
   rw [show ((decide ((48 : Int) ≤ ((c.toNat : Nat) : Int))) && (decide (((c.toNat : Nat) : Int) ≤ (57 : Int)))) = isD c from rfl]
   cases hL : isL c
   ·rw [if_neg (by decide)]
    by_cases hN : isD c = true ∨ ((c.toNat : Nat) : Int) = 45
    ·rw [if_pos hN, show (decide (((c.toNat : Nat) : Int) = 45) || isD c) = true by simp only [Bool.or_eq_true, decide_eq_true_eq]; exact hN.symm]
     rw [cond_true, one, Option.bind_some, span_eq hs (by omega), Option.bind_some]
     have hw := wordN_le (s.drop (i + 1))
     simp only [List.length_drop] at hw
     rw [cut_part (by omega) (by omega), Option.bind_some, hd, show i + 1 + wordN (s.drop (i + 1)) - i = 1 + wordN (s.drop (i + 1)) by omega]
     obtain ⟨v, h1⟩ := tnum_eq (s := (c :: s.drop (i + 1)).take (1 + wordN (s.drop (i + 1)))) (by simp; omega)
     rw [h1, Option.bind_some, Option.bind_some]
     by_cases h0 : numE ((c :: s.drop (i + 1)).take (1 + wordN (s.drop (i + 1)))) = 0
     ·left
      refine ⟨3, _, _, by rw [if_pos h0], ?_⟩
      rw [h0, Nat.add_assoc]
     ·right
      exact ⟨by rw [if_neg h0], _, _, _, rfl, h0⟩
    ·rw [if_neg hN, show (decide (((c.toNat : Nat) : Int) = 45) || isD c) = false by rw [Bool.eq_false_iff]; intro h; simp only [Bool.or_eq_true, decide_eq_true_eq] at h; exact hN h.symm]
     have hD : isD c = false := by cases h : isD c; rfl; exact absurd (.inl h) hN
     rw [cond_false, hD, Bool.or_self, Option.bind_some, cond_false]
     by_cases h34 : ((c.toNat : Nat) : Int) = 34
     ·rw [if_pos h34, decide_eq_true h34, cond_true, literal_eq hs hi, Option.bind_some]
      unfold litR
      cases hl : litN false (s.drop (i + 1)) with
      | none => exact .inr ⟨rfl, ⟨0, [], 0⟩, 0, 3, rfl, by decide⟩
      | some k =>
       have hk := litN_le _ _ _ hl
       simp only [List.length_drop] at hk
       simp only
       rw [decide_eq_false (show ¬ (((i + 1 + k : Nat) : Int) < 0) by omega), cond_false, cut_part (by omega) (by omega), Option.bind_some, hd, show i + 1 + k - i = 1 + k by omega]
       obtain ⟨r, e, u1, -, -, u2⟩ := unqF_eq (s := (c :: s.drop (i + 1)).take (1 + k)) (by simp; omega)
       rw [u1, u2, Option.bind_some]
       by_cases he : e = 0
       ·subst he
        left
        refine ⟨4, r, 1 + k, by rw [if_pos rfl], ?_⟩
        rw [Nat.add_assoc]
       ·right
        exact ⟨by rw [if_neg he], _, _, _, rfl, he⟩
     ·rw [if_neg h34, decide_eq_false h34, cond_false]
      exact .inr ⟨rfl, ⟨0, [], 0⟩, 0, 3, rfl, by decide⟩
   ·obtain ⟨h45, hD⟩ := hlet hL
    have hw := wordN_le (s.drop i)
    simp only [List.length_drop] at hw
    rw [decide_eq_false h45, hD, Bool.or_self, cond_false, Bool.or_false, Option.bind_some, cond_true, span_eq hs (by omega), Option.bind_some, subC_ok (by omega), Option.bind_some, if_pos rfl, hd] at *
    by_cases h64 : 64 < wordN (c :: s.drop (i + 1))
    ·rw [if_pos h64, decide_eq_true (show (64 : Int) < ((i + wordN (c :: s.drop (i + 1)) : Nat) : Int) - (i : Int) by omega)]
     exact .inr ⟨rfl, ⟨0, [], 0⟩, 0, 3, rfl, by decide⟩
    ·rw [if_neg h64, decide_eq_false (show ¬ (64 : Int) < ((i + wordN (c :: s.drop (i + 1)) : Nat) : Int) - (i : Int) by omega), cond_false, cut_part (by omega) (by omega), Option.bind_some, hd, show i + wordN (c :: s.drop (i + 1)) - i = wordN (c :: s.drop (i + 1)) by omega]
     exact .inl ⟨_, _, _, rfl, by rw [drop_cons hc]⟩
 ·rw [cond_true, if_pos rfl, one, Option.bind_some, cut_part (by omega) (by omega), Option.bind_some, hd, show i + 1 - i = 1 by omega]
  exact .inl ⟨_, _, _, rfl, rfl⟩
end Go.Proofs

namespace Go.Proofs
open Go Go.Ab
theorem litN_le' {r : Bs} {k : Nat} (h : litN false r = some k) : k ≤ r.length := (litN_le _ _ _ h).2
theorem tokF_ok {r : Bs} (hr : r.length ≤ 1048576) {k : Int} {t : Bs} {w : Nat} (h : tokF r = some (k, t, w)) : 1 ≤ w ∧ w ≤ r.length ∧ 1 ≤ k ∧ k ≤ 4 ∧ (k ≠ 4 → t = r.take w) ∧ (k = 4 → r.head? = some 34) ∧ t.length ≤ w := by
 cases r with
 | nil => cases h
 | cons c q =>
  rw [tokF] at h
  simp only [List.length_cons] at hr ⊢
  split at h
  ·cases h; exact ⟨by omega, by omega, by omega, by omega, fun _ => rfl, fun h => absurd h (by decide), by simp⟩
  split at h
  ·split at h
   ·rename_i h3
    cases h
    have := congrArg List.length h3
    simp only [List.length_take, List.length_cons, List.length_nil] at this
    exact ⟨by omega, by omega, by omega, by omega, fun _ => h3.symm, fun h => absurd h (by decide), by simp⟩
   ·cases h
  split at h
  ·rename_i hL
   split at h
   ·cases h
   ·cases h
    have h1 := wordN_le (c :: q)
    simp only [List.length_cons] at h1
    have h2 : 1 ≤ wordN (c :: q) := by rw [wordN_cons, isW_eq, hL]; simp only [Bool.true_or, cond_true]; omega
    exact ⟨h2, h1, by omega, by omega, fun _ => rfl, fun h => absurd h (by decide), by simp; omega⟩
  split at h
  ·split at h
   ·cases h
    have h1 := wordN_le q
    exact ⟨by omega, by omega, by omega, by omega, fun _ => rfl, fun h => absurd h (by decide), by simp; omega⟩
   ·cases h
  split at h
  ·rename_i h34
   split at h
   ·cases h
   ·rename_i m hm
    have hk := litN_le' hm
    split at h
    ·cases h
    ·rename_i x hx
     cases h
     obtain ⟨r, e, -, -, h3, h4⟩ := unqF_eq (s := (c :: q).take (1 + m)) (by simp; omega)
     rw [hx] at h4
     split at h4
     ·cases h4
      refine ⟨by omega, by omega, by omega, by omega, fun h => absurd rfl h, fun _ => ?_, ?_⟩
      ·have : c = 34 := by rw [← UInt8.toNat_inj]; show c.toNat = 34; omega
       rw [this]; rfl
      ·simp only [List.length_take, List.length_cons] at h3; omega
     ·cases h4
  ·cases h
def scT : Nat → Bs → Option (List (Int × Bs × Nat))
 | 0, _ => none
 | n + 1, r => if r = [] then some [(5, [], 0)] else match tokF r with
  | none => none
  | some (k, t, w) => (scT n ((r.drop w).drop (skN false (r.drop w)))).map ((k, t, r.length) :: ·)
def scF (s : Bs) : Option (List (Int × Bs × Nat)) := scT F0 (s.drop (skN false s))
def tkO (n : Nat) (x : Int × Bs × Nat) : Token_Token := ⟨x.1, x.2.1, ((n - x.2.2 : Nat) : Int)⟩
theorem scan_spec_loop (s : Bs) (hs : s.length ≤ 1048575) : ∀ (n i : Nat) (A : Sl Token_Token), A.l.length ≤ i → i ≤ s.length → s.length - i < n →
  (∃ L, scT n (s.drop i) = some L ∧ Z48_l15 s n A (i : Int) = some (⟨false, A.l ++ L.map (tkO s.length)⟩, 0, 0) ∧ L.length ≤ s.length - i + 1) ∨ (scT n (s.drop i) = none ∧ ∃ p e, Z48_l15 s n A (i : Int) = some (Sl.nil, p, e) ∧ e ≠ 0)
 | 0, _, _, _, _, h => by omega
 | n + 1, i, A, hA, hi, hn => by
  rw [Z48_l15, scT]
  by_cases hlt : i < s.length
  ·have hne : s.drop i ≠ [] := by
    intro h
    have := congrArg List.length h
    simp only [List.length_drop, List.length_nil] at this; omega
   rw [show decide ((i : Int) < ((s.length : Nat) : Int)) = true from decide_eq_true (by omega), cond_true, if_neg hne]
   rcases read_spec (s := s) (by omega) hlt with ⟨k, t, w, h1, h2⟩ | ⟨h1, t, j, e, h2, h3⟩
   ·obtain ⟨o1, o2, -⟩ := tokF_ok (by simp; omega) h1
    simp only [List.length_drop] at o2
    rw [h1, h2, Option.bind_some]
    have hk := skN_le false (s.drop (i + w))
    simp only [List.length_drop] at hk
    rw [show (!decide (((0 : Int)) = 0)) = false from rfl, cond_false, app_one (by omega), Option.bind_some, skip_eq (by omega) (by omega), Option.bind_some]
    have hdd : (s.drop i).drop w = s.drop (i + w) := List.drop_drop
    simp only [hdd]
    rw [show (s.drop (i + w)).drop (skN false (s.drop (i + w))) = s.drop (i + w + skN false (s.drop (i + w))) from List.drop_drop]
    rcases scan_spec_loop s hs n (i + w + skN false (s.drop (i + w))) ⟨false, A.l ++ [⟨k, t, (i : Int)⟩]⟩ (by simp; omega) (by omega) (by omega) with ⟨L, g1, g2, g3⟩ | ⟨g1, p, e, g2, g3⟩
    ·left
     refine ⟨(k, t, (s.drop i).length) :: L, by rw [g1]; rfl, ?_, by simp only [List.length_cons]; omega⟩
     rw [g2]
     have : tkO s.length (k, t, (s.drop i).length) = ⟨k, t, (i : Int)⟩ := by
      unfold tkO
      simp only [List.length_drop]
      rw [show s.length - (s.length - i) = i by omega]
     rw [List.map_cons, this]
     simp
    ·right
     exact ⟨by rw [g1]; rfl, p, e, g2, g3⟩
   ·rw [h1, h2, Option.bind_some, show (!decide (e = 0)) = true by simpa using h3, cond_true]
    exact .inr ⟨rfl, _, _, rfl, h3⟩
  ·rw [show decide ((i : Int) < ((s.length : Nat) : Int)) = false from decide_eq_false (by omega), cond_false, if_pos (List.drop_eq_nil_of_le (by omega))]
   unfold Z48_j8
   rw [app_one (by omega)]
   exact .inl ⟨_, rfl, rfl, by simp⟩
theorem scan_spec {s : Bs} (hs : s.length ≤ 65536) : (∃ L, scF s = some L ∧ Z48 s = some (⟨false, L.map (tkO s.length)⟩, 0, 0) ∧ L.length ≤ s.length + 1) ∨ (scF s = none ∧ ∃ p e, Z48 s = some (Sl.nil, p, e) ∧ e ≠ 0) := by
 unfold Z48 scF
 rw [show decide ((65536 : Int) < ((s.length : Nat) : Int)) = false from decide_eq_false (by omega), cond_false]
 have k1 := skip_eq (s := s) (i := 0) (by omega) (by omega)
 have hk := skN_le false s
 rw [show (((0 : Nat) : Int)) = 0 from rfl, List.drop_zero, Nat.zero_add] at k1
 rw [k1, Option.bind_some]
 rcases scan_spec_loop s (by omega) F0 (skN false s) ⟨true, []⟩ (by simp) (by omega) (by rw [F0_eq]; omega) with ⟨L, h1, h2, h3⟩ | h
 ·exact .inl ⟨L, h1, by rw [show (Sl.nil : Sl Token_Token) = ⟨true, []⟩ from rfl, h2]; rfl, by omega⟩
 ·exact .inr h
def PlL (s : Bs) : List (Int × Bs × Nat) → Prop
 | [] => False
 | (k, t, m) :: L => match L with
  | [] => k = 5 ∧ m = 0
  | (_, _, m') :: _ => k ≠ 5 ∧ m' < m ∧ m ≤ s.length ∧ (k = 4 → (s.drop (s.length - m)).head? = some 34) ∧ (k ≠ 4 → t.length ≤ m ∧ t = (s.drop (s.length - m)).take t.length) ∧ PlL s L
theorem suffix_drop {s : Bs} {m i : Nat} (h : i ≤ s.length) (hm : (s.drop i).length = m) : s.drop (s.length - m) = s.drop i := by
 simp only [List.length_drop] at hm
 rw [show s.length - m = i by omega]
theorem scT_head {n : Nat} {r : Bs} {L : List (Int × Bs × Nat)} (h : scT n r = some L) : ∃ k t L', L = (k, t, r.length) :: L' := by
 cases n with
 | zero => cases h
 | succ n =>
  rw [scT] at h
  split at h
  ·rename_i hr; subst hr; cases h; exact ⟨_, _, _, rfl⟩
  ·split at h
   ·cases h
   ·obtain ⟨L', -, rfl⟩ := Option.map_eq_some_iff.1 h
    exact ⟨_, _, _, rfl⟩
theorem scT_pl (s : Bs) (hs : s.length ≤ 1048576) : ∀ (n i : Nat) (L : List (Int × Bs × Nat)), i ≤ s.length → scT n (s.drop i) = some L → PlL s L
 | 0, _, _, _, h => by cases h
 | n + 1, i, L, hi, h => by
  rw [scT] at h
  split at h
  ·cases h; exact ⟨rfl, rfl⟩
  ·split at h
   ·cases h
   ·rename_i k t w ht
    obtain ⟨L', h1, rfl⟩ := Option.map_eq_some_iff.1 h
    obtain ⟨o1, o2, o3, o4, o5, o6, o7⟩ := tokF_ok (by simp; omega) ht
    have hk := skN_le false ((s.drop i).drop w)
    simp only [List.length_drop] at hk o2
    have hdd : ((s.drop i).drop w).drop (skN false ((s.drop i).drop w)) = s.drop (i + w + skN false ((s.drop i).drop w)) := by rw [List.drop_drop, List.drop_drop, Nat.add_assoc]
    rw [hdd] at h1
    have ih := scT_pl s hs n _ L' (by omega) h1
    obtain ⟨k', t', L'', rfl⟩ := scT_head h1
    have hsd := suffix_drop hi rfl
    refine ⟨by omega, ?_, by simp, ?_, ?_, ih⟩
    ·simp only [List.length_drop]; omega
    ·intro h4; rw [hsd]; exact o6 h4
    ·intro h4
     rw [hsd]
     have := o5 h4
     refine ⟨by simp only [List.length_drop]; omega, ?_⟩
     have hl : t.length = w := by rw [this]; simp; omega
     rw [hl]; exact this
theorem pl_get {s : Bs} : ∀ (L : List (Int × Bs × Nat)) (q : Nat), PlL s L → q + 1 < L.length → ∃ k t m k' t' m', L[q]? = some (k, t, m) ∧ L[q + 1]? = some (k', t', m') ∧ k ≠ 5 ∧ m' < m ∧ m ≤ s.length ∧ (k = 4 → (s.drop (s.length - m)).head? = some 34) ∧ (k ≠ 4 → t.length ≤ m ∧ t = (s.drop (s.length - m)).take t.length)
 | [], _, _, h => by simp at h
 | [x], _, _, h => by simp at h
 | (k, t, m) :: (k', t', m') :: L, 0, h, _ => by
  obtain ⟨h1, h2, h3, h4, h5, -⟩ := h
  exact ⟨k, t, m, k', t', m', rfl, rfl, h1, h2, h3, h4, h5⟩
 | (k, t, m) :: (k', t', m') :: L, q + 1, h, hq => by
  obtain ⟨-, -, -, -, -, h6⟩ := h
  obtain ⟨a, b, c, d, e, f, g⟩ := pl_get ((k', t', m') :: L) q h6 (by simpa using hq)
  exact ⟨a, b, c, d, e, f, by simpa using g⟩
theorem pl_last {s : Bs} : ∀ (L : List (Int × Bs × Nat)), PlL s L → 1 ≤ L.length ∧ ∃ t, L[L.length - 1]? = some (5, t, 0)
 | [], h => by cases h
 | [(k, t, m)], h => by obtain ⟨rfl, rfl⟩ := h; exact ⟨by simp, t, rfl⟩
 | (k, t, m) :: (k', t', m') :: L, h => by
  obtain ⟨-, -, -, -, -, h6⟩ := h
  obtain ⟨-, t2, h2⟩ := pl_last ((k', t', m') :: L) h6
  exact ⟨by simp, t2, by simpa using h2⟩
theorem map_get {n : Nat} {L : List (Int × Bs × Nat)} {q : Nat} {x : Int × Bs × Nat} (h : L[q]? = some x) : (L.map (tkO n))[q]? = some (tkO n x) := by rw [List.getElem?_map, h]; rfl
theorem places_loop (s : Bs) (hs : s.length ≤ 1048576) (L : List (Int × Bs × Nat)) (hL : PlL s L) (hLl : L.length ≤ 1048577) (x : (Sl Token_Token) × Int × Int) (hx : x.1.l = L.map (tkO s.length)) : ∀ (n q : Nat), q + 1 ≤ L.length → L.length - q < n → Z2_l28 s x n (q : Int) = some true
 | 0, _, _, h => by omega
 | n + 1, q, hq, hn => by
  have hlen : x.1.l.length = L.length := by rw [hx, List.length_map]
  rw [Z2_l28, hlen]
  rw [show subC ((L.length : Nat) : Int) 1 = some ((L.length - 1 : Nat) : Int) by rw [subC_ok (by omega)]; exact congrArg some (by omega), Option.bind_some]
  by_cases hlt : q + 1 < L.length
  ·rw [show decide ((q : Int) < ((L.length - 1 : Nat) : Int)) = true from decide_eq_true (by omega), cond_true, idxC_nat]
   obtain ⟨k, t, m, k', t', m', g1, g2, g3, g4, g5, g6, g7⟩ := pl_get L q hL hlt
   rw [hx, map_get g1, Option.bind_some]
   have hA : (tkO s.length (k, t, m)).FAt = ((s.length - m : Nat) : Int) := rfl
   have hK : (tkO s.length (k, t, m)).FKind = k := rfl
   have hT : (tkO s.length (k, t, m)).FText = t := rfl
   rw [hA, hK, hT]
   rw [show decide (((s.length - m : Nat) : Int) < 0) = false from decide_eq_false (by omega), show decide (((s.length : Nat) : Int) ≤ ((s.length - m : Nat) : Int)) = false from decide_eq_false (by omega)]
   have hk5 : decide (k = 5) = false := decide_eq_false g3
   rw [Bool.or_self, hk5]
   have hgo : ∀ y : Token_Token, (0 < q → y.FAt < ((s.length - m : Nat) : Int)) → (decide ((0 : Int) < (q : Int)) && decide (((s.length - m : Nat) : Int) ≤ y.FAt)) = false := by
    intro y hy
    by_cases h0 : 0 < q
    ·rw [Bool.and_eq_false_iff]; right; exact decide_eq_false (by have := hy h0; omega)
    ·rw [Bool.and_eq_false_iff]; left; exact decide_eq_false (by omega)
   have one : addC (q : Int) 1 = some (((q + 1 : Nat)) : Int) := add_nat (k := 1) (by omega) (by omega)
   have fin : ∀ y : Token_Token, (0 < q → y.FAt < ((s.length - m : Nat) : Int)) → ∀ z, (bif false || decide ((0 : Int) < (q : Int)) && decide (((s.length - m : Nat) : Int) ≤ y.FAt) || false then some false else z) = (z : Option Bool) := by
    intro y hy z
    rw [hgo y hy]; rfl
   have ih := places_loop s hs L hL hLl x hx n (q + 1) (by omega) (by omega)
   have rest : (guardO (decide (k = 4)) (idxC s ((s.length - m : Nat) : Int)) (0 : UInt8) fun x45 => guardO ((!(decide (k = 4) && !decide (((x45.toNat : Nat) : Int) = 34)) && !decide (k = 4))) (addC ((s.length - m : Nat) : Int) ((t.length : Nat) : Int)) (0 : Int) fun x46 => guardO ((!(decide (k = 4) && !decide (((x45.toNat : Nat) : Int) = 34)) && !decide (k = 4)) && !decide (((s.length : Nat) : Int) < x46)) (addC ((s.length - m : Nat) : Int) ((t.length : Nat) : Int)) (0 : Int) fun x47 => guardO ((!(decide (k = 4) && !decide (((x45.toNat : Nat) : Int) = 34)) && !decide (k = 4)) && !decide (((s.length : Nat) : Int) < x46)) (cutC s (some ((s.length - m : Nat) : Int)) (some x47)) ([] : Bs) fun x48 => bif (decide (k = 4) && !decide (((x45.toNat : Nat) : Int) = 34)) || (!decide (k = 4) && (decide (((s.length : Nat) : Int) < x46) || !(x48 == t))) then some false else ((addC (q : Int) 1).bind fun x51 => Z2_l28 s x n x51)) = some true := by
    rw [one]
    by_cases h4 : k = 4
    ·have hd := g6 h4
     have hc : s[s.length - m]? = some 34 := by rw [List.head?_drop] at hd; exact hd
     rw [decide_eq_true h4, idxC_nat, hc]
     simp only [guardO, if_true, Option.bind_some, Bool.true_and, Bool.not_true, Bool.false_and, Bool.and_false]
     rw [show (decide (((((34 : UInt8)).toNat : Nat) : Int) = 34)) = true from rfl]
     exact ih
    ·obtain ⟨h1, h2⟩ := g7 h4
     rw [decide_eq_false h4]
     have ha : addC ((s.length - m : Nat) : Int) ((t.length : Nat) : Int) = some ((s.length - m + t.length : Nat) : Int) := add_nat (by omega) (by omega)
     simp only [guardO, Bool.false_and, Bool.not_false, Bool.and_true, if_true, Bool.true_and, Bool.false_or]
     rw [if_neg (by decide), ha, Option.bind_some, show decide (((s.length : Nat) : Int) < ((s.length - m + t.length : Nat) : Int)) = false from decide_eq_false (by omega)]
     simp only [Bool.not_false, if_true, Option.bind_some, Bool.false_or]
     rw [cut_part (by omega) (by omega), Option.bind_some, show s.length - m + t.length - (s.length - m) = t.length by omega, ← h2]
     rw [show (t == t) = true by simp]
     exact ih
   by_cases h0 : 0 < q
   ·obtain ⟨ka, ta, ma, a, b, c, p1, p2, p3, p4, p5, -⟩ := pl_get L (q - 1) hL (by omega)
    rw [show q - 1 + 1 = q by omega, g1] at p2
    obtain ⟨rfl, rfl, rfl⟩ : a = k ∧ b = t ∧ c = m := by cases p2; exact ⟨rfl, rfl, rfl⟩
    rw [show decide ((0 : Int) < (q : Int)) = true from decide_eq_true (by omega)]
    rw [show subC (q : Int) 1 = some ((q - 1 : Nat) : Int) by rw [subC_ok (by omega)]; exact congrArg some (by omega)]
    simp only [guardO, Bool.not_false, Bool.and_self, if_true, Option.bind_some]
    rw [idxC_nat, map_get p1, Option.bind_some]
    rw [show decide (((s.length - c : Nat) : Int) ≤ (tkO s.length (ka, ta, ma)).FAt) = false from decide_eq_false (by show ¬ (((s.length - c : Nat) : Int) ≤ ((s.length - ma : Nat) : Int)); omega)]
    exact rest
   ·rw [show decide ((0 : Int) < (q : Int)) = false from decide_eq_false (by omega)]
    exact rest
  ·rw [show decide ((q : Int) < ((L.length - 1 : Nat) : Int)) = false from decide_eq_false (by omega), cond_false]
   unfold Z2_j24
   rw [example04]; rfl
theorem tokenPlaces_true (s : Bs) : Z2 s = some true := by
 unfold Z2
 rw [show Z8 s = some (Z8_q s) from rfl, Option.bind_some, example04]
 cases hlong : Z8_q s
 ·rw [cond_false]
  by_cases h6 : s.length ≤ 65536
  ·rcases scan_spec h6 with ⟨L, h1, h2, h3⟩ | ⟨h1, p, e, h2, h3⟩
   ·have hk := skN_le false s
    have hp : PlL s L := scT_pl s (by omega) F0 (skN false s) L (by omega) h1
    obtain ⟨l1, t, l2⟩ := pl_last L hp
    rw [h2, Option.bind_some]
    simp only [List.length_map]
    simp only [decide_true, Bool.not_true, cond_false]
    rw [show decide (((L.length : Nat) : Int) < 1) = false from decide_eq_false (by omega)]
    rw [show subC ((L.length : Nat) : Int) 1 = some ((L.length - 1 : Nat) : Int) by rw [subC_ok (by omega)]; exact congrArg some (by omega)]
    simp only [guardO, Bool.not_false, if_true, Option.bind_some, Bool.false_or, idxC_nat, map_get l2]
    rw [show (tkO s.length (5, t, 0)).FKind = 5 from rfl, show (tkO s.length (5, t, 0)).FAt = ((s.length : Nat) : Int) from rfl]
    rw [show (decide ((5 : Int) = 5)) = true from rfl, show decide (((s.length : Nat) : Int) = ((s.length : Nat) : Int)) = true from decide_eq_true rfl]
    simp only [Bool.not_true, Bool.not_false, if_true, Option.bind_some, Bool.or_self, cond_false]
    exact places_loop s (by omega) L hp (by omega) _ rfl F0 0 (by omega) (by rw [F0_eq]; omega)
   ·rw [h2, Option.bind_some, show (!decide (e = 0)) = true by simpa using h3]; rfl
  ·have : Z48 s = some (Sl.nil, 65536, 4) := by
    unfold Z48
    rw [show decide ((65536 : Int) < ((s.length : Nat) : Int)) = true from decide_eq_true (by omega)]; rfl
   rw [this]; rfl
 ·rfl
end Go.Proofs

namespace Go.Proofs
open Go Go.Ab
def NW (X : Bs) : Prop := ∀ c, X.head? = some c → isW c = false
theorem wordN_nw {X : Bs} (h : NW X) : wordN X = 0 := by
 cases X with
 | nil => rfl
 | cons c r => rw [wordN_cons, h c rfl]; rfl
theorem wordN_loc {X : Bs} (hX : NW X) (b : Bs) : ∀ a : Bs, wordN (a ++ b) ≤ a.length → wordN (a ++ X) = wordN (a ++ b)
 | [], h => by
  simp only [List.nil_append, List.length_nil] at h ⊢
  rw [wordN_nw hX]; omega
 | c :: a, h => by
  simp only [List.cons_append, List.length_cons] at h ⊢
  rw [wordN_cons] at h ⊢
  rw [wordN_cons]
  cases hc : isW c
  ·rfl
  ·rw [hc] at h
   simp only [cond_true] at h ⊢
   rw [wordN_loc hX b a (by omega)]
theorem litN_loc (b X : Bs) : ∀ (a : Bs) (f : Bool) (k : Nat), litN f (a ++ b) = some k → k ≤ a.length → litN f (a ++ X) = some k
 | [], f, k, h, hk => by
  have := (litN_le _ _ _ h).1
  simp only [List.length_nil] at hk; omega
 | c :: a, true, k, h, hk => by
  simp only [List.cons_append, List.length_cons] at h hk ⊢
  rw [litN] at h ⊢
  obtain ⟨m, h1, rfl⟩ := Option.map_eq_some_iff.1 h
  rw [litN_loc b X a false m h1 (by omega)]; rfl
 | c :: a, false, k, h, hk => by
  simp only [List.cons_append, List.length_cons] at h hk ⊢
  rw [litN] at h ⊢
  cases hc : decide (((c.toNat : Nat) : Int) = 34)
  ·rw [hc, cond_false] at h
   obtain ⟨m, h1, rfl⟩ := Option.map_eq_some_iff.1 h
   rw [cond_false, litN_loc b X a _ m h1 (by omega)]; rfl
  ·rw [hc, cond_true] at h
   exact h
theorem take_loc {a b X : Bs} {w : Nat} (h : w ≤ a.length) : (a ++ b).take w = (a ++ X).take w := by
 rw [List.take_append_of_le_length h, List.take_append_of_le_length h]
theorem tokF_loc {a b X : Bs} (hl : (a ++ b).length ≤ 1048576) (hX : NW X) {k : Int} {t : Bs} {w : Nat} (h : tokF (a ++ b) = some (k, t, w)) (hw : w ≤ a.length) : tokF (a ++ X) = some (k, t, w) := by
 have hok := tokF_ok hl h
 cases a with
 | nil => simp only [List.length_nil] at hw; omega
 | cons c q =>
  simp only [List.cons_append] at h ⊢
  simp only [List.length_cons] at hw
  have tk : ∀ v, v ≤ q.length + 1 → (c :: (q ++ b)).take v = (c :: (q ++ X)).take v := fun v hv => take_loc (a := c :: q) (b := b) (X := X) (by simpa using hv)
  rw [tokF] at h ⊢
  split at h
  ·rename_i h1; rw [if_pos h1]; exact h
  rename_i h1; rw [if_neg h1]
  split at h
  ·rename_i h2; rw [if_pos h2]
   split at h
   ·rename_i h3
    cases h
    rw [← tk 3 hw, if_pos h3]
   ·cases h
  rename_i h2; rw [if_neg h2]
  split at h
  ·rename_i h3; rw [if_pos h3]
   split at h
   ·cases h
   ·rename_i h4
    cases h
    have e := wordN_loc hX b (c :: q) (by simpa using hw)
    simp only [List.cons_append] at e
    rw [e, if_neg h4, tk _ hw]
  rename_i h3; rw [if_neg h3]
  split at h
  ·rename_i h4; rw [if_pos h4]
   split at h
   ·rename_i h5
    cases h
    have e := wordN_loc hX b q (by omega)
    rw [e, ← tk _ hw, if_pos h5]
   ·cases h
  rename_i h4; rw [if_neg h4]
  split at h
  ·rename_i h5; rw [if_pos h5]
   split at h
   ·cases h
   ·rename_i m hm
    split at h
    ·cases h
    ·rename_i y hy
     cases h
     rw [litN_loc b X q false m hm (by omega)]
     simp only
     rw [← tk _ hw, hy]
  ·cases h
theorem skN_loc1 (b X : Bs) : ∀ (a : Bs) (f : Bool), skN f (a ++ b) < a.length → skN f (a ++ X) = skN f (a ++ b)
 | [], _, h => by simp at h
 | c :: a, false, h => by
  simp only [List.cons_append, List.length_cons] at h ⊢
  rw [skN] at h ⊢
  rw [skN]
  cases hc : isSp c
  ·rw [hc, cond_false] at h
   rw [cond_false, cond_false]
   cases h35 : decide (((c.toNat : Nat) : Int) = 35)
   ·rfl
   ·rw [h35, cond_true] at h
    rw [cond_true, cond_true, skN_loc1 b X a true (by omega)]
  ·rw [hc, cond_true] at h
   rw [cond_true, cond_true, skN_loc1 b X a false (by omega)]
 | c :: a, true, h => by
  simp only [List.cons_append, List.length_cons] at h ⊢
  rw [skN] at h ⊢
  rw [skN]
  cases hc : isNl c
  ·rw [hc, cond_false] at h
   rw [cond_false, cond_false, skN_loc1 b X a true (by omega)]
  ·rw [hc, cond_true] at h
   rw [cond_true, cond_true, skN_loc1 b X a false (by omega)]
theorem skN_nl (f : Bool) (Y : Bs) : skN f (10 :: Y) = 1 + skN false Y := by
 cases f <;> rfl
theorem skN_loc2 (b Y : Bs) : ∀ (a : Bs) (f : Bool), a.length ≤ skN f (a ++ b) → skN f (a ++ 10 :: Y) = a.length + 1 + skN false Y
 | [], f, _ => by simp only [List.nil_append, List.length_nil]; rw [skN_nl, Nat.zero_add]
 | c :: a, false, h => by
  simp only [List.cons_append, List.length_cons] at h ⊢
  rw [skN] at h ⊢
  cases hc : isSp c
  ·rw [hc, cond_false] at h
   rw [cond_false]
   cases h35 : decide (((c.toNat : Nat) : Int) = 35)
   ·rw [h35, cond_false] at h; omega
   ·rw [h35, cond_true] at h
    rw [cond_true, skN_loc2 b Y a true (by omega)]; omega
  ·rw [hc, cond_true] at h
   rw [cond_true, skN_loc2 b Y a false (by omega)]; omega
 | c :: a, true, h => by
  simp only [List.cons_append, List.length_cons] at h ⊢
  rw [skN] at h ⊢
  cases hc : isNl c
  ·rw [hc, cond_false] at h
   rw [cond_false, skN_loc2 b Y a true (by omega)]; omega
  ·rw [hc, cond_true] at h
   rw [cond_true, skN_loc2 b Y a false (by omega)]; omega
theorem skN_idem : ∀ (r : Bs) (f : Bool), skN false (r.drop (skN f r)) = 0
 | [], f => by cases f <;> rfl
 | c :: r, false => by
  rw [skN]
  cases hc : isSp c
  ·rw [cond_false]
   cases h35 : decide (((c.toNat : Nat) : Int) = 35)
   ·rw [cond_false, List.drop_zero, skN, hc, cond_false, h35]; rfl
   ·rw [cond_true, Nat.add_comm, List.drop_succ_cons]; exact skN_idem r true
  ·rw [cond_true, Nat.add_comm, List.drop_succ_cons]; exact skN_idem r false
 | c :: r, true => by
  rw [skN]
  cases hc : isNl c
  ·rw [cond_false, Nat.add_comm, List.drop_succ_cons]; exact skN_idem r true
  ·rw [cond_true, Nat.add_comm, List.drop_succ_cons]; exact skN_idem r false
def ktF (x : Int × Bs × Nat) : Int × Bs := (x.1, x.2.1)
def scG (n : Nat) (r : Bs) : Option (List (Int × Bs × Nat)) := scT n (r.drop (skN false r))
theorem drop_app {a X : Bs} {q : Nat} (h : q ≤ a.length) : (a ++ X).drop q = a.drop q ++ X := List.drop_append_of_le_length h
theorem sep_main (sp : Bs) (hsp : ∀ Y, skN false (sp ++ Y) = sp.length + skN false Y) : ∀ (n : Nat) (r : Bs) (L : List (Int × Bs × Nat)), r.length ≤ 1048576 → scG n r = some L → ∀ (j : Nat) (k : Int) (t : Bs) (m : Nat), L[j]? = some (k, t, m) → m ≤ r.length ∧ ∃ L', scG n (r.take (r.length - m) ++ 10 :: (sp ++ r.drop (r.length - m))) = some L' ∧ L'.map ktF = L.map ktF
 | 0, _, _, _, h => by cases h
 | n + 1, r, L, hr, h => by
  intro j k t m hj
  have hq := skN_le false r
  have hh := h
  unfold scG at hh
  obtain ⟨k0, t0, L0, hL0⟩ := scT_head hh
  cases j with
  | zero =>
   rw [hL0] at hj
   obtain ⟨rfl, rfl, rfl⟩ : k0 = k ∧ t0 = t ∧ (r.drop (skN false r)).length = m := by simp at hj; exact ⟨hj.1, hj.2.1, by simp [hj.2.2]⟩
   have e : r.length - (r.drop (skN false r)).length = skN false r := by simp only [List.length_drop]; omega
   rw [e]
   refine ⟨by simp, L, ?_, rfl⟩
   unfold scG
   have h1 : skN false (r.take (skN false r) ++ 10 :: (sp ++ r.drop (skN false r))) = skN false r + 1 + (sp.length + 0) := by
    rw [skN_loc2 (r.drop (skN false r)) _ (r.take (skN false r)) false (by rw [List.take_append_drop, List.length_take]; omega), hsp, skN_idem r false, List.length_take, Nat.min_eq_left hq]
   have h2 : (r.take (skN false r) ++ 10 :: (sp ++ r.drop (skN false r))).drop (skN false r + 1 + (sp.length + 0)) = r.drop (skN false r) := by
    rw [show r.take (skN false r) ++ 10 :: (sp ++ r.drop (skN false r)) = (r.take (skN false r) ++ 10 :: sp) ++ r.drop (skN false r) by simp]
    rw [List.drop_append_of_le_length (by simp [Nat.min_eq_left hq]; omega), List.drop_eq_nil_of_le (by simp [Nat.min_eq_left hq]; omega), List.nil_append]
   rw [h1, h2]
   exact hh
  | succ j =>
   rw [scT] at hh
   split at hh
   ·cases hh; simp at hj
   ·rename_i hne
    split at hh
    ·cases hh
    ·rename_i k1 t1 w ht
     obtain ⟨L2, hL2, rfl⟩ := Option.map_eq_some_iff.1 hh
     obtain ⟨o1, o2, -⟩ := tokF_ok (by simp; omega) ht
     simp only [List.length_drop] at o2
     rw [List.getElem?_cons_succ] at hj
     obtain ⟨hm, L2', i1, i2⟩ := sep_main sp hsp n ((r.drop (skN false r)).drop w) L2 (by simp; omega) hL2 j k t m hj
     simp only [List.length_drop] at hm
     refine ⟨by omega, (k1, t1, ((r.take (r.length - m)).drop (skN false r) ++ 10 :: (sp ++ r.drop (r.length - m))).length) :: L2', ?_, by rw [List.map_cons, List.map_cons, i2]; rfl⟩
     have hAl : (r.take (r.length - m)).length = r.length - m := by rw [List.length_take]; omega
     have s1 : skN false (r.take (r.length - m) ++ 10 :: (sp ++ r.drop (r.length - m))) = skN false r := by
      rw [skN_loc1 (r.drop (r.length - m)) _ (r.take (r.length - m)) false (by rw [List.take_append_drop, hAl]; omega), List.take_append_drop]
     have d1 : r.drop (skN false r) = (r.take (r.length - m)).drop (skN false r) ++ r.drop (r.length - m) := by
      rw [← drop_app (X := r.drop (r.length - m)) (a := r.take (r.length - m)) (by omega), List.take_append_drop]
     have ht2 := ht
     rw [d1] at ht2
     have hA1 : ((r.take (r.length - m)).drop (skN false r)).length = r.length - m - skN false r := by rw [List.length_drop, hAl]
     have tk := tokF_loc (X := 10 :: (sp ++ r.drop (r.length - m))) (by rw [← d1]; simp; omega) (fun c hc => by cases hc; rfl) ht2 (by omega)
     have e1 : r.length - skN false r - w - m = r.length - m - skN false r - w := by omega
     have a2 : ((r.drop (skN false r)).drop w).take (((r.drop (skN false r)).drop w).length - m) = ((r.take (r.length - m)).drop (skN false r)).drop w := by
      rw [d1, drop_app (by omega)]
      rw [List.take_append_of_le_length (by simp only [List.length_append, List.length_drop, hAl]; omega), List.take_of_length_le (by simp only [List.length_append, List.length_drop, hAl]; omega)]
     have b2 : ((r.drop (skN false r)).drop w).drop (((r.drop (skN false r)).drop w).length - m) = r.drop (r.length - m) := by
      simp only [List.length_drop]
      rw [List.drop_drop, List.drop_drop]
      rw [show skN false r + (w + (r.length - skN false r - w - m)) = r.length - m by omega]
     rw [a2, b2] at i1
     unfold scG at i1 ⊢
     rw [s1, drop_app (by omega), scT, if_neg (by simp), tk]
     simp only
     rw [drop_app (by omega), i1]
     rfl
def kt4 (x : R04_Token) : Int × Bs := (x.FKind, x.FText)
theorem alike_loop (b : Sl R04_Token) : ∀ (l : List R04_Token) (i : Nat), (b.l.drop i).map kt4 = l.map kt4 → Z20_q11 b l i = some (Sum.inl ())
 | [], _, _ => rfl
 | t :: l, i, h => by
  obtain ⟨y, hi, hy⟩ : ∃ y, b.l[i]? = some y ∧ kt4 y = kt4 t := by
   have := congrArg List.head? h
   rw [List.head?_map, List.head?_drop] at this
   simpa using this
  rw [Z20_q11]
  simp only [Ab.on]
  rw [hi, Option.bind_some]
  have h1 : t.FKind = y.FKind := (congrArg Prod.fst hy).symm
  have h2 : t.FText = y.FText := (congrArg Prod.snd hy).symm
  simp only [guardO, h1, decide_true, Bool.not_true, Bool.not_false, if_true, Option.bind_some, Bool.false_or, cond_true]
  rw [h2]
  simp only [beq_self_eq_true, Bool.not_true, cond_false]
  exact alike_loop b l (i + 1) (by
   have := congrArg List.tail h
   rw [← List.map_tail, List.tail_drop] at this
   simpa using this)
theorem alike_eq {a b : Sl R04_Token} (h : a.l.map kt4 = b.l.map kt4) : Z20 a b = some true := by
 rw [Z20_eq]
 unfold Z20_q
 have hl : a.l.length = b.l.length := by have := congrArg List.length h; simpa using this
 rw [hl, show (!decide (((b.l.length : Nat) : Int) = ((b.l.length : Nat) : Int))) = false by simp, cond_false, alike_loop b a.l 0 (by rw [List.drop_zero, h])]
 rfl
theorem kt_own {L : List (Int × Bs × Nat)} {n : Nat} : ((L.map (tkO n)).map cvT).map kt4 = L.map ktF := by
 rw [List.map_map, List.map_map]; rfl
theorem sepC : ∀ (q : Nat) (h : q < 6), ∃ sp : Bs, (⟨false, [([32] : Bs), ([44] : Bs), ([10] : Bs), ([35, 120, 32, 34, 123, 10] : Bs), ([9, 44, 13] : Bs), ([35, 13] : Bs)]⟩ : Sl Bs).l[q]? = some sp ∧ sp.length ≤ 6 ∧ ∀ Y, skN false (sp ++ Y) = sp.length + skN false Y
 | 0, _ => ⟨_, rfl, by decide, fun _ => rfl⟩
 | 1, _ => ⟨_, rfl, by decide, fun _ => rfl⟩
 | 2, _ => ⟨_, rfl, by decide, fun _ => rfl⟩
 | 3, _ => ⟨_, rfl, by decide, fun Y => by show 1 + (1 + (1 + (1 + (1 + (1 + skN false Y))))) = 6 + skN false Y; omega⟩
 | 4, _ => ⟨_, rfl, by decide, fun Y => by show 1 + (1 + (1 + skN false Y)) = 3 + skN false Y; omega⟩
 | 5, _ => ⟨_, rfl, by decide, fun Y => by show 1 + (1 + skN false Y) = 2 + skN false Y; omega⟩
 | n + 6, h => by omega
theorem cut_to {s : Bs} {i : Nat} (h : i ≤ s.length) : cutC s none (some (i : Int)) = some (s.take i) := by
 unfold cutC; rw [if_pos (by simp; omega)]; simp
theorem cat_small {a b : Bs} (h : a.length + b.length ≤ 1048576) : catC a b = some (a ++ b) := by
 unfold catC; rw [if_pos (by unfold maxS; omega)]
theorem tokenSeparates_true (s : Bs) (p q : Int) : Z6 s p q = some true := by
 unfold Z6
 rw [show Z8 s = some (Z8_q s) from rfl, Option.bind_some, example04]
 cases hb : (((Z8_q s || (decide ((2000 : Int) < ((s.length : Nat) : Int)))) || (decide (q < (0 : Int)))) || (decide ((5 : Int) < q)))
 ·rw [cond_false]
  simp only [Bool.or_eq_false_iff, decide_eq_false_iff_not] at hb
  obtain ⟨⟨⟨-, hs⟩, hq0⟩, hq5⟩ := hb
  rcases scan_spec (s := s) (by omega) with ⟨L, h1, h2, h3⟩ | ⟨h1, p', e, h2, h3⟩
  ·rw [h2, Option.bind_some]
   simp only [List.length_map, decide_true, Bool.not_true, Bool.false_or]
   cases hp : decide (p < 0) || decide (((L.length : Nat) : Int) ≤ p)
   ·rw [cond_false]
    simp only [Bool.or_eq_false_iff, decide_eq_false_iff_not] at hp
    obtain ⟨hp0, hp1⟩ := hp
    obtain ⟨j, rfl⟩ : ∃ j : Nat, p = (j : Int) := ⟨p.toNat, by omega⟩
    obtain ⟨i, rfl⟩ : ∃ i : Nat, q = (i : Int) := ⟨q.toNat, by omega⟩
    obtain ⟨⟨k, t, m⟩, hj⟩ : ∃ x, L[j]? = some x := ⟨_, List.getElem?_eq_getElem (show j < L.length by omega)⟩
    obtain ⟨sp, g1, g2, g3⟩ := sepC i (by omega)
    obtain ⟨hm, L', i1, i2⟩ := sep_main sp g3 F0 s L (by omega) h1 j k t m hj
    rw [idxC_nat, map_get hj, Option.bind_some]
    have hA : (tkO s.length (k, t, m)).FAt = ((s.length - m : Nat) : Int) := rfl
    rw [hA]
    rw [show decide (((s.length - m : Nat) : Int) < 0) = false from decide_eq_false (by omega), show decide (((s.length : Nat) : Int) < ((s.length - m : Nat) : Int)) = false from decide_eq_false (by omega), Bool.or_self, cond_false]
    rw [cut_to (by omega), Option.bind_some, cat_small (by simp; omega), Option.bind_some, idxC_nat, g1, Option.bind_some, cat_small (by simp; omega), Option.bind_some, cut_from (by omega), Option.bind_some, cat_small (by simp; omega), Option.bind_some]
    rw [show s.take (s.length - m) ++ [10] ++ sp ++ s.drop (s.length - m) = s.take (s.length - m) ++ 10 :: (sp ++ s.drop (s.length - m)) by simp]
    have hlen : (s.take (s.length - m) ++ 10 :: (sp ++ s.drop (s.length - m))).length ≤ 2010 := by simp; omega
    rcases scan_spec (s := s.take (s.length - m) ++ 10 :: (sp ++ s.drop (s.length - m))) (by omega) with ⟨L3, k1, k2, k3⟩ | ⟨k1, -⟩
    ·have hL3 : L3 = L' := Option.some.inj (k1.symm.trans i1)
     subst hL3
     rw [k2, Option.bind_some]
     obtain ⟨r1, u1, u2⟩ := own_eq (L := ⟨false, L.map (tkO s.length)⟩) (by simp; omega)
     obtain ⟨r2, v1, v2⟩ := own_eq (L := ⟨false, L3.map (tkO (s.take (s.length - m) ++ 10 :: (sp ++ s.drop (s.length - m))).length)⟩) (by simp; simp at k3; omega)
     have hal : Z20 r1 r2 = some true := alike_eq (by
      rw [u2, v2]
      show ((L.map (tkO s.length)).map cvT).map kt4 = ((L3.map (tkO _)).map cvT).map kt4
      rw [kt_own, kt_own, i2])
     simp only [guardO, decide_true, if_true]
     rw [u1, Option.bind_some, v1, Option.bind_some, hal]
     rfl
    ·rw [show scF (s.take (s.length - m) ++ 10 :: (sp ++ s.drop (s.length - m))) = some L' from i1] at k1
     cases k1
   ·rfl
  ·rw [h2, Option.bind_some, show (!decide (e = 0)) = true by simpa using h3]; rfl
 ·rfl
end Go.Proofs

namespace Go.Proofs
open Go Go.Ab
theorem start_sp (c : UInt8) : (sgV ((c.toNat : Nat) : Int) || decide (((c.toNat : Nat) : Int) = 46) || isL c || isD c || decide (((c.toNat : Nat) : Int) = 45) || decide (((c.toNat : Nat) : Int) = 34)) = true → (!isSp c && !decide (((c.toNat : Nat) : Int) = 35)) = true := by
 revert c
 apply all_u8
 set_option maxRecDepth 100000 in decide +kernel
theorem tokF_sk {r : Bs} {x : Int × Bs × Nat} (h : tokF r = some x) : skN false r = 0 := by
 cases r with
 | nil => cases h
 | cons c q =>
  have key : (sgV ((c.toNat : Nat) : Int) || decide (((c.toNat : Nat) : Int) = 46) || isL c || isD c || decide (((c.toNat : Nat) : Int) = 45) || decide (((c.toNat : Nat) : Int) = 34)) = true := by
   rw [tokF] at h
   simp only [Bool.or_eq_true, decide_eq_true_eq]
   split at h
   ·rename_i h1; exact .inl (.inl (.inl (.inl (.inl h1))))
   split at h
   ·rename_i h1; exact .inl (.inl (.inl (.inl (.inr h1))))
   split at h
   ·rename_i h1; exact .inl (.inl (.inl (.inr h1)))
   split at h
   ·rename_i h1
    rcases h1 with h1 | h1
    ·exact .inl (.inl (.inr h1))
    ·exact .inl (.inr h1)
   split at h
   ·rename_i h1; exact .inr h1
   ·cases h
  have h2 := start_sp c key
  simp only [Bool.and_eq_true, Bool.not_eq_true'] at h2
  rw [skN, h2.1, cond_false, h2.2]; rfl
theorem get_of_drop {x : Bs} {i : Nat} {a : UInt8} {r : Bs} (h : x.drop i = a :: r) : x[i]? = some a ∧ x.drop (i + 1) = r := by
 refine ⟨?_, ?_⟩
 ·have := congrArg List.head? h
  rw [List.head?_drop] at this; exact this
 ·have := congrArg List.tail h
  rw [List.tail_drop] at this; exact this
theorem hx_back (c : UInt8) : hex4 (((48 : UInt8).toNat : Nat) : Int) (((48 : UInt8).toNat : Nat) : Int) (((hx (c.toNat / 16)).toNat : Nat) : Int) (((hx (c.toNat % 16)).toNat : Nat) : Int) = ((c.toNat : Nat) : Int) := by
 revert c
 apply all_u8
 set_option maxRecDepth 100000 in decide +kernel
theorem hx_no (c : UInt8) : (decide ((((hx (c.toNat / 16)).toNat : Nat) : Int) = 34) || decide ((((hx (c.toNat / 16)).toNat : Nat) : Int) = 92) || decide ((((hx (c.toNat % 16)).toNat : Nat) : Int) = 34) || decide ((((hx (c.toNat % 16)).toNat : Nat) : Int) = 92)) = false := by
 revert c
 apply all_u8
 set_option maxRecDepth 100000 in decide +kernel
theorem esc_cases (c : UInt8) : (∃ d, esc c = [92, d] ∧ (plV ((d.toNat : Nat) : Int)).2 = true ∧ UInt8.ofNat (plV ((d.toNat : Nat) : Int)).1.toNat = c) ∨ (esc c = [c] ∧ badC c = false ∧ decide (((c.toNat : Nat) : Int) = 92) = false ∧ decide (((c.toNat : Nat) : Int) = 34) = false) ∨ esc c = [92, 117, 48, 48, hx (c.toNat / 16), hx (c.toNat % 16)] := by
 by_cases c1 : c = 34
 ·subst c1; exact .inl ⟨34, rfl, by kernel_rfl, by kernel_rfl⟩
 by_cases c2 : c = 92
 ·subst c2; exact .inl ⟨92, rfl, by kernel_rfl, by kernel_rfl⟩
 by_cases c3 : c = 10
 ·subst c3; exact .inl ⟨110, rfl, by kernel_rfl, by kernel_rfl⟩
 by_cases c4 : c = 13
 ·subst c4; exact .inl ⟨114, rfl, by kernel_rfl, by kernel_rfl⟩
 by_cases c5 : c = 9
 ·subst c5; exact .inl ⟨116, rfl, by kernel_rfl, by kernel_rfl⟩
 have he : esc c = if 32 ≤ c.toNat ∧ c.toNat ≤ 126 then [c] else [92, 117, 48, 48, hx (c.toNat / 16), hx (c.toNat % 16)] := by
  unfold esc; rw [if_neg c1, if_neg c2, if_neg c3, if_neg c4, if_neg c5]
 have n34 : ¬ c.toNat = 34 := fun h => c1 (UInt8.toNat_inj.1 h)
 have n92 : ¬ c.toNat = 92 := fun h => c2 (UInt8.toNat_inj.1 h)
 by_cases c6 : 32 ≤ c.toNat ∧ c.toNat ≤ 126
 ·refine .inr (.inl ⟨by rw [he, if_pos c6], ?_, decide_eq_false (by omega), decide_eq_false (by omega)⟩)
  unfold badC
  rw [decide_eq_false (show ¬ ((c.toNat : Nat) : Int) < 32 by omega), decide_eq_false (show ¬ (126 : Int) < ((c.toNat : Nat) : Int) by omega), decide_eq_false (show ¬ ((c.toNat : Nat) : Int) = 34 by omega)]; rfl
 ·exact .inr (.inr (by rw [he, if_neg c6]))
theorem unq_back (x : Bs) (hx1 : x.length ≤ 1048576) : ∀ (v : Bs) (n i : Nat) (o : Bs), x.drop i = v.flatMap esc → i ≤ x.length → o.length + v.length ≤ 1048576 → v.length < n → Z13_l19 x n o (i : Int) = some (o ++ v, 0)
 | _, 0, _, _, _, _, _, h => by omega
 | [], n + 1, i, o, h, hi, _, _ => by
  have : x.length ≤ i := by
   have := congrArg List.length h
   simp only [List.length_drop, List.flatMap_nil, List.length_nil] at this; omega
  rw [rU_stop x n i o this, List.append_nil]
 | c :: v, n + 1, i, o, h, hi, ho, hn => by
  simp only [List.length_cons] at ho hn
  have fin : ∀ (y : UInt8) (j : Nat), y = c → j ≤ x.length → x.drop j = v.flatMap esc → Z13_l19 x n (o ++ [y]) (j : Int) = some (o ++ c :: v, 0) := by
   intro y j hy hj hd
   rw [hy, unq_back x hx1 v n j (o ++ [c]) hd hj (by simp; omega) (by omega)]; simp
  rw [List.flatMap_cons] at h
  rcases esc_cases c with ⟨d, h1, h2, h3⟩ | ⟨h1, h2, h3, -⟩ | h1
  ·rw [h1] at h
   obtain ⟨g1, g2⟩ := get_of_drop (show x.drop i = 92 :: d :: v.flatMap esc from h)
   obtain ⟨g3, g4⟩ := get_of_drop g2
   have l1 := (List.getElem?_eq_some_iff.1 g3).1
   rw [rU_esc n (by omega) (by omega) g1 rfl rfl g3, h2, cond_true]
   exact fin _ _ h3 (by omega) g4
  ·rw [h1] at h
   obtain ⟨g1, g2⟩ := get_of_drop (show x.drop i = c :: v.flatMap esc from h)
   have l1 := (List.getElem?_eq_some_iff.1 g1).1
   rw [rU_char n (by omega) (by omega) g1 h2 h3]
   exact fin _ _ rfl (by omega) g2
  ·rw [h1] at h
   obtain ⟨g1, g2⟩ := get_of_drop (show x.drop i = 92 :: 117 :: 48 :: 48 :: hx (c.toNat / 16) :: hx (c.toNat % 16) :: v.flatMap esc from h)
   obtain ⟨g3, g4⟩ := get_of_drop g2
   obtain ⟨g5, g6⟩ := get_of_drop g4
   obtain ⟨g7, g8⟩ := get_of_drop g6
   obtain ⟨g9, ga⟩ := get_of_drop g8
   obtain ⟨gb, gc⟩ := get_of_drop ga
   have l1 := (List.getElem?_eq_some_iff.1 gb).1
   rw [rU_esc n (by omega) (by omega) g1 rfl rfl g3, show (plV (((117 : UInt8).toNat : Nat) : Int)).2 = false by kernel_rfl, cond_false]
   rw [show (!decide ((((117 : UInt8).toNat : Nat) : Int) = 117)) = false from rfl, Bool.false_or, decide_eq_false (show ¬ x.length ≤ i + 5 by omega), cond_false, cut_part (by omega) (by omega), Option.bind_some]
   rw [show (x.drop (i + 2)).take (i + 6 - (i + 2)) = [48, 48, hx (c.toNat / 16), hx (c.toNat % 16)] by
    rw [show i + 6 - (i + 2) = 4 by omega, g4]; rfl]
   have hc := c.toNat_lt
   rw [code_eq, Option.bind_some, hx_back, decide_eq_false (show ¬ ((c.toNat : Nat) : Int) < 0 by omega), decide_eq_false (show ¬ (255 : Int) < ((c.toNat : Nat) : Int) by omega), Bool.or_self, cond_false, wrap8_small (by omega) (by omega)]
   exact fin _ _ (wrap8_byte c) (by omega) gc
theorem unq_qt {t : Bs} (ht : t.length ≤ 100000) : unqF (qt t) = some t := by
 have hq := qt_len t
 have hf := flat_len t
 have hl : (qt t).length = (t.flatMap esc).length + 2 := by unfold qt; simp
 obtain ⟨r, e, h1, h2, -, h4⟩ := unqF_eq (s := qt t) (by omega)
 have h3 : Z13 (qt t) = some (t, 0) := by
  unfold Z13
  rw [show decide ((((qt t).length : Nat) : Int) < 2) = false from decide_eq_false (by omega)]
  have hc : (qt t)[0]? = some 34 := rfl
  have hsub : subC (((qt t).length : Nat) : Int) 1 = some (((qt t).length - 1 : Nat) : Int) := by rw [subC_ok (by omega)]; exact congrArg some (by omega)
  have hz : (qt t)[(qt t).length - 1]? = some 34 := by
   rw [hl]
   unfold qt
   rw [show (t.flatMap esc).length + 2 - 1 = (t.flatMap esc).length + 1 by omega, List.getElem?_cons_succ]
   simp
  have hcut : cutC (qt t) (some (1 : Int)) (some (((qt t).length - 1 : Nat) : Int)) = some (t.flatMap esc) := by
   rw [show (1 : Int) = ((1 : Nat) : Int) from rfl, cut_part (by omega) (by omega), hl]
   unfold qt
   rw [List.drop_succ_cons, List.drop_zero, show (t.flatMap esc).length + 2 - 1 - 1 = (t.flatMap esc).length by omega, List.take_left]
  rw [hc, hsub]
  simp only [guardO, Bool.not_false, if_true, Option.bind_some, Bool.false_or, idxC_nat, hz]
  rw [show decide ((((34 : UInt8).toNat : Nat) : Int) = 34) = true from rfl]
  simp only [Bool.not_true, Bool.not_false, if_true, Option.bind_some, Bool.or_self, cond_false, idxC_nat, hz, hcut]
  exact unq_back (t.flatMap esc) (by omega) t F0 0 [] rfl (by omega) (by simp; omega) (by rw [F0_eq]; omega)
 rw [h3] at h2
 cases h2
 rw [h4, if_pos rfl]
theorem litN_esc (c : UInt8) (Y : Bs) : litN false (esc c ++ Y) = (litN false Y).map (· + (esc c).length) := by
 rcases esc_cases c with ⟨d, h1, -⟩ | ⟨h1, h2, h3, h4⟩ | h1
 ·rw [h1]
  show ((litN false Y).map (· + 1)).map (· + 1) = _
  rw [Option.map_map]; rfl
 ·rw [h1]
  show litN false (c :: Y) = _
  rw [litN, h4, cond_false, h3]; rfl
 ·rw [h1]
  have hn := hx_no c
  simp only [Bool.or_eq_false_iff] at hn
  obtain ⟨⟨⟨n1, n2⟩, n3⟩, n4⟩ := hn
  show ((((litN false (hx (c.toNat / 16) :: hx (c.toNat % 16) :: Y)).map (· + 1)).map (· + 1)).map (· + 1)).map (· + 1) = _
  rw [litN, n1, cond_false, n2, litN, n3, cond_false, n4]
  simp only [Option.map_map]; rfl
theorem litN_qt : ∀ (t X : Bs), litN false (t.flatMap esc ++ 34 :: X) = some ((t.flatMap esc).length + 1)
 | [], X => rfl
 | c :: t, X => by
  rw [List.flatMap_cons, List.append_assoc, litN_esc, litN_qt t X]
  simp only [Option.map_some, List.length_append]
  exact congrArg some (by omega)
theorem tokF_qt {t X : Bs} (ht : t.length ≤ 100000) : tokF (qt t ++ X) = some (4, t, (qt t).length) := by
 have e : qt t ++ X = 34 :: (t.flatMap esc ++ 34 :: X) := by unfold qt; simp
 have hl : (qt t).length = 1 + ((t.flatMap esc).length + 1) := by unfold qt; simp; omega
 rw [e, tokF]
 rw [if_neg (show ¬ sgV (((34 : UInt8).toNat : Nat) : Int) = true from by rw [show sgV (((34 : UInt8).toNat : Nat) : Int) = false by kernel_rfl]; decide), if_neg (by decide), if_neg (by decide), if_neg (by decide), if_pos (by decide), litN_qt]
 simp only
 rw [← e, ← hl, List.take_left, unq_qt ht]
def pcF : List (Int × Bs × Nat) → List Bs
 | [] => []
 | (k, t, _) :: r => if k = 5 then pcF r else (if k = 4 then qt t else t) :: pcF r
theorem pcF_eq (n : Nat) : ∀ L : List (Int × Bs × Nat), pcs ((L.map (tkO n)).map cvT) = pcF L
 | [] => rfl
 | (k, t, m) :: L => by
  rw [List.map_cons, List.map_cons, pcs, pcF, pcF_eq n L]; rfl
theorem nw_tail (l : List Bs) : NW (Lib.joinTail [32] l) := by
 cases l with
 | nil => intro c hc; cases hc
 | cons a r => intro c hc; cases hc; rfl
theorem piece_tok {r : Bs} (hr : r.length ≤ 100000) {k : Int} {t : Bs} {w : Nat} (h : tokF r = some (k, t, w)) {X : Bs} (hX : NW X) : tokF ((if k = 4 then qt t else t) ++ X) = some (k, t, (if k = 4 then qt t else t).length) ∧ (if k = 4 then qt t else t).length ≤ 8 * w := by
 obtain ⟨o1, o2, o3, o4, o5, o6, o7⟩ := tokF_ok (by omega) h
 by_cases h4 : k = 4
 ·subst h4
  rw [if_pos rfl]
  have := qt_len t
  exact ⟨tokF_qt (by omega), by omega⟩
 ·rw [if_neg h4]
  have ht := o5 h4
  have hl : t.length = w := by rw [ht, List.length_take]; omega
  refine ⟨?_, by omega⟩
  have h2 : tokF (t ++ r.drop w) = some (k, t, w) := by rw [show t ++ r.drop w = r by rw [ht, List.take_append_drop]]; exact h
  rw [hl]
  exact tokF_loc (by rw [show t ++ r.drop w = r by rw [ht, List.take_append_drop]]; omega) hX h2 (by omega)
theorem back_main : ∀ (n : Nat) (r : Bs) (L : List (Int × Bs × Nat)), r.length ≤ 100000 → scT n r = some L → (Lib.joinTail [32] (pcF L)).length ≤ 9 * r.length ∧ (Lib.join (pcF L) [32]).length ≤ 9 * r.length ∧ (∀ x ∈ L, x.2.1.length ≤ r.length) ∧ ∀ N, L.length < N → (∃ L', scG N (Lib.joinTail [32] (pcF L)) = some L' ∧ L'.map ktF = L.map ktF) ∧ (∃ L', scG N (Lib.join (pcF L) [32]) = some L' ∧ L'.map ktF = L.map ktF)
 | 0, _, _, _, h => by cases h
 | n + 1, r, L, hr, h => by
  rw [scT] at h
  split at h
  ·rename_i hr0
   subst hr0
   cases h
   refine ⟨by simp [pcF, Lib.joinTail], by simp [pcF, Lib.join_nil], by simp, fun N hN => ?_⟩
   obtain ⟨N, rfl⟩ : ∃ m, N = m + 1 := ⟨N - 1, by simp at hN; omega⟩
   exact ⟨⟨[(5, [], 0)], rfl, rfl⟩, ⟨[(5, [], 0)], rfl, rfl⟩⟩
  ·split at h
   ·cases h
   ·rename_i k t w ht
    obtain ⟨L2, hL2, rfl⟩ := Option.map_eq_some_iff.1 h
    obtain ⟨o1, o2, o3, o4, o5, o6, o7⟩ := tokF_ok (by omega) ht
    have hk := skN_le false (r.drop w)
    simp only [List.length_drop] at hk
    obtain ⟨i1, i2, i3, i4⟩ := back_main n _ L2 (by simp; omega) hL2
    simp only [List.length_drop] at i1 i2 i3
    have hX := nw_tail (pcF L2)
    obtain ⟨p1, p2⟩ := piece_tok hr ht hX
    have hpc : pcF ((k, t, r.length) :: L2) = (if k = 4 then qt t else t) :: pcF L2 := by rw [pcF, if_neg (by omega)]
    have ht1 : Lib.joinTail [32] (pcF ((k, t, r.length) :: L2)) = 32 :: ((if k = 4 then qt t else t) ++ Lib.joinTail [32] (pcF L2)) := by rw [hpc]; simp [Lib.joinTail]
    have ht2 : Lib.join (pcF ((k, t, r.length) :: L2)) [32] = (if k = 4 then qt t else t) ++ Lib.joinTail [32] (pcF L2) := by rw [hpc, Lib.join_cons]
    rw [ht1, ht2]
    generalize hP : (if k = 4 then qt t else t) = P at *
    generalize hXX : Lib.joinTail [32] (pcF L2) = X at *
    have hs := tokF_sk p1
    have hne : P ++ X ≠ [] := by intro h0; rw [h0] at p1; cases p1
    refine ⟨by simp only [List.length_cons, List.length_append]; omega, by simp only [List.length_append]; omega, ?_, fun N hN => ?_⟩
    ·intro x hx
     rcases List.mem_cons.1 hx with rfl | hx
     ·simp only; omega
     ·have := i3 x hx; omega
    ·obtain ⟨N, rfl⟩ : ∃ m, N = m + 1 := ⟨N - 1, by simp at hN; omega⟩
     simp only [List.length_cons] at hN
     obtain ⟨⟨L', j1, j2⟩, -⟩ := i4 N (by omega)
     have core : scT (N + 1) (P ++ X) = some ((k, t, (P ++ X).length) :: L') := by
      rw [scT, if_neg hne, p1]
      simp only
      rw [List.drop_left]
      unfold scG at j1
      rw [j1]; rfl
     have hm : ((k, t, (P ++ X).length) :: L').map ktF = ((k, t, r.length) :: L2).map ktF := by rw [List.map_cons, List.map_cons, j2]; rfl
     refine ⟨⟨(k, t, (P ++ X).length) :: L', ?_, hm⟩, ⟨(k, t, (P ++ X).length) :: L', ?_, hm⟩⟩
     ·unfold scG
      rw [show skN false (32 :: (P ++ X)) = 1 + skN false (P ++ X) from rfl, hs]
      exact core
     ·unfold scG
      rw [hs, List.drop_zero]
      exact core
theorem tokenReturns_true (s : Bs) : Z4 s = some true := by
 unfold Z4
 rw [show Z8 s = some (Z8_q s) from rfl, Option.bind_some, example04]
 cases hb : Z8_q s || decide ((65536 : Int) < ((s.length : Nat) : Int))
 ·rw [cond_false]
  unfold Z8_q at hb
  simp only [Bool.or_eq_false_iff, Bool.and_eq_false_iff, decide_eq_false_iff_not] at hb
  have hs : s.length ≤ 2000 := by omega
  rcases scan_spec (s := s) (by omega) with ⟨L, h1, h2, h3⟩ | ⟨h1, p', e, h2, h3⟩
  ·have hk := skN_le false s
   obtain ⟨-, b2, b3, b4⟩ := back_main F0 _ L (by simp; omega) h1
   simp only [List.length_drop] at b2 b3
   obtain ⟨-, L', j1, j2⟩ := b4 F0 (by rw [F0_eq]; omega)
   have hshort : Short (cvS ⟨false, L.map (tkO s.length)⟩).l := by
    intro x hx
    simp only [cvS, List.mem_map] at hx
    obtain ⟨y, ⟨z, hz, rfl⟩, rfl⟩ := hx
    have := b3 z hz
    show z.2.1.length ≤ 1048576
    omega
   have hpr := tprint_eq (s := ⟨false, L.map (tkO s.length)⟩) hshort (by simp; omega)
   rw [show (cvS ⟨false, L.map (tkO s.length)⟩).l = (L.map (tkO s.length)).map cvT from rfl, pcF_eq] at hpr
   rw [h2, Option.bind_some]
   simp only [decide_true, Bool.not_true, cond_false]
   rw [hpr, Option.bind_some]
   rcases scan_spec (s := Lib.join (pcF L) [32]) (by omega) with ⟨L3, k1, k2, k3⟩ | ⟨k1, -⟩
   ·have hL3 : L3 = L' := Option.some.inj (k1.symm.trans j1)
    subst hL3
    rw [k2, Option.bind_some]
    obtain ⟨r1, u1, u2⟩ := own_eq (L := ⟨false, L.map (tkO s.length)⟩) (by simp; omega)
    obtain ⟨r2, v1, v2⟩ := own_eq (L := ⟨false, L3.map (tkO (Lib.join (pcF L) [32]).length)⟩) (by simp; omega)
    have hal : Z20 r1 r2 = some true := alike_eq (by
     rw [u2, v2]
     show ((L.map (tkO s.length)).map cvT).map kt4 = ((L3.map (tkO _)).map cvT).map kt4
     rw [kt_own, kt_own, j2])
    simp only [guardO, decide_true, if_true]
    rw [u1, Option.bind_some, v1, Option.bind_some, hal]
    rfl
   ·rw [show scF (Lib.join (pcF L) [32]) = some L' from j1] at k1
    cases k1
  ·rw [h2, Option.bind_some, show (!decide (e = 0)) = true by simpa using h3]; rfl
 ·rfl
end Go.Proofs

namespace Go.Proofs.YtmjbloiidajknaaDoor
open Go Go.Ab Go.RowKit Go.ChangeShapes Go.WideShapes Go.ChangeAt
variable {lou : Lou}
theorem bulkAll {H : Type} (l : List (DataW H)) : Rows.uptoBulkAll l = (l.map Rows.uptoBulk).sum := by
 induction l with
 | nil => rfl
 | cons x r ih => simp only [Rows.uptoBulkAll, List.map_cons, List.sum_cons, ih]
theorem bulkB {H : Type} : Bulk (H := H) Rows.uptoBulk := by
 refine ⟨fun d => ?_, fun b => by simp [Rows.uptoBulk], fun e s => by simp only [Rows.uptoBulk, bulkAll]; omega, fun l => by simp only [Rows.uptoBulk, bulkAll]; omega⟩
 cases d with
 | lit l => cases l <;> simp [Rows.uptoBulk]
 | nil => simp [Rows.uptoBulk]
 | ptr d => simp [Rows.uptoBulk]
 | slice elems spare => simp [Rows.uptoBulk]
 | agg parts => simp [Rows.uptoBulk]
 | iface t d => simp [Rows.uptoBulk]
 | map entries => simp [Rows.uptoBulk]
 | held h => simp [Rows.uptoBulk]
theorem own : ownKnob Tryd.prog.godebug = none := by kernel_rfl
theorem laid : laidOutB Tryd.prog = true := by kernel_rfl
theorem bound {H : Type} {l : List (DataW H)} (hk : Rows.uptoSmall H l = true) : Rows.uptoBulkAll l ≤ 1048576 := of_decide_eq_true hk
theorem table {W : World} (h : laidMet Tryd.prog Rows.tokenPlacesUptoRow.laid W) : ∃ tp p u fr, W.heap[2]? = some (.cells #[.iface tp p] u fr) :=
 err_of (P := Tryd.prog) (g := 2) (ti := 70) (by kernel_rfl) (by kernel_rfl) (by kernel_rfl) h (.tail _ (.tail _ (.tail _ (.head _))))
theorem isErr (tp : TypeId) (p : Value) (u : TypeId) (fr : Nat × Nat) : IsErr Tryd.prog (.fix 2 (.cells #[.iface tp p] u fr)) := .of (by kernel_rfl)
theorem tokenPlaces_call [IsLoud lou] (a : Bs) (tp : TypeId) (p : Value) (u : TypeId) (fr : Nat × Nat) : ACalls Tryd.prog 7 [.d (.str a)] (hTab 2 (.cells #[.iface tp p] u fr)) fun r h' => r = .a (.d (.bool true)) ∧ h' = hTab 2 (.cells #[.iface tp p] u fr) :=
 Z2_walk (tokenPlaces_true a) _ (gE := 0) rfl (isErr tp p u fr)
theorem tokenPrints_call [IsLoud lou] (a : Sl R04_Token) (tp : TypeId) (p : Value) (u : TypeId) (fr : Nat × Nat) : ACalls Tryd.prog 5 [.d (Sl.d 3 R04_Token.c none a)] (hTab 2 (.cells #[.iface tp p] u fr)) fun r h' => r = .a (.d (.bool true)) ∧ h' = hTab 2 (.cells #[.iface tp p] u fr) :=
 Z3_walk (tokenPrints_true a) _ (gE := 0) rfl (isErr tp p u fr)
theorem tokenReturns_call [IsLoud lou] (a : Bs) (tp : TypeId) (p : Value) (u : TypeId) (fr : Nat × Nat) : ACalls Tryd.prog 6 [.d (.str a)] (hTab 2 (.cells #[.iface tp p] u fr)) fun r h' => r = .a (.d (.bool true)) ∧ h' = hTab 2 (.cells #[.iface tp p] u fr) :=
 Z4_walk (tokenReturns_true a) _ (gE := 0) rfl (isErr tp p u fr)
theorem tokenSeparates_call [IsLoud lou] (a : Bs) (b c : Int) (tp : TypeId) (p : Value) (u : TypeId) (fr : Nat × Nat) : ACalls Tryd.prog 8 [.d (.str a), .d (.int .i64 b), .d (.int .i64 c)] (hTab 2 (.cells #[.iface tp p] u fr)) fun r h' => r = .a (.d (.bool true)) ∧ h' = hTab 2 (.cells #[.iface tp p] u fr) :=
 Z6_walk (tokenSeparates_true a b c) _ (gE := 0) rfl (isErr tp p u fr)
end Go.Proofs.YtmjbloiidajknaaDoor

