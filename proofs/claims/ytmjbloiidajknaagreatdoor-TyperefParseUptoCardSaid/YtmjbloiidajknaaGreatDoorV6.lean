import Derived.Test.YtmjbloiidajknaaGreatDoorV5
import Derived.Test.YtmjbloiidajknaaGreatDoorRows
set_option maxRecDepth 100000
set_option maxHeartbeats 2000000
set_option linter.unusedVariables false
set_option linter.unusedSimpArgs false
namespace Go.Proofs
open Go Go.Ab
def hexS : Bs := [48, 49, 50, 51, 52, 53, 54, 55, 56, 57, 97, 98, 99, 100, 101, 102]
def hvV (n : Int) : Int := (Z9 n).getD (-2)
def ixV (n : Int) : Int := Lib.indexByte hexS (IntKind.wrap .u8 ((BitVec.ofInt (IntKind.bits .u8) n ||| BitVec.ofInt (IntKind.bits .u8) (32 : Int)).toNat : Int)).toNat.toUInt8
def badV (n : Int) : Bool := ((decide (ixV n < (0 : Int))) || (decide (n < (48 : Int)))) || ((decide ((57 : Int) < n)) && (decide (n < (65 : Int))))
theorem hex_tab : (List.range 256).all (fun n => (Z9 (n : Int) == some (hvV (n : Int))) && ((badV (n : Int) == decide (hvV (n : Int) < 0)) && ((decide (hvV (n : Int) < 0) || decide (ixV (n : Int) = hvV (n : Int))) && (decide (-1 ≤ hvV (n : Int)) && decide (hvV (n : Int) ≤ 15))))) = true := by
 set_option maxRecDepth 100000 in kernel_rfl
theorem hex_at (c : UInt8) : Z9 ((c.toNat : Nat) : Int) = some (hvV ((c.toNat : Nat) : Int)) ∧ badV ((c.toNat : Nat) : Int) = decide (hvV ((c.toNat : Nat) : Int) < 0) ∧ (hvV ((c.toNat : Nat) : Int) < 0 ∨ ixV ((c.toNat : Nat) : Int) = hvV ((c.toNat : Nat) : Int)) ∧ -1 ≤ hvV ((c.toNat : Nat) : Int) ∧ hvV ((c.toNat : Nat) : Int) ≤ 15 := by
 have h := List.all_eq_true.1 hex_tab c.toNat (List.mem_range.2 c.toNat_lt)
 simp only [Bool.and_eq_true, Bool.or_eq_true, decide_eq_true_eq, beq_iff_eq] at h
 exact ⟨h.1, h.2.1, h.2.2.1, h.2.2.2.1, h.2.2.2.2⟩
def plV (n : Int) : Int × Bool := (Z45 n).getD (0, false)
theorem pl_tab : (List.range 256).all (fun n => (Z45 (n : Int) == some (plV (n : Int))) && (decide (0 ≤ (plV (n : Int)).1) && decide ((plV (n : Int)).1 < 256))) = true := by
 set_option maxRecDepth 100000 in kernel_rfl
theorem pl_at (c : UInt8) : Z45 ((c.toNat : Nat) : Int) = some (plV ((c.toNat : Nat) : Int)) ∧ 0 ≤ (plV ((c.toNat : Nat) : Int)).1 ∧ (plV ((c.toNat : Nat) : Int)).1 < 256 := by
 have h := List.all_eq_true.1 pl_tab c.toNat (List.mem_range.2 c.toNat_lt)
 simp only [Bool.and_eq_true, decide_eq_true_eq, beq_iff_eq] at h
 exact ⟨h.1, h.2.1, h.2.2⟩
theorem simple_plain (n : Int) : Z8 n = Z45 n := rfl
def Rp (B : Strings_Builder) (l : Bs) : Prop := (l = [] ∧ B.Fbuf = ⟨true, []⟩) ∨ (l ≠ [] ∧ B.Fbuf = ⟨false, l.map fun b => (b.toNat : Int)⟩)
theorem Rp.buf {B : Strings_Builder} {l : Bs} (h : Rp B l) : B.Fbuf.l = l.map fun b => (b.toNat : Int) := by
 rcases h with ⟨rfl, h⟩ | ⟨_, h⟩ <;> rw [h]; rfl
theorem byte_cast {n : Int} (h0 : 0 ≤ n) (h1 : n < 256) : ((UInt8.ofNat n.toNat).toNat : Int) = n := by
 rw [UInt8.toNat_ofNat', Nat.mod_eq_of_lt (by omega)]; omega
theorem Rp.wb {B : Strings_Builder} {l : Bs} (h : Rp B l) {n : Int} (h0 : 0 ≤ n) (h1 : n < 256) (hl : l.length ≤ 1048576) : ∃ B', Z34 B n = some (false, B') ∧ Rp B' (l ++ [UInt8.ofNat n.toNat]) := by
 refine ⟨⟨true, ⟨false, (l ++ [UInt8.ofNat n.toNat]).map fun b => (b.toNat : Int)⟩⟩, ?_, .inr ⟨by simp, rfl⟩⟩
 have hb := h.buf
 have hlen : B.Fbuf.l.length = l.length := by rw [hb, List.length_map]
 unfold Z34 Z35 appC
 simp only [Option.bind_some]
 rw [if_pos (by rw [hlen]; simp only [List.length_cons, List.length_nil]; unfold maxN; omega)]
 simp only [Option.bind_some, hb, List.map_append, List.map_cons, List.map_nil, byte_cast h0 h1, List.isEmpty_cons, Bool.and_false]
theorem Rp.str {B : Strings_Builder} {l : Bs} (h : Rp B l) : Z33 B = some l := by
 unfold Z33 bldStr
 rw [if_pos]
 ·refine congrArg some ?_
  unfold bytesC
  rw [h.buf, List.map_map]
  conv => rhs; rw [← List.map_id l]
  refine List.map_congr_left fun b _ => ?_
  simp
 ·refine ⟨?_, ?_⟩
  ·rw [h.buf, List.all_map, List.all_eq_true]
   intro b _
   have := b.toNat_lt
   simp; omega
  ·rcases h with ⟨_, h⟩ | ⟨h2, h⟩
   ·rw [h]; exact .inl ⟨rfl, rfl⟩
   ·rw [h]; exact .inr ⟨rfl, by simpa using h2⟩
theorem cat_one {l : Bs} {n : Int} (hl : l.length ≤ 1048576) : catC l (bytesC (⟨false, [n]⟩ : Sl Int)) = some (l ++ [UInt8.ofNat n.toNat]) := by
 unfold catC bytesC
 rw [if_pos (by simp only [List.map_cons, List.map_nil, List.length_cons, List.length_nil]; unfold maxS; omega)]
 rfl
def hex4 (a b c d : Int) : Int := bif decide (hvV a < 0) || (decide (hvV b < 0) || (decide (hvV c < 0) || decide (hvV d < 0))) then -1 else ((hvV a * 16 + hvV b) * 16 + hvV c) * 16 + hvV d
theorem code_step (s : Bs) (n : Nat) (v : Int) (i : Nat) (c : UInt8) (hc : s[i]? = some c) (h4 : i < 4) (h0 : 0 ≤ v) (h1 : v ≤ 65536) : Z6_l12 s (n + 1) v (i : Int) = bif decide (hvV ((c.toNat : Nat) : Int) < 0) then some (-1) else Z6_l12 s n (v * 16 + hvV ((c.toNat : Nat) : Int)) ((i + 1 : Nat) : Int) := by
 obtain ⟨e1, -, -, e4, e5⟩ := hex_at c
 have m1 : mulC 16 v = some (v * 16) := by unfold mulC; rw [if_pos (by omega), Int.mul_comm]
 have one : addC (i : Int) 1 = some (((i + 1 : Nat)) : Int) := by rw [addC_ok (by omega)]; rfl
 have two : addC (v * 16) (hvV ((c.toNat : Nat) : Int)) = some (v * 16 + hvV ((c.toNat : Nat) : Int)) := addC_ok (by omega)
 rw [Z6_l12, show decide ((i : Int) < 4) = true from decide_eq_true (by omega), idxC_nat, hc, cond_true, Option.bind_some, e1, Option.bind_some]
 rw [m1, Option.bind_some, Option.bind_some, e1, Option.bind_some, two, Option.bind_some, one, Option.bind_some]
theorem code_eq (a b c d : UInt8) : Z6 [a, b, c, d] = some (hex4 (a.toNat : Nat) (b.toNat : Nat) (c.toNat : Nat) (d.toNat : Nat)) := by
 obtain ⟨-, -, -, a4, a5⟩ := hex_at a
 obtain ⟨-, -, -, b4, b5⟩ := hex_at b
 obtain ⟨-, -, -, c4, c5⟩ := hex_at c
 obtain ⟨-, -, -, d4, d5⟩ := hex_at d
 unfold Z6
 rw [show (!decide ((((([a, b, c, d] : Bs).length : Nat)) : Int) = 4)) = false from rfl, cond_false]
 obtain ⟨m, hm⟩ : ∃ m, F0 = m + 1 + 1 + 1 + 1 + 1 := ⟨4611686018427387899, by rw [F0_eq]⟩
 rw [hm]
 unfold hex4
 have s1 := code_step [a, b, c, d] (m + 1 + 1 + 1 + 1) 0 0 a rfl (by omega) (by omega) (by omega)
 rw [show (((0 : Nat) : Int)) = 0 from rfl] at s1
 rw [s1]
 cases ha : decide (hvV ((a.toNat : Nat) : Int) < 0)
 ·have ha := of_decide_eq_false ha
  rw [cond_false, code_step [a, b, c, d] (m + 1 + 1 + 1) _ 1 b rfl (by omega) (by omega) (by omega)]
  cases hb : decide (hvV ((b.toNat : Nat) : Int) < 0)
  ·have hb := of_decide_eq_false hb
   rw [cond_false, code_step [a, b, c, d] (m + 1 + 1) _ 2 c rfl (by omega) (by omega) (by omega)]
   cases hc : decide (hvV ((c.toNat : Nat) : Int) < 0)
   ·have hc := of_decide_eq_false hc
    rw [cond_false, code_step [a, b, c, d] (m + 1) _ 3 d rfl (by omega) (by omega) (by omega)]
    cases hd : decide (hvV ((d.toNat : Nat) : Int) < 0)
    ·rw [cond_false, Z6_l12]
     have e : (0 * 16 + hvV ((a.toNat : Nat) : Int)) = hvV ((a.toNat : Nat) : Int) := by omega
     rw [e]
     rfl
    ·rfl
   ·rfl
  ·rfl
 ·rfl
theorem hexT_step (y : Strings_Builder) (j : Int) (s : Sl Int) (k : Int → Strings_Builder → Option (Bs × Int)) (n : Nat) (v : Int) (i : Nat) (c : UInt8) (hc : s.l[i]? = some ((c.toNat : Nat) : Int)) (h0 : 0 ≤ v) (h1 : v ≤ 65536) : Z44_l81 y j s k (n + 1) v i = bif decide (hvV ((c.toNat : Nat) : Int) < 0) then some ([], 3) else Z44_l81 y j s k n (v * 16 + hvV ((c.toNat : Nat) : Int)) (i + 1) := by
 obtain ⟨-, e2, e3, e4, e5⟩ := hex_at c
 have hi := (List.getElem?_eq_some_iff.1 hc).1
 rw [Z44_l81, show decide (((i : Nat) : Int) < ((s.l.length : Nat) : Int)) = true from decide_eq_true (by omega), hc]
 have ei : ∀ f : Int → Option (Bs × Int), (Z39 ([48, 49, 50, 51, 52, 53, 54, 55, 56, 57, 97, 98, 99, 100, 101, 102] : Bs) (IntKind.wrap .u8 ((BitVec.ofInt (IntKind.bits .u8) ((c.toNat : Nat) : Int) ||| BitVec.ofInt (IntKind.bits .u8) (32 : Int)).toNat : Int))).bind f = f (ixV ((c.toNat : Nat) : Int)) := fun _ => rfl
 simp only [cond_true, Option.bind_some]
 rw [ei]
 rw [show ((((decide (ixV ((c.toNat : Nat) : Int) < (0 : Int))) || (decide (((c.toNat : Nat) : Int) < (48 : Int)))) || ((decide ((57 : Int) < ((c.toNat : Nat) : Int))) && (decide (((c.toNat : Nat) : Int) < (65 : Int)))))) = decide (hvV ((c.toNat : Nat) : Int) < 0) from e2]
 cases hv : decide (hvV ((c.toNat : Nat) : Int) < 0)
 ·have hv := of_decide_eq_false hv
  have e3 : ixV ((c.toNat : Nat) : Int) = hvV ((c.toNat : Nat) : Int) := e3.resolve_left hv
  have m1 : mulC v 16 = some (v * 16) := by unfold mulC; rw [if_pos (by omega)]
  rw [cond_false, cond_false, m1, Option.bind_some, e3, addC_ok (by omega), Option.bind_some]
 ·rfl
theorem hexT_eq (y : Strings_Builder) (j : Int) (a b c d : UInt8) (k : Int → Strings_Builder → Option (Bs × Int)) : Z44_l81 y j (strSl [a, b, c, d]) k ((strSl [a, b, c, d]).l.length + 1) 0 0 = bif decide (hex4 (a.toNat : Nat) (b.toNat : Nat) (c.toNat : Nat) (d.toNat : Nat) < 0) || decide (255 < hex4 (a.toNat : Nat) (b.toNat : Nat) (c.toNat : Nat) (d.toNat : Nat)) then some ([], 3) else (Z34 y (IntKind.wrap .u8 (hex4 (a.toNat : Nat) (b.toNat : Nat) (c.toNat : Nat) (d.toNat : Nat)))).bind fun x73 => (addC j (4 : Int)).bind fun x74 => Z44_j29 k x74 x73.2 := by
 obtain ⟨-, -, -, a4, a5⟩ := hex_at a
 obtain ⟨-, -, -, b4, b5⟩ := hex_at b
 obtain ⟨-, -, -, c4, c5⟩ := hex_at c
 obtain ⟨-, -, -, d4, d5⟩ := hex_at d
 show Z44_l81 y j (strSl [a, b, c, d]) k (0 + 1 + 1 + 1 + 1 + 1) 0 0 = _
 rw [hexT_step y j (strSl [a, b, c, d]) k _ 0 0 a rfl (by omega) (by omega)]
 cases ha : decide (hvV ((a.toNat : Nat) : Int) < 0)
 ·have ha' := of_decide_eq_false ha
  rw [cond_false, hexT_step y j (strSl [a, b, c, d]) k _ _ 1 b rfl (by omega) (by omega)]
  cases hb : decide (hvV ((b.toNat : Nat) : Int) < 0)
  ·have hb' := of_decide_eq_false hb
   rw [cond_false, hexT_step y j (strSl [a, b, c, d]) k _ _ 2 c rfl (by omega) (by omega)]
   cases hc : decide (hvV ((c.toNat : Nat) : Int) < 0)
   ·have hc' := of_decide_eq_false hc
    rw [cond_false, hexT_step y j (strSl [a, b, c, d]) k _ _ 3 d rfl (by omega) (by omega)]
    cases hd : decide (hvV ((d.toNat : Nat) : Int) < 0)
    ·have hd' := of_decide_eq_false hd
     have e : (0 * 16 + hvV ((a.toNat : Nat) : Int)) = hvV ((a.toNat : Nat) : Int) := by omega
     have e4 : hex4 (a.toNat : Nat) (b.toNat : Nat) (c.toNat : Nat) (d.toNat : Nat) = ((hvV ((a.toNat : Nat) : Int) * 16 + hvV ((b.toNat : Nat) : Int)) * 16 + hvV ((c.toNat : Nat) : Int)) * 16 + hvV ((d.toNat : Nat) : Int) := by
      unfold hex4; rw [ha, hb, hc, hd]; rfl
     rw [cond_false, Z44_l81, e4, e, show decide (((((hvV ((a.toNat : Nat) : Int) * 16 + hvV ((b.toNat : Nat) : Int)) * 16 + hvV ((c.toNat : Nat) : Int)) * 16 + hvV ((d.toNat : Nat) : Int)) < 0)) = false from decide_eq_false (by omega)]
     rfl
    ·have e4 : hex4 (a.toNat : Nat) (b.toNat : Nat) (c.toNat : Nat) (d.toNat : Nat) = -1 := by unfold hex4; rw [hd]; simp
     rw [e4]; rfl
   ·have e4 : hex4 (a.toNat : Nat) (b.toNat : Nat) (c.toNat : Nat) (d.toNat : Nat) = -1 := by unfold hex4; rw [hc]; simp
    rw [e4]; rfl
  ·have e4 : hex4 (a.toNat : Nat) (b.toNat : Nat) (c.toNat : Nat) (d.toNat : Nat) = -1 := by unfold hex4; rw [hb]; simp
   rw [e4]; rfl
 ·have e4 : hex4 (a.toNat : Nat) (b.toNat : Nat) (c.toNat : Nat) (d.toNat : Nat) = -1 := by unfold hex4; rw [ha]; simp
  rw [e4]; rfl
end Go.Proofs

namespace Go.Proofs
open Go Go.Ab
theorem add_nat {i k : Nat} (h : i ≤ 2097152) (hk : k ≤ 2097152) : addC (i : Int) (k : Int) = some ((i + k : Nat) : Int) := by rw [addC_ok (by omega)]; exact some_nat rfl
theorem j29_eq (k : Int → Strings_Builder → Option (Bs × Int)) {i : Nat} (h : i ≤ 2097152) (B : Strings_Builder) : Z44_j29 k (i : Int) B = k ((i + 1 : Nat) : Int) B := by
 unfold Z44_j29
 rw [show (1 : Int) = ((1 : Nat) : Int) from rfl, add_nat h (by omega), Option.bind_some]
theorem wrap8_byte (c : UInt8) : UInt8.ofNat (((c.toNat : Nat) : Int)).toNat = c := by
 rw [Int.toNat_natCast]; exact UInt8.ofNat_toNat
theorem wrap8_small {n : Int} (h0 : 0 ≤ n) (h1 : n < 256) : IntKind.wrap .u8 n = n := by
 simp [IntKind.wrap, IntKind.bits, IntKind.signed]; omega
theorem four {s : Bs} {i : Nat} (h : i + 4 ≤ s.length) : ∃ a b c d, (s.drop i).take 4 = [a, b, c, d] := by
 have h1 : ∀ k, k < 4 → ∃ c, s[i + k]? = some c := fun k hk => ⟨_, List.getElem?_eq_getElem (by omega)⟩
 obtain ⟨a, ha⟩ := h1 0 (by omega)
 obtain ⟨b, hb⟩ := h1 1 (by omega)
 obtain ⟨c, hc⟩ := h1 2 (by omega)
 obtain ⟨d, hd⟩ := h1 3 (by omega)
 exact ⟨a, b, c, d, by rw [drop_cons (show s[i]? = some a from ha), drop_cons hb, drop_cons hc, drop_cons hd]; rfl⟩
def badC (c : UInt8) : Bool := ((decide (((c.toNat : Nat) : Int) < (32 : Int))) || (decide ((126 : Int) < ((c.toNat : Nat) : Int)))) || (decide (((c.toNat : Nat) : Int) = (34 : Int)))
theorem tU_stop (x : Bs) (n i : Nat) (B : Strings_Builder) (h : x.length ≤ i) : Z44_l22 x (n + 1) (i : Int) B = Z44_j17 B := by
 rw [Z44_l22, show decide ((i : Int) < ((x.length : Nat) : Int)) = false from decide_eq_false (by omega), cond_false]
theorem rU_stop (x : Bs) (n i : Nat) (o : Bs) (h : x.length ≤ i) : Z5_l19 x (n + 1) o (i : Int) = some (o, 0) := by
 rw [Z5_l19, show decide ((i : Int) < ((x.length : Nat) : Int)) = false from decide_eq_false (by omega), cond_false]; rfl
theorem tU_bad {x : Bs} (n : Nat) {i : Nat} (B : Strings_Builder) {c : UInt8} (hc : x[i]? = some c) (h : badC c = true) : Z44_l22 x (n + 1) (i : Int) B = some ([], 3) := by
 have hi := (List.getElem?_eq_some_iff.1 hc).1
 unfold badC at h
 rw [Z44_l22, show decide ((i : Int) < ((x.length : Nat) : Int)) = true from decide_eq_true (by omega), cond_true, idxC_nat, hc, Option.bind_some, h, cond_true]
theorem rU_bad {x : Bs} (n : Nat) {i : Nat} (o : Bs) {c : UInt8} (hc : x[i]? = some c) (h : badC c = true) : Z5_l19 x (n + 1) o (i : Int) = some ([], 3) := by
 have hi := (List.getElem?_eq_some_iff.1 hc).1
 unfold badC at h
 rw [Z5_l19, show decide ((i : Int) < ((x.length : Nat) : Int)) = true from decide_eq_true (by omega), cond_true, idxC_nat, hc, Option.bind_some, h, cond_true]
theorem tU_char {x : Bs} (n : Nat) {i : Nat} {B B' : Strings_Builder} {c : UInt8} (hi2 : i ≤ 2097152) (hc : x[i]? = some c) (h : badC c = false) (h92 : decide (((c.toNat : Nat) : Int) = 92) = false) (hw : Z34 B ((c.toNat : Nat) : Int) = some (false, B')) : Z44_l22 x (n + 1) (i : Int) B = Z44_l22 x n ((i + 1 : Nat) : Int) B' := by
 have hi := (List.getElem?_eq_some_iff.1 hc).1
 unfold badC at h
 rw [Z44_l22, show decide ((i : Int) < ((x.length : Nat) : Int)) = true from decide_eq_true (by omega), cond_true, idxC_nat, hc, Option.bind_some, h, cond_false, h92, Bool.not_false, cond_true, hw, Option.bind_some, j29_eq _ hi2]
theorem rU_char {x : Bs} (n : Nat) {i : Nat} {o : Bs} {c : UInt8} (hi2 : i ≤ 1048576) (ho : o.length ≤ 1048576) (hc : x[i]? = some c) (h : badC c = false) (h92 : decide (((c.toNat : Nat) : Int) = 92) = false) : Z5_l19 x (n + 1) o (i : Int) = Z5_l19 x n (o ++ [c]) ((i + 1 : Nat) : Int) := by
 have hi := (List.getElem?_eq_some_iff.1 hc).1
 unfold badC at h
 have one : addC (i : Int) 1 = some (((i + 1 : Nat)) : Int) := add_nat (k := 1) (by omega) (by omega)
 rw [Z5_l19, show decide ((i : Int) < ((x.length : Nat) : Int)) = true from decide_eq_true (by omega), cond_true, idxC_nat, hc, Option.bind_some, h, cond_false, h92, Bool.not_false, cond_true, cat_one ho, Option.bind_some, one, Option.bind_some, wrap8_byte]
theorem tU_end {x : Bs} (n : Nat) {i : Nat} (B : Strings_Builder) {c : UInt8} (hi2 : i ≤ 1048576) (hc : x[i]? = some c) (h : badC c = false) (h92 : decide (((c.toNat : Nat) : Int) = 92) = true) (hn : x.length ≤ i + 1) : Z44_l22 x (n + 1) (i : Int) B = some ([], 3) := by
 have hi := (List.getElem?_eq_some_iff.1 hc).1
 unfold badC at h
 have one : addC (i : Int) 1 = some (((i + 1 : Nat)) : Int) := add_nat (k := 1) (by omega) (by omega)
 rw [Z44_l22, show decide ((i : Int) < ((x.length : Nat) : Int)) = true from decide_eq_true (by omega), cond_true, idxC_nat, hc, Option.bind_some, h, cond_false, h92, Bool.not_true, cond_false, one, Option.bind_some, show decide (((i + 1 : Nat) : Int) = ((x.length : Nat) : Int)) = true from decide_eq_true (by omega), cond_true]
theorem rU_end {x : Bs} (n : Nat) {i : Nat} (o : Bs) {c : UInt8} (hi2 : i ≤ 1048576) (hc : x[i]? = some c) (h : badC c = false) (h92 : decide (((c.toNat : Nat) : Int) = 92) = true) (hn : x.length ≤ i + 1) : Z5_l19 x (n + 1) o (i : Int) = some ([], 3) := by
 have hi := (List.getElem?_eq_some_iff.1 hc).1
 unfold badC at h
 have one : addC (i : Int) 1 = some (((i + 1 : Nat)) : Int) := add_nat (k := 1) (by omega) (by omega)
 rw [Z5_l19, show decide ((i : Int) < ((x.length : Nat) : Int)) = true from decide_eq_true (by omega), cond_true, idxC_nat, hc, Option.bind_some, h, cond_false, h92, Bool.not_true, cond_false, one, Option.bind_some, show decide (((x.length : Nat) : Int) ≤ ((i + 1 : Nat) : Int)) = true from decide_eq_true (by omega), cond_true]
theorem tU_esc {x : Bs} (n : Nat) {i : Nat} (B : Strings_Builder) {c d : UInt8} (hi2 : i ≤ 1048576) (hc : x[i]? = some c) (h : badC c = false) (h92 : decide (((c.toNat : Nat) : Int) = 92) = true) (hd : x[i + 1]? = some d) :
  Z44_l22 x (n + 1) (i : Int) B = bif (plV ((d.toNat : Nat) : Int)).2 then ((Z34 B (plV ((d.toNat : Nat) : Int)).1).bind fun x58 => Z44_j29 (Z44_l22 x n) ((i + 1 : Nat) : Int) x58.2) else bif (!decide (((d.toNat : Nat) : Int) = (117 : Int))) || (decide (x.length ≤ i + 5)) then (some (([] : Bs), (3 : Int))) else ((cutC x (some ((i + 2 : Nat) : Int)) (some ((i + 6 : Nat) : Int))).bind fun x78 => (bytesOf x78).bind fun x79 => Z44_l81 B ((i + 1 : Nat) : Int) x79 (Z44_l22 x n) (x79.l.length + 1) (0 : Int) 0) := by
 have hi := (List.getElem?_eq_some_iff.1 hc).1
 have hi1 := (List.getElem?_eq_some_iff.1 hd).1
 unfold badC at h
 have one : addC (i : Int) 1 = some (((i + 1 : Nat)) : Int) := add_nat (k := 1) (by omega) (by omega)
 have a1 : addC ((i + 1 : Nat) : Int) 1 = some (((i + 2 : Nat)) : Int) := add_nat (i := i + 1) (k := 1) (by omega) (by omega)
 have a4 : addC ((i + 1 : Nat) : Int) 4 = some (((i + 5 : Nat)) : Int) := add_nat (i := i + 1) (k := 4) (by omega) (by omega)
 have a5 : addC ((i + 1 : Nat) : Int) 5 = some (((i + 6 : Nat)) : Int) := add_nat (i := i + 1) (k := 5) (by omega) (by omega)
 rw [Z44_l22, show decide ((i : Int) < ((x.length : Nat) : Int)) = true from decide_eq_true (by omega), cond_true, idxC_nat, hc, Option.bind_some, h, cond_false, h92, Bool.not_true, cond_false, one, Option.bind_some, show decide (((i + 1 : Nat) : Int) = ((x.length : Nat) : Int)) = false from decide_eq_false (by omega), cond_false, idxC_nat, hd, Option.bind_some, (pl_at d).1, Option.bind_some]
 cases (plV ((d.toNat : Nat) : Int)).2
 ·rw [cond_false, cond_false, Option.bind_some, a4, a1, a5]
  cases decide (((d.toNat : Nat) : Int) = (117 : Int))
  ·rfl
  ·unfold guardO
   rw [Bool.not_true, Bool.not_false, if_pos rfl, Option.bind_some, Bool.false_or, Bool.false_or, Option.bind_some, Option.bind_some, show decide (((x.length : Nat) : Int) ≤ ((i + 5 : Nat) : Int)) = decide (x.length ≤ i + 5) from decide_eq_decide.2 (by omega)]
 ·rfl
theorem rU_esc {x : Bs} (n : Nat) {i : Nat} {o : Bs} {c d : UInt8} (hi2 : i ≤ 1048576) (ho : o.length ≤ 1048576) (hc : x[i]? = some c) (h : badC c = false) (h92 : decide (((c.toNat : Nat) : Int) = 92) = true) (hd : x[i + 1]? = some d) :
  Z5_l19 x (n + 1) o (i : Int) = bif (plV ((d.toNat : Nat) : Int)).2 then Z5_l19 x n (o ++ [UInt8.ofNat (plV ((d.toNat : Nat) : Int)).1.toNat]) ((i + 2 : Nat) : Int) else bif (!decide (((d.toNat : Nat) : Int) = (117 : Int))) || (decide (x.length ≤ i + 5)) then (some (([] : Bs), (3 : Int))) else ((cutC x (some ((i + 2 : Nat) : Int)) (some ((i + 6 : Nat) : Int))).bind fun x66 => (Z6 x66).bind fun x67 => bif ((decide (x67 < (0 : Int))) || (decide ((255 : Int) < x67))) then (some (([] : Bs), (3 : Int))) else Z5_l19 x n (o ++ [UInt8.ofNat (IntKind.wrap .u8 x67).toNat]) ((i + 6 : Nat) : Int)) := by
 have hi := (List.getElem?_eq_some_iff.1 hc).1
 have hi1 := (List.getElem?_eq_some_iff.1 hd).1
 unfold badC at h
 have one : addC (i : Int) 1 = some (((i + 1 : Nat)) : Int) := add_nat (k := 1) (by omega) (by omega)
 have a2 : addC (i : Int) 2 = some (((i + 2 : Nat)) : Int) := add_nat (k := 2) (by omega) (by omega)
 have a6 : addC (i : Int) 6 = some (((i + 6 : Nat)) : Int) := add_nat (k := 6) (by omega) (by omega)
 rw [Z5_l19, show decide ((i : Int) < ((x.length : Nat) : Int)) = true from decide_eq_true (by omega), cond_true, idxC_nat, hc, Option.bind_some, h, cond_false, h92, Bool.not_true, cond_false, one, Option.bind_some, show decide (((x.length : Nat) : Int) ≤ ((i + 1 : Nat) : Int)) = false from decide_eq_false (by omega), cond_false, Option.bind_some, idxC_nat, hd, Option.bind_some, simple_plain, (pl_at d).1, Option.bind_some]
 cases (plV ((d.toNat : Nat) : Int)).2
 ·rw [cond_false, cond_false, Option.bind_some, idxC_nat, hd, Option.bind_some, a6, a2]
  cases decide (((d.toNat : Nat) : Int) = (117 : Int))
  ·rfl
  ·unfold guardO
   rw [Bool.not_true, Bool.not_false, if_pos rfl, Option.bind_some, Bool.false_or, Bool.false_or, Option.bind_some, Option.bind_some, show decide (((x.length : Nat) : Int) < ((i + 6 : Nat) : Int)) = decide (x.length ≤ i + 5) from decide_eq_decide.2 (by omega)]
   cases decide (x.length ≤ i + 5)
   ·simp only [cond_false, cat_one ho, Option.bind_some]
   ·rfl
 ·rw [cond_true, cond_true, cat_one ho, Option.bind_some, a2, Option.bind_some]
theorem unq_loop (x : Bs) (hx : x.length ≤ 1048576) : ∀ (n i : Nat) (B : Strings_Builder) (o : Bs), Rp B o → o.length ≤ i → i ≤ x.length → x.length - i < n → ∃ r e, Z44_l22 x n (i : Int) B = some (r, e) ∧ Z5_l19 x n o (i : Int) = some (r, e) ∧ r.length ≤ x.length
 | 0, _, _, _, _, _, _, h => by omega
 | n + 1, i, B, o, hB, ho, hi, hn => by
  by_cases hlt : i < x.length
  ·obtain ⟨c, hc⟩ : ∃ c, x[i]? = some c := ⟨x[i], List.getElem?_eq_getElem hlt⟩
   cases hb : badC c
   ·cases h92 : decide (((c.toNat : Nat) : Int) = 92)
    ·obtain ⟨B', hw, hB'⟩ := hB.wb (n := ((c.toNat : Nat) : Int)) (by omega) (by have := c.toNat_lt; omega) (by omega)
     rw [tU_char n (by omega) hc hb h92 hw, rU_char n (by omega) (by omega) hc hb h92]
     rw [wrap8_byte] at hB'
     exact unq_loop x hx n (i + 1) B' _ hB' (by simp; omega) (by omega) (by omega)
    ·by_cases h1 : x.length ≤ i + 1
     ·exact ⟨[], 3, tU_end n B (by omega) hc hb h92 h1, rU_end n o (by omega) hc hb h92 h1, by simp⟩
     ·obtain ⟨d, hd⟩ : ∃ d, x[i + 1]? = some d := ⟨_, List.getElem?_eq_getElem (show i + 1 < x.length by omega)⟩
      rw [tU_esc n B (by omega) hc hb h92 hd, rU_esc n (by omega) (by omega) hc hb h92 hd]
      cases (plV ((d.toNat : Nat) : Int)).2
      ·rw [cond_false, cond_false]
       cases hs : (!decide (((d.toNat : Nat) : Int) = (117 : Int))) || (decide (x.length ≤ i + 5))
       ·have h6 : i + 6 ≤ x.length := by
         simp only [Bool.or_eq_false_iff, decide_eq_false_iff_not] at hs; omega
        obtain ⟨p, q, r, s, h4⟩ := four (s := x) (i := i + 2) (by omega)
        have hcut : cutC x (some ((i + 2 : Nat) : Int)) (some ((i + 6 : Nat) : Int)) = some [p, q, r, s] := by
         rw [cut_part (by omega) (by omega), show i + 6 - (i + 2) = 4 by omega, h4]
        have hbo : bytesOf [p, q, r, s] = some (strSl [p, q, r, s]) := rfl
        rw [cond_false, cond_false, hcut, Option.bind_some, Option.bind_some, hbo, Option.bind_some, hexT_eq, code_eq, Option.bind_some]
        generalize hex4 ((p.toNat : Nat) : Int) ((q.toNat : Nat) : Int) ((r.toNat : Nat) : Int) ((s.toNat : Nat) : Int) = v
        cases hv : decide (v < 0) || decide (255 < v)
        ·simp only [Bool.or_eq_false_iff, decide_eq_false_iff_not] at hv
         rw [cond_false, cond_false, wrap8_small (by omega) (by omega)]
         obtain ⟨B', hw, hB'⟩ := hB.wb (n := v) (by omega) (by omega) (by omega)
         have a4 : addC ((i + 1 : Nat) : Int) 4 = some (((i + 5 : Nat)) : Int) := add_nat (i := i + 1) (k := 4) (by omega) (by omega)
         rw [hw, Option.bind_some, a4, Option.bind_some, j29_eq _ (by omega)]
         exact unq_loop x hx n (i + 6) B' _ hB' (by simp; omega) (by omega) (by omega)
        ·exact ⟨[], 3, rfl, rfl, by simp⟩
       ·exact ⟨[], 3, rfl, rfl, by simp⟩
      ·obtain ⟨-, p0, p1⟩ := pl_at d
       obtain ⟨B', hw, hB'⟩ := hB.wb p0 p1 (by omega)
       rw [cond_true, cond_true, hw, Option.bind_some, j29_eq _ (by omega)]
       exact unq_loop x hx n (i + 2) B' _ hB' (by simp; omega) (by omega) (by omega)
   ·exact ⟨[], 3, tU_bad n B hc hb, rU_bad n o hc hb, by simp⟩
  ·refine ⟨o, 0, ?_, rU_stop x n i o (by omega), by omega⟩
   rw [tU_stop x n i B (by omega)]
   unfold Z44_j17
   rw [hB.str, Option.bind_some]
theorem unquote_eq {s : Bs} (hs : s.length ≤ 1048576) : ∃ r e, Z44 s = some (r, e) ∧ Z5 s = some (r, e) ∧ r.length ≤ s.length := by
 unfold Z44 Z5
 by_cases h2 : s.length < 2
 ·rw [show decide (((s.length : Nat) : Int) < 2) = true from decide_eq_true (by omega)]
  exact ⟨[], 3, rfl, rfl, by simp⟩
 ·rw [show decide (((s.length : Nat) : Int) < 2) = false from decide_eq_false (by omega)]
  obtain ⟨c, hc⟩ : ∃ c, s[0]? = some c := ⟨_, List.getElem?_eq_getElem (show 0 < s.length by omega)⟩
  have hsub : subC ((s.length : Nat) : Int) 1 = some ((s.length - 1 : Nat) : Int) := by rw [subC_ok (by omega)]; exact congrArg some (by omega)
  obtain ⟨z, hz⟩ : ∃ z, s[s.length - 1]? = some z := ⟨_, List.getElem?_eq_getElem (show s.length - 1 < s.length by omega)⟩
  have hcut : cutC s (some (1 : Int)) (some ((s.length - 1 : Nat) : Int)) = some ((s.drop 1).take (s.length - 1 - 1)) := cut_part (i := 1) (by omega) (by omega)
  rw [hc, hsub]
  simp only [guardO, Bool.not_false, if_true, Option.bind_some, Bool.false_or, idxC_nat, hz]
  cases decide (((c.toNat : Nat) : Int) = 34)
  ·exact ⟨[], 3, rfl, rfl, by simp⟩
  ·simp only [Bool.not_true, Bool.not_false, if_true, Option.bind_some, Bool.false_or, idxC_nat, hz, hcut]
   cases decide (((z.toNat : Nat) : Int) = 34)
   ·exact ⟨[], 3, rfl, rfl, by simp⟩
   ·obtain ⟨r, e, h1, h3, h4⟩ := unq_loop ((s.drop 1).take (s.length - 1 - 1)) (by simp; omega) F0 0 Strings_Builder.zero [] (.inl ⟨rfl, rfl⟩) (by simp) (by omega) (by rw [F0_eq]; simp; omega)
    exact ⟨r, e, h1, h3, by simp at h4; omega⟩
end Go.Proofs

namespace Go.Proofs
open Go Go.Ab
def sgV (n : Int) : Bool := (Z15 n).getD false
theorem sg_tab : (List.range 256).all (fun n => (Z15 (n : Int) == some (sgV (n : Int))) && ((Z36 ([33, 36, 38, 40, 41, 58, 61, 64, 91, 93, 123, 124, 125] : Bs) (n : Int) == some (sgV (n : Int))))) = true := by
 set_option maxRecDepth 100000 in kernel_rfl
theorem sg_at (c : UInt8) : Z15 ((c.toNat : Nat) : Int) = some (sgV ((c.toNat : Nat) : Int)) ∧ Z36 ([33, 36, 38, 40, 41, 58, 61, 64, 91, 93, 123, 124, 125] : Bs) ((c.toNat : Nat) : Int) = some (sgV ((c.toNat : Nat) : Int)) := by
 have h := List.all_eq_true.1 sg_tab c.toNat (List.mem_range.2 c.toNat_lt)
 simp only [Bool.and_eq_true, beq_iff_eq] at h
 exact h
theorem word_pos {s : Bs} {i : Nat} {c : UInt8} (hc : s[i]? = some c) (h : isW c = true) : 1 ≤ wordN (s.drop i) := by
 rw [drop_cons hc, wordN_cons, h, cond_true]; omega
theorem litR_cases (s : Bs) (i : Nat) (hi : i ≤ s.length) : litR s i false = -1 ∨ ∃ j : Nat, litR s i false = (j : Int) ∧ i ≤ j ∧ j ≤ s.length := by
 unfold litR
 cases h : litN false (s.drop i) with
 | none => exact .inl rfl
 | some k => 
  have := litN_le _ _ _ h
  simp only [List.length_drop] at this
  exact .inr ⟨i + k, rfl, by omega, by omega⟩
theorem letter_eq' (c : UInt8) : Z47 ((c.toNat : Nat) : Int) = some (isW c) := rfl
theorem one_eq {s : Bs} (hs : s.length ≤ 1048576) {i : Nat} (hi : i < s.length) : ∃ (t : Token_Token) (j e : Int), Z49 s (i : Int) = some (t, j, e) ∧ Z14 s (i : Int) = some (⟨t.FKind, t.FText, t.FAt⟩, j, e) ∧ (e = 0 → ∃ m : Nat, j = (m : Int) ∧ i < m ∧ m ≤ s.length) := by
 obtain ⟨c, hc⟩ : ∃ c, s[i]? = some c := ⟨_, List.getElem?_eq_getElem hi⟩
 have hlt := c.toNat_lt
 have one : addC (i : Int) 1 = some (((i + 1 : Nat)) : Int) := add_nat (k := 1) (by omega) (by omega)
 have three : addC (i : Int) 3 = some (((i + 3 : Nat)) : Int) := add_nat (k := 3) (by omega) (by omega)
 unfold Z49 Z14
 rw [idxC_nat, hc]
 simp only [Option.bind_some, wrap32]
 rw [(sg_at c).1, (sg_at c).2, Option.bind_some, Option.bind_some]
 cases hsg : sgV ((c.toNat : Nat) : Int)
 ·rw [cond_false, cond_false]
  by_cases h46 : ((c.toNat : Nat) : Int) = 46
  ·have hL : Z13 ((c.toNat : Nat) : Int) = some false := by rw [h46]; rfl
   have hD : Z12 ((c.toNat : Nat) : Int) = some false := by rw [h46]; rfl
   have hcut : cutC s (some (i : Int)) none = some (s.drop i) := cut_from (by omega)
   rw [decide_eq_true h46, cond_true, hcut, Option.bind_some, Z37_eq, Option.bind_some, three]
   have hp : Z37_q (s.drop i) ([46, 46, 46] : Bs) = (decide (i + 3 ≤ s.length) && (List.take 3 (s.drop i) == ([46, 46, 46] : Bs))) := by
    unfold Z37_q Z0_q
    simp only [Ab.on]
    rw [show decide (((([46, 46, 46] : Bs).length : Nat) : Int) ≤ (((s.drop i).length : Nat) : Int)) = decide (i + 3 ≤ s.length) from decide_eq_decide.2 (by simp only [List.length_cons, List.length_nil, List.length_drop]; omega)]
    cases decide (i + 3 ≤ s.length) <;> rfl
   rw [hp]
   by_cases h3 : i + 3 ≤ s.length
   ·have hcut3 : cutC s (some (i : Int)) (some ((i + 3 : Nat) : Int)) = some ((s.drop i).take 3) := by rw [cut_part (by omega) h3, show i + 3 - i = 3 by omega]
    simp only [guardO, if_true, Option.bind_some, Bool.true_and]
    rw [decide_eq_true (show ((i + 3 : Nat) : Int) ≤ ((s.length : Nat) : Int) by omega), if_pos rfl, if_pos rfl, hcut3, decide_eq_true h3]
    simp only [Option.bind_some, Bool.true_and]
    cases List.take 3 (s.drop i) == ([46, 46, 46] : Bs)
    ·rw [hL, hD, h46]
     exact ⟨_, _, _, rfl, rfl, fun h => absurd h (by decide)⟩
    ·exact ⟨_, _, _, rfl, rfl, fun _ => ⟨_, rfl, by omega, h3⟩⟩
   ·simp only [guardO, if_true, Option.bind_some, Bool.true_and]
    rw [decide_eq_false (show ¬ ((i + 3 : Nat) : Int) ≤ ((s.length : Nat) : Int) by omega), if_neg (by decide), if_neg (by decide), decide_eq_false h3]
    rw [hL, hD, h46]
    exact ⟨_, _, _, rfl, rfl, fun h => absurd h (by decide)⟩
  ·rw [decide_eq_false h46, cond_false]
   simp only [guardO, Bool.false_and, if_neg (show ¬ (false = true) by decide), cond_false]
   rw [letter_eq' c, rletter_eq, rdigit_eq, Option.bind_some, Option.bind_some, Option.bind_some, isW_eq]
   have hlet : isL c = true → ¬ ((c.toNat : Nat) : Int) = 45 ∧ isD c = false := by
    intro h
    unfold isL at h; unfold isD
    simp only [Bool.or_eq_true, Bool.and_eq_true, decide_eq_true_eq] at h
    refine ⟨by omega, ?_⟩
    rw [Bool.and_eq_false_iff, decide_eq_false_iff_not, decide_eq_false_iff_not]
    omega
   rw [show ((decide ((48 : Int) ≤ ((c.toNat : Nat) : Int))) && (decide (((c.toNat : Nat) : Int) ≤ (57 : Int)))) = isD c from rfl]
   cases hL : isL c
   ·rw [Bool.false_or, cond_false, Bool.or_comm (isD c)]
    cases hN : decide (((c.toNat : Nat) : Int) = (45 : Int)) || isD c
    ·rw [cond_false, cond_false]
     have hD : isD c = false := by rw [Bool.or_eq_false_iff] at hN; exact hN.2
     rw [hD, cond_false]
     cases h34 : decide (((c.toNat : Nat) : Int) = (34 : Int))
     ·exact ⟨_, _, _, rfl, rfl, fun h => absurd h (by decide)⟩
     ·rw [cond_true, cond_true, literal_eq hs hi, closing_eq hs hi, Option.bind_some, Option.bind_some]
      rcases litR_cases s (i + 1) (by omega) with h | ⟨j, h, h1, h2⟩
      ·rw [h]; exact ⟨_, _, _, rfl, rfl, fun h => absurd h (by decide)⟩
      ·rw [h, decide_eq_false (show ¬ ((j : Int) < 0) by omega), cond_false, cond_false, cut_part (by omega) h2, Option.bind_some, Option.bind_some]
       obtain ⟨r, e, u1, u2, -⟩ := unquote_eq (s := (s.drop i).take (j - i)) (by simp; omega)
       rw [u1, u2]
       exact ⟨_, _, _, rfl, rfl, fun _ => ⟨_, rfl, by omega, h2⟩⟩
    ·rw [cond_true, cond_true, one, Option.bind_some, Option.bind_some, span_eq hs (by omega), word_eq hs (by omega), Option.bind_some, Option.bind_some]
     have hw := wordN_le (s.drop (i + 1))
     simp only [List.length_drop] at hw
     rw [cut_part (by omega) (by omega), Option.bind_some, Option.bind_some]
     obtain ⟨v, h1⟩ := tnum_eq (s := (s.drop i).take (i + 1 + wordN (s.drop (i + 1)) - i)) (by simp; omega)
     obtain ⟨v', h2⟩ := rnum_eq ((s.drop i).take (i + 1 + wordN (s.drop (i + 1)) - i))
     rw [h1, h2]
     exact ⟨_, _, _, rfl, rfl, fun _ => ⟨_, rfl, by omega, by omega⟩⟩
   ·obtain ⟨h45, hD⟩ := hlet hL
    have hw := wordN_le (s.drop i)
    have hw1 := word_pos hc (by rw [isW_eq, hL]; rfl)
    simp only [List.length_drop] at hw
    rw [decide_eq_false h45, hD, Bool.or_self, cond_false, Bool.or_false, cond_true, cond_true, span_eq hs (by omega), word_eq hs (by omega), Option.bind_some, Option.bind_some, subC_ok (by omega), Option.bind_some, Option.bind_some]
    cases decide ((64 : Int) < ((i + wordN (s.drop i) : Nat) : Int) - (i : Int))
    ·rw [cond_false, cond_false, cut_part (by omega) (by omega), Option.bind_some, Option.bind_some]
     exact ⟨_, _, _, rfl, rfl, fun _ => ⟨_, rfl, by omega, by omega⟩⟩
    ·exact ⟨_, _, _, rfl, rfl, fun h => absurd h (by decide)⟩
 ·rw [cond_true, cond_true, one, Option.bind_some, Option.bind_some, cut_part (by omega) (by omega), Option.bind_some, Option.bind_some]
  exact ⟨_, _, _, rfl, rfl, fun _ => ⟨_, rfl, by omega, by omega⟩⟩
end Go.Proofs

namespace Go.Proofs
open Go Go.Ab
def cvT (t : Token_Token) : R04_Token := ⟨t.FKind, t.FText, t.FAt⟩
def cvS (s : Sl Token_Token) : Sl R04_Token := ⟨s.nl, s.l.map cvT⟩
theorem app_one {α : Type} {s : Sl α} {t : α} (h : s.l.length ≤ 1048576) : appC 32 s (⟨false, [t]⟩ : Sl α) = some ⟨false, s.l ++ [t]⟩ := by
 unfold appC
 rw [if_pos (by simp only [List.length_cons, List.length_nil]; unfold maxN; omega)]
 simp
theorem app_cv {s : Sl Token_Token} {t : Token_Token} (h : s.l.length ≤ 1048576) : appC 32 (cvS s) (⟨false, [cvT t]⟩ : Sl R04_Token) = some (cvS ⟨false, s.l ++ [t]⟩) := by
 rw [app_one (by simp [cvS]; exact h)]
 simp [cvS]
theorem scan_loop (s : Bs) (hs : s.length ≤ 1048575) : ∀ (n i : Nat) (A : Sl Token_Token), A.l.length ≤ i → i ≤ s.length → s.length - i < n → ∃ (L : Sl Token_Token) (p e : Int), Z46_l15 s n A (i : Int) = some (L, p, e) ∧ Z10_l16 s n (cvS A) (i : Int) = some (cvS L, p, e) ∧ L.l.length ≤ s.length + 1
 | 0, _, _, _, _, h => by omega
 | n + 1, i, A, hA, hi, hn => by
  rw [Z46_l15, Z10_l16]
  by_cases hlt : i < s.length
  ·rw [show decide ((i : Int) < ((s.length : Nat) : Int)) = true from decide_eq_true (by omega), cond_true, cond_true]
   obtain ⟨t, j, e, h1, h2, h3⟩ := one_eq (s := s) (by omega) hlt
   rw [h1, h2, Option.bind_some, Option.bind_some]
   by_cases he : e = 0
   ·obtain ⟨m, rfl, h4, h5⟩ := h3 he
    rw [show decide (e = 0) = true from decide_eq_true he, Bool.not_true, cond_false, cond_false, app_one (by omega), show (⟨t.FKind, t.FText, t.FAt⟩ : R04_Token) = cvT t from rfl, app_cv (by omega), Option.bind_some, Option.bind_some, skip_eq (by omega) h5, rskip_eq (by omega) h5, Option.bind_some, Option.bind_some]
    have hk := skN_le false (s.drop m)
    simp only [List.length_drop] at hk
    exact scan_loop s hs n _ ⟨false, A.l ++ [t]⟩ (by simp; omega) (by omega) (by omega)
   ·rw [show decide (e = 0) = false from decide_eq_false he, Bool.not_false, cond_true, cond_true]
    exact ⟨⟨true, []⟩, _, _, rfl, rfl, by simp⟩
  ·rw [show decide ((i : Int) < ((s.length : Nat) : Int)) = false from decide_eq_false (by omega), cond_false, cond_false]
   unfold Z46_j8 Z10_j10
   rw [app_one (by omega), show (⟨5, [], ((s.length : Nat) : Int)⟩ : R04_Token) = cvT ⟨5, [], ((s.length : Nat) : Int)⟩ from rfl, app_cv (by omega)]
   exact ⟨_, _, _, rfl, rfl, by simp; omega⟩
theorem scan_eq (s : Bs) : ∃ (L : Sl Token_Token) (p e : Int), Z46 s = some (L, p, e) ∧ Z10 s = some (cvS L, p, e) ∧ L.l.length ≤ 65537 := by
 unfold Z46 Z10
 by_cases h : s.length ≤ 65536
 ·rw [show decide ((65536 : Int) < ((s.length : Nat) : Int)) = false from decide_eq_false (by omega), cond_false, cond_false]
  have k1 := skip_eq (s := s) (i := 0) (by omega) (by omega)
  have k2 := rskip_eq (s := s) (i := 0) (by omega) (by omega)
  have hk := skN_le false (s.drop 0)
  rw [show (((0 : Nat) : Int)) = 0 from rfl] at k1 k2
  rw [k1, k2, Option.bind_some, Option.bind_some]
  simp only [List.length_drop] at hk
  obtain ⟨L, p, e, h1, h2, h3⟩ := scan_loop s (by omega) F0 (0 + skN false (s.drop 0)) ⟨true, []⟩ (by simp) (by omega) (by rw [F0_eq]; omega)
  exact ⟨L, p, e, h1, h2, by omega⟩
 ·rw [show decide ((65536 : Int) < ((s.length : Nat) : Int)) = true from decide_eq_true (by omega), cond_true, cond_true]
  exact ⟨⟨true, []⟩, _, _, rfl, rfl, by simp⟩
end Go.Proofs

namespace Go.Proofs
open Go Go.Ab
def unqF (s : Bs) : Option Bs := match Z44 s with
 | some (r, e) => if e = 0 then some r else none
 | none => none
def tokF : Bs → Option (Int × Bs × Nat)
 | [] => none
 | c :: r =>
  if sgV ((c.toNat : Nat) : Int) = true then some (1, [c], 1)
  else if ((c.toNat : Nat) : Int) = 46 then (if (c :: r).take 3 = [46, 46, 46] then some (1, [46, 46, 46], 3) else none)
  else if isL c = true then (if 64 < wordN (c :: r) then none else some (2, (c :: r).take (wordN (c :: r)), wordN (c :: r)))
  else if isD c = true ∨ ((c.toNat : Nat) : Int) = 45 then (if numE ((c :: r).take (1 + wordN r)) = 0 then some (3, (c :: r).take (1 + wordN r), 1 + wordN r) else none)
  else if ((c.toNat : Nat) : Int) = 34 then (match litN false r with
   | none => none
   | some k => match unqF ((c :: r).take (1 + k)) with
    | none => none
    | some t => some (4, t, 1 + k))
  else none
theorem unqF_eq {s : Bs} (hs : s.length ≤ 1048576) : ∃ r e, Z44 s = some (r, e) ∧ Z5 s = some (r, e) ∧ r.length ≤ s.length ∧ unqF s = if e = 0 then some r else none := by
 obtain ⟨r, e, h1, h2, h3⟩ := unquote_eq hs
 refine ⟨r, e, h1, h2, h3, ?_⟩
 unfold unqF
 rw [h1]
def Rd1 (s : Bs) (i : Nat) : Prop := (∃ k t w, tokF (s.drop i) = some (k, t, w) ∧ Z49 s (i : Int) = some (⟨k, t, (i : Int)⟩, ((i + w : Nat) : Int), 0)) ∨ (tokF (s.drop i) = none ∧ ∃ t j e, Z49 s (i : Int) = some (t, j, e) ∧ e ≠ 0)
theorem read_spec {s : Bs} (hs : s.length ≤ 1048576) {i : Nat} (hi : i < s.length) : Rd1 s i := by
 obtain ⟨c, hc⟩ : ∃ c, s[i]? = some c := ⟨_, List.getElem?_eq_getElem hi⟩
 have hlt := c.toNat_lt
 have one : addC (i : Int) 1 = some (((i + 1 : Nat)) : Int) := add_nat (k := 1) (by omega) (by omega)
 have three : addC (i : Int) 3 = some (((i + 3 : Nat)) : Int) := add_nat (k := 3) (by omega) (by omega)
 have hd := drop_cons hc
 unfold Rd1
 rw [hd]
 unfold Z49 tokF
 rw [idxC_nat, hc]
 simp only [Option.bind_some, wrap32]
 rw [(sg_at c).2, Option.bind_some]
 cases hsg : sgV ((c.toNat : Nat) : Int)
 ·rw [cond_false, if_neg (by decide)]
  by_cases h46 : ((c.toNat : Nat) : Int) = 46
  ·have hcut : cutC s (some (i : Int)) none = some (s.drop i) := cut_from (by omega)
   rw [decide_eq_true h46, cond_true, hcut, Option.bind_some, Z37_eq, Option.bind_some, three, if_pos h46]
   have hp : Z37_q (s.drop i) ([46, 46, 46] : Bs) = (decide (i + 3 ≤ s.length) && (List.take 3 (s.drop i) == ([46, 46, 46] : Bs))) := by
    unfold Z37_q Z0_q
    simp only [Ab.on]
    rw [show decide (((([46, 46, 46] : Bs).length : Nat) : Int) ≤ (((s.drop i).length : Nat) : Int)) = decide (i + 3 ≤ s.length) from decide_eq_decide.2 (by simp only [List.length_cons, List.length_nil, List.length_drop]; omega)]
    cases decide (i + 3 ≤ s.length) <;> rfl
   rw [hp, hd]
   by_cases ht : List.take 3 (c :: s.drop (i + 1)) = [46, 46, 46]
   ·have h3 : i + 3 ≤ s.length := by
     have := congrArg List.length ht
     simp only [List.length_take, List.length_cons, List.length_drop, List.length_nil] at this
     omega
    left
    refine ⟨1, [46, 46, 46], 3, by rw [if_pos ht], ?_⟩
    rw [ht, decide_eq_true h3]; rfl
   ·right
    refine ⟨by rw [if_neg ht], ⟨0, [], 0⟩, 0, 3, ?_, show (3 : Int) ≠ 0 by decide⟩
    rw [show (List.take 3 (c :: s.drop (i + 1)) == ([46, 46, 46] : Bs)) = false by simpa using ht, Bool.and_false]; rfl
  ·rw [decide_eq_false h46, cond_false, if_neg h46, letter_eq' c, isW_eq]
   have hlet : isL c = true → ¬ ((c.toNat : Nat) : Int) = 45 ∧ isD c = false := by
    intro h
    unfold isL at h; unfold isD
    simp only [Bool.or_eq_true, Bool.and_eq_true, decide_eq_true_eq] at h
    refine ⟨by omega, ?_⟩
    rw [Bool.and_eq_false_iff, decide_eq_false_iff_not, decide_eq_false_iff_not]
    omega
   rw [show ((decide ((48 : Int) ≤ ((c.toNat : Nat) : Int))) && (decide (((c.toNat : Nat) : Int) ≤ (57 : Int)))) = isD c from rfl]
   cases hL : isL c
   ·rw [if_neg (by decide)]
    by_cases hN : isD c = true ∨ ((c.toNat : Nat) : Int) = 45
    ·rw [if_pos hN, show (decide (((c.toNat : Nat) : Int) = 45) || isD c) = true by simp only [Bool.or_eq_true, decide_eq_true_eq]; exact hN.symm]
     rw [cond_true, one, Option.bind_some, span_eq hs (by omega), Option.bind_some]
     have hw := wordN_le (s.drop (i + 1))
     simp only [List.length_drop] at hw
     rw [cut_part (by omega) (by omega), Option.bind_some, hd, show i + 1 + wordN (s.drop (i + 1)) - i = 1 + wordN (s.drop (i + 1)) by omega]
     obtain ⟨v, h1⟩ := tnum_eq (s := (c :: s.drop (i + 1)).take (1 + wordN (s.drop (i + 1)))) (by simp; omega)
     rw [h1, Option.bind_some, Option.bind_some]
     by_cases h0 : numE ((c :: s.drop (i + 1)).take (1 + wordN (s.drop (i + 1)))) = 0
     ·left
      refine ⟨3, _, _, by rw [if_pos h0], ?_⟩
      rw [h0, Nat.add_assoc]
     ·right
      exact ⟨by rw [if_neg h0], _, _, _, rfl, h0⟩
    ·rw [if_neg hN, show (decide (((c.toNat : Nat) : Int) = 45) || isD c) = false by rw [Bool.eq_false_iff]; intro h; simp only [Bool.or_eq_true, decide_eq_true_eq] at h; exact hN h.symm]
     have hD : isD c = false := by cases h : isD c; rfl; exact absurd (.inl h) hN
     rw [cond_false, hD, Bool.or_self, Option.bind_some, cond_false]
     by_cases h34 : ((c.toNat : Nat) : Int) = 34
     ·rw [if_pos h34, decide_eq_true h34, cond_true, literal_eq hs hi, Option.bind_some]
      unfold litR
      cases hl : litN false (s.drop (i + 1)) with
      | none => exact .inr ⟨rfl, ⟨0, [], 0⟩, 0, 3, rfl, by decide⟩
      | some k =>
       have hk := litN_le _ _ _ hl
       simp only [List.length_drop] at hk
       simp only
       rw [decide_eq_false (show ¬ (((i + 1 + k : Nat) : Int) < 0) by omega), cond_false, cut_part (by omega) (by omega), Option.bind_some, hd, show i + 1 + k - i = 1 + k by omega]
       obtain ⟨r, e, u1, -, -, u2⟩ := unqF_eq (s := (c :: s.drop (i + 1)).take (1 + k)) (by simp; omega)
       rw [u1, u2, Option.bind_some]
       by_cases he : e = 0
       ·subst he
        left
        refine ⟨4, r, 1 + k, by rw [if_pos rfl], ?_⟩
        rw [Nat.add_assoc]
       ·right
        exact ⟨by rw [if_neg he], _, _, _, rfl, he⟩
     ·rw [if_neg h34, decide_eq_false h34, cond_false]
      exact .inr ⟨rfl, ⟨0, [], 0⟩, 0, 3, rfl, by decide⟩
   ·obtain ⟨h45, hD⟩ := hlet hL
    have hw := wordN_le (s.drop i)
    simp only [List.length_drop] at hw
    rw [decide_eq_false h45, hD, Bool.or_self, cond_false, Bool.or_false, Option.bind_some, cond_true, span_eq hs (by omega), Option.bind_some, subC_ok (by omega), Option.bind_some, if_pos rfl, hd] at *
    by_cases h64 : 64 < wordN (c :: s.drop (i + 1))
    ·rw [if_pos h64, decide_eq_true (show (64 : Int) < ((i + wordN (c :: s.drop (i + 1)) : Nat) : Int) - (i : Int) by omega)]
     exact .inr ⟨rfl, ⟨0, [], 0⟩, 0, 3, rfl, by decide⟩
    ·rw [if_neg h64, decide_eq_false (show ¬ (64 : Int) < ((i + wordN (c :: s.drop (i + 1)) : Nat) : Int) - (i : Int) by omega), cond_false, cut_part (by omega) (by omega), Option.bind_some, hd, show i + wordN (c :: s.drop (i + 1)) - i = wordN (c :: s.drop (i + 1)) by omega]
     exact .inl ⟨_, _, _, rfl, by rw [drop_cons hc]⟩
 ·rw [cond_true, if_pos rfl, one, Option.bind_some, cut_part (by omega) (by omega), Option.bind_some, hd, show i + 1 - i = 1 by omega]
  exact .inl ⟨_, _, _, rfl, rfl⟩
end Go.Proofs

namespace Go.Proofs
open Go Go.Ab
theorem litN_le' {r : Bs} {k : Nat} (h : litN false r = some k) : k ≤ r.length := (litN_le _ _ _ h).2
theorem tokF_ok {r : Bs} (hr : r.length ≤ 1048576) {k : Int} {t : Bs} {w : Nat} (h : tokF r = some (k, t, w)) : 1 ≤ w ∧ w ≤ r.length ∧ 1 ≤ k ∧ k ≤ 4 ∧ (k ≠ 4 → t = r.take w) ∧ (k = 4 → r.head? = some 34) ∧ t.length ≤ w := by
 cases r with
 | nil => cases h
 | cons c q =>
  rw [tokF] at h
  simp only [List.length_cons] at hr ⊢
  split at h
  ·cases h; exact ⟨by omega, by omega, by omega, by omega, fun _ => rfl, fun h => absurd h (by decide), by simp⟩
  split at h
  ·split at h
   ·rename_i h3
    cases h
    have := congrArg List.length h3
    simp only [List.length_take, List.length_cons, List.length_nil] at this
    exact ⟨by omega, by omega, by omega, by omega, fun _ => h3.symm, fun h => absurd h (by decide), by simp⟩
   ·cases h
  split at h
  ·rename_i hL
   split at h
   ·cases h
   ·cases h
    have h1 := wordN_le (c :: q)
    simp only [List.length_cons] at h1
    have h2 : 1 ≤ wordN (c :: q) := by rw [wordN_cons, isW_eq, hL]; simp only [Bool.true_or, cond_true]; omega
    exact ⟨h2, h1, by omega, by omega, fun _ => rfl, fun h => absurd h (by decide), by simp; omega⟩
  split at h
  ·split at h
   ·cases h
    have h1 := wordN_le q
    exact ⟨by omega, by omega, by omega, by omega, fun _ => rfl, fun h => absurd h (by decide), by simp; omega⟩
   ·cases h
  split at h
  ·rename_i h34
   split at h
   ·cases h
   ·rename_i m hm
    have hk := litN_le' hm
    split at h
    ·cases h
    ·rename_i x hx
     cases h
     obtain ⟨r, e, -, -, h3, h4⟩ := unqF_eq (s := (c :: q).take (1 + m)) (by simp; omega)
     rw [hx] at h4
     split at h4
     ·cases h4
      refine ⟨by omega, by omega, by omega, by omega, fun h => absurd rfl h, fun _ => ?_, ?_⟩
      ·have : c = 34 := by rw [← UInt8.toNat_inj]; show c.toNat = 34; omega
       rw [this]; rfl
      ·simp only [List.length_take, List.length_cons] at h3; omega
     ·cases h4
  ·cases h
def scT : Nat → Bs → Option (List (Int × Bs × Nat))
 | 0, _ => none
 | n + 1, r => if r = [] then some [(5, [], 0)] else match tokF r with
  | none => none
  | some (k, t, w) => (scT n ((r.drop w).drop (skN false (r.drop w)))).map ((k, t, r.length) :: ·)
def scF (s : Bs) : Option (List (Int × Bs × Nat)) := scT F0 (s.drop (skN false s))
def tkO (n : Nat) (x : Int × Bs × Nat) : Token_Token := ⟨x.1, x.2.1, ((n - x.2.2 : Nat) : Int)⟩
theorem scan_spec_loop (s : Bs) (hs : s.length ≤ 1048575) : ∀ (n i : Nat) (A : Sl Token_Token), A.l.length ≤ i → i ≤ s.length → s.length - i < n →
  (∃ L, scT n (s.drop i) = some L ∧ Z46_l15 s n A (i : Int) = some (⟨false, A.l ++ L.map (tkO s.length)⟩, 0, 0) ∧ L.length ≤ s.length - i + 1) ∨ (scT n (s.drop i) = none ∧ ∃ p e, Z46_l15 s n A (i : Int) = some (Sl.nil, p, e) ∧ e ≠ 0)
 | 0, _, _, _, _, h => by omega
 | n + 1, i, A, hA, hi, hn => by
  rw [Z46_l15, scT]
  by_cases hlt : i < s.length
  ·have hne : s.drop i ≠ [] := by
    intro h
    have := congrArg List.length h
    simp only [List.length_drop, List.length_nil] at this; omega
   rw [show decide ((i : Int) < ((s.length : Nat) : Int)) = true from decide_eq_true (by omega), cond_true, if_neg hne]
   rcases read_spec (s := s) (by omega) hlt with ⟨k, t, w, h1, h2⟩ | ⟨h1, t, j, e, h2, h3⟩
   ·obtain ⟨o1, o2, -⟩ := tokF_ok (by simp; omega) h1
    simp only [List.length_drop] at o2
    rw [h1, h2, Option.bind_some]
    have hk := skN_le false (s.drop (i + w))
    simp only [List.length_drop] at hk
    rw [show (!decide (((0 : Int)) = 0)) = false from rfl, cond_false, app_one (by omega), Option.bind_some, skip_eq (by omega) (by omega), Option.bind_some]
    have hdd : (s.drop i).drop w = s.drop (i + w) := List.drop_drop
    simp only [hdd]
    rw [show (s.drop (i + w)).drop (skN false (s.drop (i + w))) = s.drop (i + w + skN false (s.drop (i + w))) from List.drop_drop]
    rcases scan_spec_loop s hs n (i + w + skN false (s.drop (i + w))) ⟨false, A.l ++ [⟨k, t, (i : Int)⟩]⟩ (by simp; omega) (by omega) (by omega) with ⟨L, g1, g2, g3⟩ | ⟨g1, p, e, g2, g3⟩
    ·left
     refine ⟨(k, t, (s.drop i).length) :: L, by rw [g1]; rfl, ?_, by simp only [List.length_cons]; omega⟩
     rw [g2]
     have : tkO s.length (k, t, (s.drop i).length) = ⟨k, t, (i : Int)⟩ := by
      unfold tkO
      simp only [List.length_drop]
      rw [show s.length - (s.length - i) = i by omega]
     rw [List.map_cons, this]
     simp
    ·right
     exact ⟨by rw [g1]; rfl, p, e, g2, g3⟩
   ·rw [h1, h2, Option.bind_some, show (!decide (e = 0)) = true by simpa using h3, cond_true]
    exact .inr ⟨rfl, _, _, rfl, h3⟩
  ·rw [show decide ((i : Int) < ((s.length : Nat) : Int)) = false from decide_eq_false (by omega), cond_false, if_pos (List.drop_eq_nil_of_le (by omega))]
   unfold Z46_j8
   rw [app_one (by omega)]
   exact .inl ⟨_, rfl, rfl, by simp⟩
theorem scan_spec {s : Bs} (hs : s.length ≤ 65536) : (∃ L, scF s = some L ∧ Z46 s = some (⟨false, L.map (tkO s.length)⟩, 0, 0) ∧ L.length ≤ s.length + 1) ∨ (scF s = none ∧ ∃ p e, Z46 s = some (Sl.nil, p, e) ∧ e ≠ 0) := by
 unfold Z46 scF
 rw [show decide ((65536 : Int) < ((s.length : Nat) : Int)) = false from decide_eq_false (by omega), cond_false]
 have k1 := skip_eq (s := s) (i := 0) (by omega) (by omega)
 have hk := skN_le false s
 rw [show (((0 : Nat) : Int)) = 0 from rfl, List.drop_zero, Nat.zero_add] at k1
 rw [k1, Option.bind_some]
 rcases scan_spec_loop s (by omega) F0 (skN false s) ⟨true, []⟩ (by simp) (by omega) (by rw [F0_eq]; omega) with ⟨L, h1, h2, h3⟩ | h
 ·exact .inl ⟨L, h1, by rw [show (Sl.nil : Sl Token_Token) = ⟨true, []⟩ from rfl, h2]; rfl, by omega⟩
 ·exact .inr h
def PlL (s : Bs) : List (Int × Bs × Nat) → Prop
 | [] => False
 | (k, t, m) :: L => match L with
  | [] => k = 5 ∧ m = 0
  | (_, _, m') :: _ => k ≠ 5 ∧ m' < m ∧ m ≤ s.length ∧ (k = 4 → (s.drop (s.length - m)).head? = some 34) ∧ (k ≠ 4 → t.length ≤ m ∧ t = (s.drop (s.length - m)).take t.length) ∧ PlL s L
theorem suffix_drop {s : Bs} {m i : Nat} (h : i ≤ s.length) (hm : (s.drop i).length = m) : s.drop (s.length - m) = s.drop i := by
 simp only [List.length_drop] at hm
 rw [show s.length - m = i by omega]
theorem scT_head {n : Nat} {r : Bs} {L : List (Int × Bs × Nat)} (h : scT n r = some L) : ∃ k t L', L = (k, t, r.length) :: L' := by
 cases n with
 | zero => cases h
 | succ n =>
  rw [scT] at h
  split at h
  ·rename_i hr; subst hr; cases h; exact ⟨_, _, _, rfl⟩
  ·split at h
   ·cases h
   ·obtain ⟨L', -, rfl⟩ := Option.map_eq_some_iff.1 h
    exact ⟨_, _, _, rfl⟩
theorem scT_pl (s : Bs) (hs : s.length ≤ 1048576) : ∀ (n i : Nat) (L : List (Int × Bs × Nat)), i ≤ s.length → scT n (s.drop i) = some L → PlL s L
 | 0, _, _, _, h => by cases h
 | n + 1, i, L, hi, h => by
  rw [scT] at h
  split at h
  ·cases h; exact ⟨rfl, rfl⟩
  ·split at h
   ·cases h
   ·rename_i k t w ht
    obtain ⟨L', h1, rfl⟩ := Option.map_eq_some_iff.1 h
    obtain ⟨o1, o2, o3, o4, o5, o6, o7⟩ := tokF_ok (by simp; omega) ht
    have hk := skN_le false ((s.drop i).drop w)
    simp only [List.length_drop] at hk o2
    have hdd : ((s.drop i).drop w).drop (skN false ((s.drop i).drop w)) = s.drop (i + w + skN false ((s.drop i).drop w)) := by rw [List.drop_drop, List.drop_drop, Nat.add_assoc]
    rw [hdd] at h1
    have ih := scT_pl s hs n _ L' (by omega) h1
    obtain ⟨k', t', L'', rfl⟩ := scT_head h1
    have hsd := suffix_drop hi rfl
    refine ⟨by omega, ?_, by simp, ?_, ?_, ih⟩
    ·simp only [List.length_drop]; omega
    ·intro h4; rw [hsd]; exact o6 h4
    ·intro h4
     rw [hsd]
     have := o5 h4
     refine ⟨by simp only [List.length_drop]; omega, ?_⟩
     have hl : t.length = w := by rw [this]; simp; omega
     rw [hl]; exact this
end Go.Proofs

namespace Go.Proofs
open Go Go.Ab
def ktT (t : Token_Token) : Int × Bs := (t.FKind, t.FText)
def kt4 (x : R04_Token) : Int × Bs := (x.FKind, x.FText)
theorem head_kt {l : List Token_Token} {k : Int} {t : Bs} {r : List (Int × Bs)} (h : l.map ktT = (k, t) :: r) : ∃ x l', l = x :: l' ∧ x.FKind = k ∧ x.FText = t ∧ l'.map ktT = r := by
 obtain ⟨x, l', rfl, h1, h2⟩ := List.map_eq_cons_iff.1 h
 exact ⟨x, l', rfl, congrArg Prod.fst h1, congrArg Prod.snd h1, h2⟩
theorem part_tail {α : Type} {s : Sl α} (h : 1 ≤ s.l.length) : partC s (some (1 : Int)) none = some ⟨s.nl, s.l.drop 1⟩ := by
 unfold partC
 rw [if_pos (by simp; omega)]
 simp
def E5 : List (Int × Bs) → Prop
 | [] => False
 | (k, _) :: r => (k = 5 ∧ r = []) ∨ (k ≠ 5 ∧ E5 r)
theorem E5.tail {k : Int} {t : Bs} {r : List (Int × Bs)} (h : E5 ((k, t) :: r)) (hk : k ≠ 5) : E5 r := by
 rcases h with ⟨h, -⟩ | ⟨-, h⟩
 ·exact absurd h hk
 ·exact h
theorem E5.cons {r : List (Int × Bs)} (h : E5 r) : ∃ k t r', r = (k, t) :: r' := by
 cases r with
 | nil => cases h
 | cons x r' => exact ⟨x.1, x.2, r', rfl⟩
theorem E5.of_pl {s : Bs} : ∀ L : List (Int × Bs × Nat), PlL s L → E5 (L.map fun x => (x.1, x.2.1))
 | [], h => by cases h
 | [(k, t, m)], h => .inl ⟨h.1, rfl⟩
 | (k, t, m) :: (k', t', m') :: L, h => .inr ⟨h.1, E5.of_pl ((k', t', m') :: L) h.2.2.2.2.2⟩
def opK (V : List Int) (R : List (Int × Bs)) : List Int × List (Int × Bs) := match R with
 | [] => (V, [])
 | (k, t) :: r => if k = 1 ∧ t = [33] then (V ++ [1], r) else (V, (k, t) :: r)
def isCl (R : List (Int × Bs)) : Bool := match R with
 | [] => false
 | (k, t) :: _ => decide (k = 1) && (t == [93])
theorem isCl_cons (k : Int) (t : Bs) (r : List (Int × Bs)) : isCl ((k, t) :: r) = (decide (k = 1) && (t == [93])) := rfl
def clK : Nat → List (Int × Bs) → Option (List Int × List (Int × Bs))
 | 0, R => some (opK [] R)
 | m + 1, R => match clK m R with
  | none => none
  | some (V, R') => if isCl R' = true then some (opK (V ++ [2]) (R'.drop 1)) else none
theorem opK_e5 {V : List Int} {R : List (Int × Bs)} (h : E5 R) : E5 (opK V R).2 ∧ (opK V R).2.length ≤ R.length ∧ (opK V R).1.length + (opK V R).2.length ≤ V.length + R.length := by
 obtain ⟨k, t, r, rfl⟩ := h.cons
 unfold opK
 simp only
 split
 ·rename_i h1
  exact ⟨h.tail (by omega), by simp, by simp; omega⟩
 ·exact ⟨h, by simp, by simp⟩
theorem isCl_ok {R : List (Int × Bs)} (h : isCl R = true) : ∃ r, R = (1, [93]) :: r := by
 cases R with
 | nil => cases h
 | cons x r =>
  obtain ⟨k, t⟩ := x
  rw [isCl_cons] at h
  simp only [Bool.and_eq_true, decide_eq_true_eq, beq_iff_eq] at h
  exact ⟨r, by rw [h.1, h.2]⟩
theorem clK_e5 {R : List (Int × Bs)} (h : E5 R) : ∀ (m : Nat) (V : List Int) (R' : List (Int × Bs)), clK m R = some (V, R') → E5 R' ∧ V.length + R'.length ≤ R.length
 | 0, V, R', e => by
  rw [clK] at e
  have := opK_e5 (V := []) h
  rw [Option.some.inj e] at this
  exact ⟨this.1, by simpa using this.2.2⟩
 | m + 1, V, R', e => by
  rw [clK] at e
  split at e
  ·cases e
  ·rename_i V0 R0 h0
   obtain ⟨g1, g2⟩ := clK_e5 h m V0 R0 h0
   split at e
   ·rename_i hc
    obtain ⟨r, rfl⟩ := isCl_ok hc
    have h5 := g1.tail (by decide)
    have := opK_e5 (V := V0 ++ [2]) h5
    rw [List.drop_succ_cons, List.drop_zero] at e
    rw [Option.some.inj e] at this
    refine ⟨this.1, ?_⟩
    have h3 := this.2.2
    simp only [List.length_append, List.length_cons, List.length_nil] at h3 g2
    omega
   ·cases e
def finP (N : Bs) (o : Option (List Int × List (Int × Bs))) : Bs × List Int × Int := match o with
 | none => ([], [], 3)
 | some (V, R) => if R.length = 1 then (if 24 < V.length then ([], [], 5) else (N, V.reverse, 0)) else ([], [], 3)
def IsP (o : Option (TRef × Int)) (p : Bs × List Int × Int) : Prop := ∃ t, o = some (t, p.2.2) ∧ t.FName = p.1 ∧ t.FWraps.l = p.2.1
theorem IsP.mk (t : TRef) (e : Int) {p : Bs × List Int × Int} (h1 : t.FName = p.1) (h2 : t.FWraps.l = p.2.1) (h3 : e = p.2.2) : IsP (some (t, e)) p := ⟨t, by rw [h3], h1, h2⟩
theorem e5_one {k : Int} {t : Bs} {r : List (Int × Bs)} (h : E5 ((k, t) :: r)) : (k = 5 ↔ ((k, t) :: r).length = 1) := by
 rcases h with ⟨h1, rfl⟩ | ⟨h1, h2⟩
 ·exact ⟨fun _ => rfl, fun _ => h1⟩
 ·refine ⟨fun h => absurd h h1, fun h => ?_⟩
  obtain ⟨a, b, c, rfl⟩ := h2.cons
  simp at h
theorem j22_is {S : Sl Token_Token} {R : List (Int × Bs)} (h : S.l.map ktT = R) (h5 : E5 R) (y z : TRef) : IsP (Z60_j22 S y z) (finP z.FName (some (z.FWraps.l, R))) := by
 obtain ⟨k, t, r, rfl⟩ := h5.cons
 obtain ⟨x, l', hl, h1, h2, h3⟩ := head_kt h
 unfold Z60_j22 finP
 rw [hl, List.getElem?_cons_zero, Option.bind_some, h1]
 by_cases hk : k = 5
 ·rw [decide_eq_true hk, Bool.not_true, cond_false]
  simp only
  rw [if_pos ((e5_one h5).1 hk)]
  by_cases h24 : 24 < z.FWraps.l.length
  ·rw [decide_eq_true (show (24 : Int) < ((z.FWraps.l.length : Nat) : Int) by omega), cond_true, if_pos h24]
   exact .mk _ _ rfl rfl rfl
  ·rw [decide_eq_false (show ¬ (24 : Int) < ((z.FWraps.l.length : Nat) : Int) by omega), cond_false, if_neg h24, Option.bind_some]
   exact .mk _ _ rfl rfl rfl
 ·rw [decide_eq_false hk, Bool.not_false, cond_true]
  simp only
  rw [if_neg (fun h => hk ((e5_one h5).2 h))]
  exact .mk _ _ rfl rfl rfl
theorem l39_step (n : Nat) (S : Sl Token_Token) (d : Int) (y : TRef) (N : Bs) (A : Sl Int) (hA : A.l.length ≤ 1048576) {R : List (Int × Bs)} (h : S.l.map ktT = R) (h5 : E5 R) :
  ∃ S' A', Z60_l39 (n + 1) S d y ⟨N, A⟩ = Z60_j44 d y (Z60_l39 n) S' ⟨N, A'⟩ ∧ A'.l = (opK A.l R).1 ∧ S'.l.map ktT = (opK A.l R).2 := by
 obtain ⟨k, t, r, rfl⟩ := h5.cons
 obtain ⟨x, l', hl, h1, h2, h3⟩ := head_kt h
 rw [Z60_l39, hl, List.getElem?_cons_zero, Option.bind_some, h1]
 unfold opK
 simp only
 by_cases hk : k = 1
 ·rw [decide_eq_true hk]
  simp only [guardO, if_true, Option.bind_some, Bool.true_and, h2]
  by_cases ht : t = [33]
  ·rw [show (t == [33]) = true by simp [ht], cond_true, appC_ok (by decide) (by simp only [List.length_cons, List.length_nil]; omega), Option.bind_some, part_tail (by rw [hl]; simp), Option.bind_some, if_pos ⟨hk, ht⟩]
   exact ⟨_, _, rfl, rfl, by rw [hl]; exact h3⟩
  ·rw [show (t == [33]) = false by simpa using ht, cond_false, if_neg (fun h => ht h.2)]
   exact ⟨_, _, rfl, rfl, h⟩
 ·rw [decide_eq_false hk]
  simp only [guardO, Bool.false_and, cond_false]
  rw [if_neg (by decide), if_neg (fun h => hk h.1)]
  exact ⟨_, _, rfl, rfl, h⟩
theorem jump {R0 : List (Int × Bs)} (h0 : E5 R0) (hl0 : R0.length ≤ 100000) (y : TRef) (N : Bs) : ∀ (d n k : Nat) (S : Sl Token_Token) (A : Sl Int) (V : List Int) (R : List (Int × Bs)), d < n → d ≤ 100000 → clK k R0 = some (V, R) → A.l = V → S.l.map ktT = R → IsP (Z60_j44 (d : Int) y (Z60_l39 n) S ⟨N, A⟩) (finP N (clK (k + d) R0))
 | d, 0, _, _, _, _, _, h, _, _, _, _ => by omega
 | 0, n + 1, k, S, A, V, R, _, _, hc, hA, hS => by
  obtain ⟨e1, e2⟩ := clK_e5 h0 k V R hc
  unfold Z60_j44
  rw [show decide (((0 : Nat) : Int) = 0) = true from rfl, cond_true, Nat.add_zero, hc]
  have := j22_is hS e1 y ⟨N, A⟩
  rw [hA] at this
  exact this
 | d + 1, n + 1, k, S, A, V, R, hn, hd, hc, hA, hS => by
  obtain ⟨e1, e2⟩ := clK_e5 h0 k V R hc
  have hnone : isCl R = false → clK (k + (d + 1)) R0 = none := by
   intro hi
   have h1 : clK (k + 1) R0 = none := by rw [clK, hc]; simp [hi]
   have : ∀ j, clK (k + 1 + j) R0 = none := by
    intro j
    induction j with
    | zero => exact h1
    | succ j ih => rw [← Nat.add_assoc, clK, ih]
   rw [show k + (d + 1) = k + 1 + d by omega]; exact this d
  obtain ⟨kk, t, r, rfl⟩ := e1.cons
  obtain ⟨x, l', hl, h1, h2, h3⟩ := head_kt hS
  unfold Z60_j44
  rw [show decide (((d + 1 : Nat) : Int) = 0) = false from decide_eq_false (by omega), cond_false, hl, List.getElem?_cons_zero, Option.bind_some, h1]
  by_cases hk : kk = 1
  ·rw [decide_eq_true hk]
   simp only [guardO, Bool.not_true, Bool.not_false, if_true, Option.bind_some, Bool.false_or, h2]
   by_cases ht : t = [93]
   ·have hcl : isCl ((kk, t) :: r) = true := by rw [isCl_cons, hk, ht]; rfl
    rw [show (!(t == [93])) = false by simp [ht], cond_false]
    simp only [List.length_cons] at e2
    rw [appC_ok (by decide) (by rw [hA]; simp only [List.length_cons, List.length_nil]; omega), Option.bind_some, part_tail (by rw [hl]; simp), Option.bind_some, subC_ok (by omega), Option.bind_some, show ((d + 1 : Nat) : Int) - 1 = (d : Int) by omega]
    have h5 : E5 r := e1.tail (by omega)
    obtain ⟨S', A', j1, j2, j3⟩ := l39_step n ⟨S.nl, S.l.drop 1⟩ (d : Int) y N ⟨A.nl && ([2] : List Int).isEmpty, A.l ++ [2]⟩ (by rw [hA]; simp; omega) (R := r) (by rw [hl]; exact h3) h5
    rw [j1]
    have hc1 : clK (k + 1) R0 = some (opK (A.l ++ [2]) r) := by
     rw [clK, hc]; simp only; rw [if_pos hcl, hA]; rfl
    have := jump h0 hl0 y N d n (k + 1) S' A' _ _ (by omega) (by omega) hc1 j2 j3
    rw [show k + (d + 1) = k + 1 + d by omega]
    exact this
   ·rw [show (!(t == [93])) = true by simpa using ht, cond_true, hnone (by rw [isCl_cons, show (t == [93]) = false by simpa using ht, Bool.and_false])]
    exact .mk _ _ rfl rfl rfl
  ·rw [decide_eq_false hk]
   simp only [Bool.not_false, Bool.true_or, cond_true, guardO, Bool.not_true]
   rw [if_neg (by decide), hnone (by rw [isCl_cons, decide_eq_false hk, Bool.false_and])]
   exact .mk _ _ rfl rfl rfl
def isOp (R : List (Int × Bs)) : Bool := match R with
 | [] => false
 | (k, t) :: _ => decide (k = 1) && (t == [91])
theorem isOp_cons (k : Int) (t : Bs) (r : List (Int × Bs)) : isOp ((k, t) :: r) = (decide (k = 1) && (t == [91])) := rfl
theorem open_run (X : List (Int × Bs)) (hX : E5 X) (ho : isOp X = false) : ∀ (m n : Nat) (S : Sl Token_Token) (d : Nat), S.l.map ktT = List.replicate m ((1 : Int), ([91] : Bs)) ++ X → m < n → d + m ≤ 1000000 → ∃ S', S'.l.map ktT = X ∧ Z60_l65 n S (d : Int) = Z60_j11 S' ((d + m : Nat) : Int)
 | _, 0, _, _, _, h, _ => by omega
 | 0, n + 1, S, d, h, _, _ => by
  refine ⟨S, h, ?_⟩
  obtain ⟨k, t, r, rfl⟩ := hX.cons
  obtain ⟨x, l', hl, h1, h2, h3⟩ := head_kt (show S.l.map ktT = (k, t) :: r from h)
  rw [isOp_cons] at ho
  rw [Z60_l65, hl, List.getElem?_cons_zero, Option.bind_some, h1]
  by_cases hk : k = 1
  ·rw [hk] at ho ⊢
   rw [show decide ((1 : Int) = 1) = true from rfl] at ho ⊢
   simp only [guardO, if_true, Option.bind_some, Bool.true_and, h2] at ho ⊢
   rw [ho]; rfl
  ·rw [decide_eq_false hk]; rfl
 | m + 1, n + 1, S, d, h, hn, hd => by
  rw [List.replicate_succ, List.cons_append] at h
  obtain ⟨x, l', hl, h1, h2, h3⟩ := head_kt h
  rw [Z60_l65, hl, List.getElem?_cons_zero, Option.bind_some, h1]
  rw [show decide ((1 : Int) = 1) = true from rfl]
  simp only [guardO, if_true, Option.bind_some, Bool.true_and, h2]
  rw [show (([91] : Bs) == [91]) = true from rfl, cond_true, show (1 : Int) = ((1 : Nat) : Int) from rfl, add_nat (by omega) (by omega), Option.bind_some, show (((1 : Nat) : Int)) = 1 from rfl, part_tail (by rw [hl]; simp), Option.bind_some]
  obtain ⟨S', g1, g2⟩ := open_run X hX ho m n ⟨S.nl, S.l.drop 1⟩ (d + 1) (by rw [hl]; exact h3) (by omega) (by omega)
  exact ⟨S', g1, by rw [g2]; exact congrArg _ (by omega)⟩
theorem opens (K : List (Int × Bs)) : ∃ m X, K = List.replicate m ((1 : Int), ([91] : Bs)) ++ X ∧ isOp X = false := by
 induction K with
 | nil => exact ⟨0, [], rfl, rfl⟩
 | cons x K ih =>
  obtain ⟨k, t⟩ := x
  cases h : isOp ((k, t) :: K)
  ·exact ⟨0, _, rfl, h⟩
  ·rw [isOp_cons] at h
   simp only [Bool.and_eq_true, decide_eq_true_eq, beq_iff_eq] at h
   obtain ⟨m, X, rfl, h2⟩ := ih
   exact ⟨m + 1, X, by rw [h.1, h.2, List.replicate_succ]; rfl, h2⟩
def outP (m : Nat) (X : List (Int × Bs)) : Bs × List Int × Int := match X with
 | [] => ([], [], 3)
 | (k, t) :: R => if k = 2 then finP t (clK m R) else ([], [], 3)
theorem e5_app {m : Nat} {X : List (Int × Bs)} (h : E5 (List.replicate m ((1 : Int), ([91] : Bs)) ++ X)) : E5 X := by
 induction m with
 | zero => exact h
 | succ m ih => rw [List.replicate_succ, List.cons_append] at h; exact ih (h.tail (by decide))
theorem tparse_is {S : Sl Token_Token} {m : Nat} {X : List (Int × Bs)} (h : S.l.map ktT = List.replicate m ((1 : Int), ([91] : Bs)) ++ X) (h5 : E5 (S.l.map ktT)) (ho : isOp X = false) (hl : S.l.length ≤ 70000) : IsP (Z60_l65 F0 S 0) (outP m X) := by
 rw [h] at h5
 have hX := e5_app h5
 have hlen : m + X.length ≤ 70000 := by
  have := congrArg List.length h
  simp only [List.length_map, List.length_append, List.length_replicate] at this
  omega
 obtain ⟨S', g1, g2⟩ := open_run X hX ho m F0 S 0 h (by rw [F0_eq]; omega) (by omega)
 rw [show (0 : Int) = ((0 : Nat) : Int) from rfl, g2, Nat.zero_add]
 obtain ⟨k, t, R, rfl⟩ := hX.cons
 obtain ⟨x, l', hlx, h1, h2, h3⟩ := head_kt g1
 unfold Z60_j11 outP
 rw [hlx, List.getElem?_cons_zero, Option.bind_some, h1]
 simp only
 by_cases hk : k = 2
 ·rw [decide_eq_true hk, Bool.not_true, cond_false, if_pos hk, Option.bind_some, part_tail (by rw [hlx]; simp), Option.bind_some, h2]
  have hR : E5 R := hX.tail (by omega)
  simp only [List.length_cons] at hlen
  obtain ⟨n, hn⟩ : ∃ n, F0 = n + 1 := ⟨4611686018427387903, by rw [F0_eq]⟩
  obtain ⟨S2, A2, j1, j2, j3⟩ := l39_step n ⟨S'.nl, S'.l.drop 1⟩ ((m : Nat) : Int) TRef.zero t TRef.zero.FWraps (by simp [TRef.zero, Sl.nil]) (R := R) (by rw [hlx]; exact h3) hR
  rw [hn, j1]
  have hc : clK 0 R = some ((opK TRef.zero.FWraps.l R).1, (opK TRef.zero.FWraps.l R).2) := rfl
  have := jump hR (by omega) TRef.zero t m n 0 S2 A2 _ _ (by rw [F0_eq] at hn; omega) (by omega) hc j2 j3
  rw [Nat.zero_add] at this
  exact this
 ·rw [decide_eq_false hk, Bool.not_false, cond_true, if_neg hk]
  exact .mk _ _ rfl rfl rfl
theorem get4 {T : Sl R04_Token} {i : Nat} {k : Int} {t : Bs} {r : List (Int × Bs)} (h : (T.l.drop i).map kt4 = (k, t) :: r) : ∃ x, T.l[i]? = some x ∧ x.FKind = k ∧ x.FText = t ∧ (T.l.drop (i + 1)).map kt4 = r ∧ i < T.l.length := by
 obtain ⟨x, l', h1, h2, h3⟩ := List.map_eq_cons_iff.1 h
 have hi : T.l[i]? = some x := by
  have := congrArg List.head? h1
  rw [List.head?_drop] at this; exact this
 refine ⟨x, hi, congrArg Prod.fst h2, congrArg Prod.snd h2, ?_, (List.getElem?_eq_some_iff.1 hi).1⟩
 have := congrArg List.tail h1
 rw [List.tail_drop] at this
 rw [this]; exact h3
theorem sign_eq {T : Sl R04_Token} {i : Nat} {k : Int} {t : Bs} {r : List (Int × Bs)} (h : (T.l.drop i).map kt4 = (k, t) :: r) (s : Bs) : Z26 T (i : Int) s = some (decide (k = 1) && (t == s)) := by
 obtain ⟨x, h1, h2, h3, -, h5⟩ := get4 h
 unfold Z26
 rw [show decide ((i : Int) < ((T.l.length : Nat) : Int)) = true from decide_eq_true (by omega), idxC_nat, h1]
 simp only [guardO, if_true, Option.bind_some, Bool.true_and, h2]
 cases decide (k = 1)
 ·rfl
 ·simp only [if_true, Option.bind_some, Bool.true_and, h3]
theorem wrap_eq (w : Int) {t : TRef} (h : t.FWraps.l.length ≤ 1048576) : Z27 w t = some ⟨t.FName, ⟨false, w :: t.FWraps.l⟩⟩ := by
 unfold Z27
 rw [appC_ok (by decide) (by simp only [List.length_cons, List.length_nil]; omega), Option.bind_some]
 rfl
theorem nonnull_eq {t : TRef} (h : t.FWraps.l.length ≤ 1048576) (h1 : t.FWraps.l.head? ≠ some 1) : Z21 t = some ⟨t.FName, ⟨false, 1 :: t.FWraps.l⟩⟩ := by
 unfold Z21
 have : Z19 t = some false := by
  unfold Z19
  cases hw : t.FWraps.l with
  | nil => rfl
  | cons a r =>
   rw [hw] at h1
   rw [show decide ((0 : Int) < (((a :: r : List Int).length : Nat) : Int)) = true from decide_eq_true (by simp only [List.length_cons]; omega)]
   have : ¬ a = 1 := fun h => h1 (by rw [h]; rfl)
   simp [guardO, this]
 rw [this, Option.bind_some, cond_false, wrap_eq 1 h, Option.bind_some]
def IsT (T : Sl R04_Token) (o : Option (TRef × Int × Bool)) (N : Bs) (p : Option (List Int × List (Int × Bs))) : Prop := match p with
 | none => ∃ t j, o = some (t, j, false)
 | some (V, R) => ∃ (t : TRef) (j : Nat), o = some (t, (j : Int), true) ∧ t.FName = N ∧ t.FWraps.l = V.reverse ∧ j ≤ T.l.length ∧ (T.l.drop j).map kt4 = R
theorem j3_is {T : Sl R04_Token} (hT : T.l.length ≤ 100000) {i : Nat} (hi : i ≤ T.l.length) {R : List (Int × Bs)} (h : (T.l.drop i).map kt4 = R) (h5 : E5 R) (y t : TRef) (V : List Int) (ht : t.FWraps.l = V.reverse) (h1 : t.FWraps.l.head? ≠ some 1) (hV : V.length ≤ 1000000) : IsT T (Z24_j3 T (i : Int) y t) t.FName (some (opK V R)) := by
 obtain ⟨k, s, r, rfl⟩ := h5.cons
 obtain ⟨x, g1, g2, g3, g4, g5⟩ := get4 h
 unfold Z24_j3 opK
 rw [sign_eq h, Option.bind_some]
 simp only
 by_cases hc : k = 1 ∧ s = [33]
 ·rw [if_pos hc, decide_eq_true hc.1, show (s == [33]) = true by simp [hc.2], Bool.and_self, cond_true, nonnull_eq (by rw [ht, List.length_reverse]; omega) h1, Option.bind_some]
  rw [show (1 : Int) = ((1 : Nat) : Int) from rfl, add_nat (by omega) (by omega), Option.bind_some]
  exact ⟨_, i + 1, rfl, rfl, by rw [ht]; simp, by omega, g4⟩
 ·rw [if_neg hc, show (decide (k = 1) && (s == [33])) = false by
   rw [Bool.and_eq_false_iff]
   by_cases hk : k = 1
   ·right; simpa using fun h => hc ⟨hk, h⟩
   ·exact .inl (decide_eq_false hk), cond_false]
  exact ⟨t, i, rfl, rfl, ht, hi, h⟩
def clX (m : Nat) (X : List (Int × Bs)) : Option (List Int × List (Int × Bs)) := match X with
 | [] => none
 | (k, _) :: R => if k = 2 then clK m R else none
def nmX (X : List (Int × Bs)) : Bs := match X with
 | [] => []
 | (_, t) :: _ => t
theorem tokens_is {T : Sl R04_Token} (hT : T.l.length ≤ 100000) {X : List (Int × Bs)} (hX : E5 X) (hl : X.length ≤ 100000) (ho : isOp X = false) : ∀ (m n i : Nat), m < n → i ≤ T.l.length → (T.l.drop i).map kt4 = List.replicate m ((1 : Int), ([91] : Bs)) ++ X → IsT T (Z24_n n T (i : Int)) (nmX X) (clX m X)
 | _, 0, _, h, _, _ => by omega
 | 0, n + 1, i, _, hi, h => by
  obtain ⟨k, t, R, rfl⟩ := hX.cons
  have h' : (T.l.drop i).map kt4 = (k, t) :: R := h
  obtain ⟨x, g1, g2, g3, g4, g5⟩ := get4 h'
  have one : addC (i : Int) 1 = some (((i + 1 : Nat)) : Int) := add_nat (k := 1) (by omega) (by omega)
  rw [Z24_n, sign_eq h', Option.bind_some, show (decide (k = 1) && (t == [91])) = false from ho, cond_false, one]
  rw [show decide (((T.l.length : Nat) : Int) ≤ (i : Int)) = false from decide_eq_false (by omega), idxC_nat, g1]
  change IsT T (bif (!decide (x.FKind = (2 : Int))) then (some ((TRef.mk ([] : Bs) (Sl.nil : Sl Int)), (0 : Int), false)) else Z24_j3 T ((i + 1 : Nat) : Int) TRef.zero (TRef.mk x.FText (Sl.nil : Sl Int))) _ _
  rw [g2]
  unfold clX nmX
  simp only
  by_cases hk : k = 2
  ·rw [decide_eq_true hk, Bool.not_true, cond_false, if_pos hk, g3]
   have hR : E5 R := hX.tail (by omega)
   exact j3_is hT (by omega) g4 hR TRef.zero ⟨t, Sl.nil⟩ [] rfl (by simp [Sl.nil]) (by simp)
  ·rw [decide_eq_false hk, Bool.not_false, cond_true, if_neg hk]
   exact ⟨_, _, rfl⟩
 | m + 1, n + 1, i, hn, hi, h => by
  have h' : (T.l.drop i).map kt4 = (1, [91]) :: (List.replicate m ((1 : Int), ([91] : Bs)) ++ X) := h
  obtain ⟨x, g1, g2, g3, g4, g5⟩ := get4 h'
  have one : addC (i : Int) 1 = some (((i + 1 : Nat)) : Int) := add_nat (k := 1) (by omega) (by omega)
  rw [Z24_n, sign_eq h', Option.bind_some, show (decide ((1 : Int) = 1) && (([91] : Bs) == [91])) = true from rfl, cond_true, one, Option.bind_some]
  have ih := tokens_is hT hX hl ho m n (i + 1) (by omega) (by omega) g4
  have hcs : clX (m + 1) X = match clX m X with
   | none => none
   | some (V, R') => if isCl R' = true then some (opK (V ++ [2]) (R'.drop 1)) else none := by
   unfold clX
   cases X with
   | nil => rfl
   | cons a b =>
    obtain ⟨k, t⟩ := a
    simp only
    by_cases hk : k = 2
    ·rw [if_pos hk, if_pos hk, clK]
    ·rw [if_neg hk, if_neg hk]
  rw [hcs]
  cases hc : clX m X with
  | none =>
   rw [hc] at ih
   obtain ⟨t, j, e⟩ := ih
   rw [e, Option.bind_some]
   exact ⟨_, _, rfl⟩
  | some p =>
   obtain ⟨V, R'⟩ := p
   rw [hc] at ih
   obtain ⟨t, j, e, n1, n2, n3, n4⟩ := ih
   have hE : E5 R' ∧ V.length ≤ 100000 := by
    unfold clX at hc
    cases X with
    | nil => cases hc
    | cons a b =>
     obtain ⟨k, s⟩ := a
     simp only at hc
     split at hc
     ·have := clK_e5 (hX.tail (by omega)) m V R' hc
      simp only [List.length_cons] at hl
      exact ⟨this.1, by omega⟩
     ·cases hc
   obtain ⟨k, s, r, rfl⟩ := hE.1.cons
   obtain ⟨x2, q1, q2, q3, q4, q5⟩ := get4 n4
   have one2 : addC (j : Int) 1 = some (((j + 1 : Nat)) : Int) := add_nat (k := 1) (by omega) (by omega)
   have hL : Z20 t = some ⟨t.FName, ⟨false, 2 :: t.FWraps.l⟩⟩ := by
    unfold Z20; rw [wrap_eq 2 (by rw [n2, List.length_reverse]; omega), Option.bind_some]
   rw [e, Option.bind_some]
   change IsT T ((Z26 T (j : Int) [93]).bind fun x25 => bif (!x25) then some (TRef.mk ([] : Bs) (Sl.nil : Sl Int), (0 : Int), false) else (Z20 t).bind fun x29 => (addC (j : Int) 1).bind fun x30 => Z24_j3 T x30 TRef.zero x29) (nmX X) (if (decide (k = 1) && (s == [93])) = true then some (opK (V ++ [2]) r) else none)
   rw [sign_eq n4, Option.bind_some, one2, hL]
   cases hs : decide (k = 1) && (s == [93])
   ·exact ⟨_, _, rfl⟩
   ·have h5 : E5 r := hE.1.tail (by simp only [Bool.and_eq_true, decide_eq_true_eq] at hs; omega)
    have := j3_is hT (by omega) q4 h5 TRef.zero ⟨t.FName, ⟨false, 2 :: t.FWraps.l⟩⟩ (V ++ [2]) (by rw [n2]; simp) (by simp) (by simp; omega)
    rw [← n1]
    exact this
theorem same5_loop (b : Sl Int) : ∀ (l : List Int) (i : Nat), b.l.drop i = l → Z25_q11 b l i = some (Sum.inl ())
 | [], _, _ => rfl
 | t :: l, i, h => by
  have hi : b.l[i]? = some t := by
   have := congrArg List.head? h
   simpa [List.head?_drop] using this
  rw [Z25_q11]
  simp only [Ab.on]
  rw [hi, Option.bind_some, show (!decide (t = t)) = false by simp, cond_false]
  exact same5_loop b l (i + 1) (by rw [← List.drop_drop, h]; rfl)
theorem same5_eq {a b : Sl Int} (h : a.l = b.l) : Z25 a b = some true := by
 rw [Z25_eq]
 unfold Z25_q
 rw [h, show (!decide (((b.l.length : Nat) : Int) = ((b.l.length : Nat) : Int))) = false by simp, cond_false, same5_loop b b.l 0 rfl]
 rfl
theorem Same5 {a b : TRef} (h1 : a.FName = b.FName) (h2 : a.FWraps.l = b.FWraps.l) : Z23 a b = some true := by
 unfold Z23
 rw [same5_eq h2, h1]
 simp [guardO]
theorem rparse_is {s : Bs} {T : Sl R04_Token} {p : Int} (hs : Z10 s = some (T, p, 0)) {m : Nat} {X : List (Int × Bs)} (h : T.l.map kt4 = List.replicate m ((1 : Int), ([91] : Bs)) ++ X) (h5 : E5 (T.l.map kt4)) (ho : isOp X = false) (hl : T.l.length ≤ 70000) : IsP (Z22 s) (outP m X) := by
 rw [h] at h5
 have hX := e5_app h5
 have hlen : m + X.length = T.l.length := by
  have := congrArg List.length h
  simp only [List.length_map, List.length_append, List.length_replicate] at this
  omega
 have := tokens_is (T := T) (by omega) hX (by omega) ho m F0 0 (by rw [F0_eq]; omega) (by omega) h
 unfold Z22
 rw [hs, Option.bind_some]
 simp only [decide_true, Bool.not_true, cond_false]
 unfold Z24
 have ho' : outP m X = finP (nmX X) (clX m X) := by
  unfold outP nmX clX
  cases X with
  | nil => rfl
  | cons a b =>
   obtain ⟨k, t⟩ := a
   simp only
   split <;> rfl
 rw [ho']
 rw [show ((0 : Nat) : Int) = 0 from rfl] at this
 cases hc : clX m X with
 | none =>
  rw [hc] at this
  obtain ⟨t, j, e⟩ := this
  rw [e, Option.bind_some]
  exact .mk _ _ rfl rfl rfl
 | some q =>
  obtain ⟨V, R⟩ := q
  rw [hc] at this
  obtain ⟨t, j, e, n1, n2, n3, n4⟩ := this
  have hj : T.l.length - j = R.length := by rw [← n4]; simp
  have h0 : 1 ≤ T.l.length := by
   obtain ⟨a, b, c, hx⟩ := hX.cons
   rw [← hlen, hx]; simp only [List.length_cons]; omega
  rw [e, Option.bind_some]
  simp only [guardO, Bool.not_true, Bool.not_false, if_true, Bool.false_or]
  rw [show subC ((T.l.length : Nat) : Int) 1 = some ((T.l.length - 1 : Nat) : Int) by rw [subC_ok (by omega)]; exact congrArg some (by omega), Option.bind_some]
  unfold finP
  simp only
  by_cases h1 : R.length = 1
  ·rw [show decide ((j : Int) = ((T.l.length - 1 : Nat) : Int)) = true from decide_eq_true (by omega), Bool.not_true, cond_false, if_pos h1, n2, List.length_reverse]
   by_cases h24 : 24 < V.length
   ·rw [decide_eq_true (show (24 : Int) < ((V.length : Nat) : Int) by omega), cond_true, if_pos h24]
    exact .mk _ _ rfl rfl rfl
   ·rw [decide_eq_false (show ¬ (24 : Int) < ((V.length : Nat) : Int) by omega), cond_false, if_neg h24]
    exact .mk _ _ n1 n2 rfl
  ·rw [show decide ((j : Int) = ((T.l.length - 1 : Nat) : Int)) = false from decide_eq_false (by omega), Bool.not_false, cond_true, if_neg h1]
   exact .mk _ _ rfl rfl rfl
theorem knows05 : Z3 = some true := by
 set_option maxRecDepth 1000000 in kernel_rfl
theorem parse_both (s : Bs) : ∃ a b e, Z60 s = some (a, e) ∧ Z22 s = some (b, e) ∧ a.FName = b.FName ∧ a.FWraps.l = b.FWraps.l := by
 obtain ⟨L, p, e, h1, h2, h3⟩ := scan_eq s
 by_cases he : e = 0
 ·subst he
  have h6 : s.length ≤ 65536 := by
   by_cases h : s.length ≤ 65536
   ·exact h
   ·exfalso
    unfold Z46 at h1
    rw [show decide ((65536 : Int) < ((s.length : Nat) : Int)) = true from decide_eq_true (by omega), cond_true] at h1
    cases h1
  have h5 : E5 (L.l.map ktT) := by
   rcases scan_spec h6 with ⟨M, g1, g2, -⟩ | ⟨-, p', e', g2, g3⟩
   ·rw [h1] at g2
    cases g2
    have hk := skN_le false s
    have hp := scT_pl s (by omega) F0 (skN false s) M (by omega) g1
    have := E5.of_pl M hp
    rw [List.map_map]; exact this
   ·rw [h1] at g2
    cases g2
    exact absurd rfl g3
  have hkk : (cvS L).l.map kt4 = L.l.map ktT := by unfold cvS; rw [List.map_map]; rfl
  obtain ⟨m, X, hK, ho⟩ := opens (L.l.map ktT)
  obtain ⟨a, a1, a2, a3⟩ := tparse_is hK h5 ho (by omega)
  obtain ⟨b, b1, b2, b3⟩ := rparse_is h2 (by rw [hkk]; exact hK) (by rw [hkk]; exact h5) ho (by unfold cvS; simp; omega)
  refine ⟨a, b, _, ?_, b1, by rw [a2, b2], by rw [a3, b3]⟩
  unfold Z60
  rw [h1, Option.bind_some]
  simp only [decide_true, Bool.not_true, cond_false]
  exact a1
 ·refine ⟨⟨[], Sl.nil⟩, ⟨[], Sl.nil⟩, e, ?_, ?_, rfl, rfl⟩
  ·unfold Z60
   rw [h1, Option.bind_some, show (!decide (e = 0)) = true by simpa using he]; rfl
  ·unfold Z22
   rw [h2, Option.bind_some, show (!decide (e = 0)) = true by simpa using he]; rfl
theorem typerefParse_true (s : Bs) : Z2 s = some true := by
 unfold Z2
 rw [knows05]
 cases (decide ((2000 : Int) < ((s.length : Nat) : Int))) && (decide (((s.length : Nat) : Int) ≤ (65536 : Int)))
 ·rw [cond_false]
  obtain ⟨a, b, e, h1, h2, h3, h4⟩ := parse_both s
  rw [h1, h2, Option.bind_some, Option.bind_some, Same5 h3 h4, Option.bind_some]
  simp [guardO]
 ·rfl
end Go.Proofs

namespace Go.Proofs.YtmjbloiidajknaaGreatDoor
open Go Go.Ab Go.RowKit Go.ChangeShapes Go.WideShapes Go.ChangeAt
variable {lou : Lou}
theorem bulkAll {H : Type} (l : List (DataW H)) : Rows.uptoBulkAll l = (l.map Rows.uptoBulk).sum := by
 induction l with
 | nil => rfl
 | cons x r ih => simp only [Rows.uptoBulkAll, List.map_cons, List.sum_cons, ih]
theorem bulkB {H : Type} : Bulk (H := H) Rows.uptoBulk := by
 refine ⟨fun d => ?_, fun b => by simp [Rows.uptoBulk], fun e s => by simp only [Rows.uptoBulk, bulkAll]; omega, fun l => by simp only [Rows.uptoBulk, bulkAll]; omega⟩
 cases d with
 | lit l => cases l <;> simp [Rows.uptoBulk]
 | nil => simp [Rows.uptoBulk]
 | ptr d => simp [Rows.uptoBulk]
 | slice elems spare => simp [Rows.uptoBulk]
 | agg parts => simp [Rows.uptoBulk]
 | iface t d => simp [Rows.uptoBulk]
 | map entries => simp [Rows.uptoBulk]
 | held h => simp [Rows.uptoBulk]
theorem own : ownKnob Tryz.prog.godebug = none := by kernel_rfl
theorem laid : laidOutB Tryz.prog = true := by kernel_rfl
theorem bound {H : Type} {l : List (DataW H)} (hk : Rows.uptoSmall H l = true) : Rows.uptoBulkAll l ≤ 1048576 := of_decide_eq_true hk
theorem table {W : World} (h : laidMet Tryz.prog Rows.typerefParseUptoRow.laid W) : ∃ tp p u fr, W.heap[2]? = some (.cells #[.iface tp p] u fr) :=
 err_of (P := Tryz.prog) (g := 2) (ti := 59) (by kernel_rfl) (by kernel_rfl) (by kernel_rfl) h (.tail _ (.tail _ (.tail _ (.head _))))
theorem isErr (tp : TypeId) (p : Value) (u : TypeId) (fr : Nat × Nat) : IsErr Tryz.prog (.fix 2 (.cells #[.iface tp p] u fr)) := .of (by kernel_rfl)
theorem typerefParse_call [IsLoud lou] (a : Bs) (tp : TypeId) (p : Value) (u : TypeId) (fr : Nat × Nat) : ACalls Tryz.prog 5 [.d (.str a)] (hTab 2 (.cells #[.iface tp p] u fr)) fun r h' => r = .a (.d (.bool true)) ∧ h' = hTab 2 (.cells #[.iface tp p] u fr) :=
 Z2_walk (typerefParse_true a) _ (gE := 0) rfl (isErr tp p u fr)
end Go.Proofs.YtmjbloiidajknaaGreatDoor

