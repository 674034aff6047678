import Derived.Test.YtmjbloiidajknaaDoorV4
import Derived.Test.YtmjbloiidajknaaDoorRows
set_option maxRecDepth 100000
set_option maxHeartbeats 2000000
set_option linter.unusedVariables false
set_option linter.unusedSimpArgs false
namespace Go.Proofs
open Go Go.Ab
def lim63 : Nat := 9223372036854775808
def stepF (a : Nat) (c : UInt8) : Nat := a * 10 + (c.toNat - 48)
def valF (a : Nat) (l : Bs) : Nat := l.foldl stepF a
theorem valF_cons (a : Nat) (c : UInt8) (r : Bs) : valF a (c :: r) = valF (a * 10 + (c.toNat - 48)) r := by
 unfold valF
 rw [List.foldl_cons]
 unfold stepF
 exact Eq.refl _
theorem valF_ge : ∀ (l : Bs) (a : Nat), a ≤ valF a l
 | [], a => Nat.le_refl _
 | c :: r, a => by rw [valF_cons]; have := valF_ge r (a * 10 + (c.toNat - 48)); omega
theorem isD_nat {c : UInt8} (h : isD c = true) : 48 ≤ c.toNat ∧ c.toNat ≤ 57 := by
 unfold isD at h; simp only [Bool.and_eq_true, decide_eq_true_eq] at h; omega
theorem parse_val : ∀ (t : Bs) (a : Nat), t.all isD = true → a < 18446744073709551616 → (Lib.parseUint10 a t = .ok (valF a t) ∧ valF a t < 18446744073709551616) ∨ (Lib.parseUint10 a t = .range ∧ 18446744073709551616 ≤ valF a t)
 | [], a, _, h => .inl ⟨rfl, h⟩
 | c :: r, a, hd, h => by
  simp only [List.all_cons, Bool.and_eq_true] at hd
  have hc := isD_nat hd.1
  have hg := valF_ge r (a * 10 + (c.toNat - 48))
  rw [Lib.parseUint10, if_pos hc, valF_cons]
  by_cases h1 : 1844674407370955162 ≤ a
  ·right; rw [if_pos h1]; exact ⟨rfl, by omega⟩
  ·rw [if_neg h1]
   by_cases h2 : 18446744073709551616 ≤ a * 10 + (c.toNat - 48)
   ·right; rw [if_pos h2]; exact ⟨rfl, by omega⟩
   ·rw [if_neg h2]; exact parse_val r _ hd.2 (by omega)
def negB (s : Bs) : Bool := s.head? == some 45
def magB (s : Bs) : Bs := bif negB s then s.tail else s
def numE (s : Bs) : Int := bif (magB s).isEmpty || ((magB s).head? == some 48 && (decide (1 < (magB s).length) || negB s)) then 3 else bif !(magB s).all isD then 3 else bif decide ((bif negB s then lim63 else lim63 - 1) < valF 0 (magB s)) then 4 else 0
theorem trim_eq (s : Bs) : Z34_q s [45] = some (magB s) := by
 unfold Z34_q Z1_q Z0_q magB negB
 cases s with
 | nil => rfl
 | cons c r =>
  have h1 : decide ((([45] : Bs).length : Int) ≤ (((c :: r : Bs).length : Nat) : Int)) = true := decide_eq_true (by simp only [List.length_cons, List.length_nil]; omega)
  simp only [Ab.on, h1, cond_true, Bool.true_and, List.head?_cons, List.tail_cons]
  have h2 : List.take ([45] : Bs).length (c :: r) = [c] := rfl
  rw [h2]
  by_cases h : c = 45
  ·subst h
   rw [show (([45] : Bs) == [45]) = true from rfl, show (some (45 : UInt8) == some 45) = true from rfl]
   simp only [cond_true]
   rw [show (some ((([45] : Bs).length : Nat) : Int)) = some (((1 : Nat) : Int)) from rfl, cut_from (by simp)]; rfl
  ·have h3 : (([c] : Bs) == [45]) = false := by simpa using h
   have h4 : (some c == some 45) = false := by simpa using h
   rw [h3, h4]; rfl
theorem tdig_eq : ∀ l : Bs, Z35_q19 l = bif l.all isD then Sum.inl () else Sum.inr (0, 3)
 | [] => rfl
 | c :: r => by
  rw [Z35_q19, tdig_eq r]
  simp only [Ab.on, List.all_cons]
  unfold isD
  by_cases h1 : ((c.toNat : Nat) : Int) < 48
  ·rw [show decide (((c.toNat : Nat) : Int) < 48) = true from decide_eq_true h1, show decide ((48 : Int) ≤ ((c.toNat : Nat) : Int)) = false from decide_eq_false (by omega)]; rfl
  ·rw [show decide (((c.toNat : Nat) : Int) < 48) = false from decide_eq_false h1, show decide ((48 : Int) ≤ ((c.toNat : Nat) : Int)) = true from decide_eq_true (by omega)]
   by_cases h2 : (57 : Int) < ((c.toNat : Nat) : Int)
   ·rw [show decide (((c.toNat : Nat) : Int) ≤ 57) = false from decide_eq_false (by omega)]; simp [h2]
   ·rw [show decide (((c.toNat : Nat) : Int) ≤ 57) = true from decide_eq_true (by omega)]; simp [h2]
theorem rdig_eq : ∀ l : Bs, Z8_q47 l = bif l.all isD then Sum.inl () else Sum.inr (0, 3)
 | [] => rfl
 | c :: r => by
  rw [Z8_q47, rdig_eq r]
  simp only [Ab.on, List.all_cons]
  rw [show Z11_q ((c.toNat : Nat) : Int) = isD c from rfl]
  cases isD c <;> rfl
theorem mag_cases (s : Bs) : (negB s = true ∧ ∃ r, s = 45 :: r ∧ magB s = r) ∨ (negB s = false ∧ magB s = s) := by
 unfold magB negB
 cases s with
 | nil => exact .inr ⟨rfl, rfl⟩
 | cons c r =>
  by_cases h : c = 45
  ·subst h; exact .inl ⟨rfl, r, rfl, rfl⟩
  ·have h4 : (some c == some 45) = false := by simpa using h
   right; simp only [List.head?_cons, h4]; exact ⟨trivial, rfl⟩
theorem atoi_num {s : Bs} (hl : s.length ≤ 1048577) (hne : magB s ≠ []) (hd : (magB s).all isD = true) : ∃ v, Z23_q s = some (v, decide ((bif negB s then lim63 else lim63 - 1) < valF 0 (magB s))) := by
 unfold Z23_q Z23 atoiC
 rw [if_pos (Nat.le_trans hl (by decide))]
 rcases mag_cases s with ⟨hn, r, rfl, hm⟩ | ⟨hn, hm⟩
 ·rw [hm] at hne hd ⊢
  rw [hn]
  have e : Lib.atoiAll (45 :: r) = (match Lib.parseUint10 0 r with | .syntax => .syntax | .range => .range | .ok u => if ¬ True ∧ 9223372036854775808 ≤ u then .range else if True ∧ 9223372036854775808 < u then .range else .ok (if True then -(u : Int) else u)) := by
   unfold Lib.atoiAll Lib.parseMag
   dsimp only
   rw [if_pos (show (45 : UInt8).toNat = 43 ∨ (45 : UInt8).toNat = 45 from .inr rfl), if_neg hne]
   simp only [show ((45 : UInt8).toNat = 45) = True from eq_true rfl]
   cases Lib.parseUint10 0 r <;> simp
  rw [e]
  rcases parse_val r 0 hd (by decide) with ⟨h1, h2⟩ | ⟨h1, h2⟩
  ·rw [h1]
   by_cases h3 : 9223372036854775808 < valF 0 r
   ·exact ⟨Lib.atoiSat (45 :: r), by simp only [not_true_eq_false, false_and, if_false, true_and, h3, if_true, cond_true]; rw [decide_eq_true (show lim63 < valF 0 r from h3)]⟩
   ·exact ⟨_, by simp only [not_true_eq_false, false_and, if_false, true_and, h3, if_true, cond_true]; rw [decide_eq_false (show ¬ lim63 < valF 0 r from h3)]⟩
  ·rw [h1]
   exact ⟨_, by simp only [cond_true]; rw [decide_eq_true (show lim63 < valF 0 r by unfold lim63; omega)]⟩
 ·rw [hm] at hne hd ⊢
  rw [hn]
  cases s with
  | nil => exact absurd rfl hne
  | cons c r =>
   simp only [List.all_cons, Bool.and_eq_true] at hd
   have hc := isD_nat hd.1
   have hd' : (c :: r).all isD = true := by simp [hd.1, hd.2]
   have e : Lib.atoiAll (c :: r) = (match Lib.parseUint10 0 (c :: r) with | .syntax => .syntax | .range => .range | .ok u => if ¬ False ∧ 9223372036854775808 ≤ u then .range else if False ∧ 9223372036854775808 < u then .range else .ok (if False then -(u : Int) else u)) := by
    unfold Lib.atoiAll Lib.parseMag
    have h45 : (c.toNat = 45) = False := eq_false (by omega)
    dsimp only
    rw [if_neg (show ¬ (c.toNat = 43 ∨ c.toNat = 45) by omega), if_neg hne]
    simp only [h45]
    cases Lib.parseUint10 0 (c :: r) <;> simp
   rw [e]
   rcases parse_val (c :: r) 0 hd' (by decide) with ⟨h1, h2⟩ | ⟨h1, h2⟩
   ·rw [h1]
    by_cases h3 : 9223372036854775808 ≤ valF 0 (c :: r)
    ·exact ⟨_, by simp only [not_false_eq_true, true_and, h3, if_true, cond_false]; rw [decide_eq_true (show lim63 - 1 < valF 0 (c :: r) by unfold lim63; omega)]⟩
    ·exact ⟨_, by simp only [not_false_eq_true, true_and, h3, if_false, false_and, cond_false]; rw [decide_eq_false (show ¬ lim63 - 1 < valF 0 (c :: r) by unfold lim63; omega)]⟩
   ·rw [h1]
    exact ⟨_, by simp only [cond_false]; rw [decide_eq_true (show lim63 - 1 < valF 0 (c :: r) by unfold lim63; omega)]⟩
theorem tnum_eq {s : Bs} (hl : s.length ≤ 1048577) : ∃ v, Z35 s = some (v, numE s) := by
 rw [Z35_eq]
 unfold Z35_q
 rw [trim_eq, Option.bind_some, tdig_eq]
 unfold numE
 cases hm : magB s with
 | nil => exact ⟨0, rfl⟩
 | cons c r =>
  rw [show ((c :: r : Bs) == []) = false from rfl, show ((c :: r : Bs)[0]?) = some c from rfl]
  simp only [guardO, Bool.not_false, if_true, Option.bind_some, Bool.false_or, List.isEmpty_cons, List.head?_cons]
  have h48 : decide (((c.toNat : Nat) : Int) = 48) = (some c == some 48) := by
   rw [Bool.eq_iff_iff, decide_eq_true_eq]
   simp only [Option.some_beq_some, beq_iff_eq]
   rw [← UInt8.toNat_inj]
   show _ ↔ c.toNat = 48
   omega
  have hlen : (decide ((1 : Int) < (((c :: r : Bs).length : Nat) : Int)) || decide ((1 : Int) < ((s.length : Nat) : Int))) = (decide (1 < (c :: r : Bs).length) || negB s) := by
   rcases mag_cases s with ⟨hn, r', rfl, hm'⟩ | ⟨hn, hm'⟩
   ·rw [hn, Bool.or_true]
    rw [hm'] at hm; subst hm
    rw [show decide ((1 : Int) < (((45 :: c :: r : Bs).length : Nat) : Int)) = true from decide_eq_true (by simp only [List.length_cons]; omega), Bool.or_true]
   ·rw [hn, Bool.or_false, ← hm', hm, Bool.or_self, Bool.eq_iff_iff, decide_eq_true_eq, decide_eq_true_eq]; omega
  rw [h48, hlen]
  cases hx : (some c == some 48 && (decide (1 < (c :: r : Bs).length) || negB s))
  ·simp only [cond_false]
   cases hd : (c :: r : Bs).all isD
   ·exact ⟨0, rfl⟩
   ·simp only [Ab.on, cond_true, Bool.not_true, cond_false]
    obtain ⟨v, e⟩ := atoi_num hl (by rw [hm]; simp) (by rw [hm]; exact hd)
    rw [hm] at e
    rw [e, Option.bind_some]
    cases decide ((bif negB s then lim63 else lim63 - 1) < valF 0 (c :: r))
    ·exact ⟨v, rfl⟩
    ·exact ⟨0, rfl⟩
  ·exact ⟨0, rfl⟩
theorem wrap64_nat (n : Int) (h0 : -9223372036854775808 ≤ n) (h1 : n ≤ 9223372036854775807) : IntKind.wrap .i64 n = n := by
 simp [IntKind.wrap, IntKind.bits, IntKind.signed]; omega
theorem tdiv_neg (m : Nat) : Int.tdiv (-(m : Int)) 10 = -((m / 10 : Nat) : Int) := by
 rw [Int.neg_tdiv, Int.tdiv_eq_ediv_of_nonneg (by omega)]; rfl
theorem rval : ∀ (t : Bs) (a : Nat), t.all isD = true → a ≤ lim63 → (Z8_q28 t (-(a : Int)) = some (Sum.inl (-(valF a t : Int))) ∧ valF a t ≤ lim63) ∨ (Z8_q28 t (-(a : Int)) = some (Sum.inr (0, 4)) ∧ lim63 < valF a t)
 | [], a, _, h => .inl ⟨rfl, h⟩
 | c :: r, a, hd, h => by
  simp only [List.all_cons, Bool.and_eq_true] at hd
  have hc := isD_nat hd.1
  have hg := valF_ge r (a * 10 + (c.toNat - 48))
  obtain ⟨d, hdd⟩ : ∃ d : Nat, c.toNat = 48 + d := ⟨c.toNat - 48, by omega⟩
  have hd9 : d ≤ 9 := by omega
  have e1 : subC (IntKind.wrap .i64 ((c.toNat : Nat) : Int)) 48 = some (d : Int) := by
   rw [wrap64_nat _ (by omega) (by omega), subC_ok (by omega), hdd]
   exact congrArg some (by omega)
  have e2 : addC (-9223372036854775808) (d : Int) = some (-((lim63 - d : Nat) : Int)) := by
   rw [addC_ok (by omega)]; unfold lim63; exact congrArg some (by omega)
  have e3 : IntKind.wrap .i64 (Int.tdiv (-((lim63 - d : Nat) : Int)) 10) = -(((lim63 - d) / 10 : Nat) : Int) := by
   rw [tdiv_neg, wrap64_nat _ (by unfold lim63; omega) (by unfold lim63; omega)]
  rw [Z8_q28]
  simp only [Ab.on]
  rw [e1, Option.bind_some, e2, Option.bind_some, e3, valF_cons, show c.toNat - 48 = d by omega]
  rw [show c.toNat - 48 = d by omega] at hg
  by_cases h1 : lim63 < a * 10 + d
  ·right
   rw [show decide (-(a : Int) < -(((lim63 - d) / 10 : Nat) : Int)) = true from decide_eq_true (by unfold lim63 at *; omega), cond_true]
   exact ⟨rfl, by omega⟩
  ·rw [show decide (-(a : Int) < -(((lim63 - d) / 10 : Nat) : Int)) = false from decide_eq_false (by unfold lim63 at *; omega), cond_false]
   have e4 : mulC 10 (-(a : Int)) = some (-((a * 10 : Nat) : Int)) := by
    unfold mulC lim63 at *
    rw [if_pos (by omega)]; exact congrArg some (by push_cast; omega)
   have e5 : subC (-((a * 10 : Nat) : Int)) (d : Int) = some (-((a * 10 + d : Nat) : Int)) := by
    unfold lim63 at *
    rw [subC_ok (by omega)]; exact congrArg some (by push_cast; omega)
   rw [e4, Option.bind_some, e5, Option.bind_some]
   exact rval r _ hd.2 (by omega)
theorem rnum_eq (s : Bs) : ∃ v, Z8 s = some (v, numE s) := by
 rw [Z8_eq]
 unfold Z8_q
 have h45 : ((decide ((0 : Int) < ((s.length : Nat) : Int))) && (decide ((((bif (decide ((0 : Int) < ((s.length : Nat) : Int))) then ((s)[0]?.getD (0 : UInt8)) else (0 : UInt8)).toNat : Nat) : Int) = (45 : Int)))) = negB s := by
  unfold negB
  cases s with
  | nil => rfl
  | cons c r =>
   rw [show decide ((0 : Int) < (((c :: r : Bs).length : Nat) : Int)) = true from decide_eq_true (by simp only [List.length_cons]; omega)]
   simp only [cond_true, Bool.true_and, List.getElem?_cons_zero, Option.getD_some, List.head?_cons]
   rw [Bool.eq_iff_iff, decide_eq_true_eq]
   simp only [Option.some_beq_some, beq_iff_eq]
   rw [← UInt8.toNat_inj]
   show _ ↔ c.toNat = 45
   omega
 simp only [Ab.on, h45]
 have hcut : (bif negB s then ((cutC s (some (1 : Int)) none).bind fun x61 => some x61) else (some s)) = some (magB s) := by
  rcases mag_cases s with ⟨hn, r, rfl, hm⟩ | ⟨hn, hm⟩
  ·rw [hn, hm, cond_true, show (some (1 : Int)) = some ((1 : Nat) : Int) from rfl, cut_from (by simp)]; rfl
  ·rw [hn, hm]; rfl
 rw [hcut, Option.bind_some, rdig_eq]
 unfold numE
 cases hm : magB s with
 | nil => exact ⟨0, rfl⟩
 | cons c r =>
  rw [show decide ((((c :: r : Bs).length : Nat) : Int) = 0) = false from decide_eq_false (by simp only [List.length_cons]; omega), show ((c :: r : Bs)[0]?) = some c from rfl]
  simp only [guardO, Bool.not_false, if_true, Option.bind_some, Bool.false_or, List.isEmpty_cons, List.head?_cons]
  have h48 : decide (((c.toNat : Nat) : Int) = 48) = (some c == some 48) := by
   rw [Bool.eq_iff_iff, decide_eq_true_eq]
   simp only [Option.some_beq_some, beq_iff_eq]
   rw [← UInt8.toNat_inj]
   show _ ↔ c.toNat = 48
   omega
  have hlen : (decide ((1 : Int) < (((c :: r : Bs).length : Nat) : Int))) = (decide (1 < (c :: r : Bs).length)) := by
   rw [Bool.eq_iff_iff, decide_eq_true_eq, decide_eq_true_eq]; omega
  rw [h48, hlen]
  cases hx : (some c == some 48 && (decide (1 < (c :: r : Bs).length) || negB s))
  ·simp only [cond_false]
   cases hd : (c :: r : Bs).all isD
   ·exact ⟨0, rfl⟩
   ·simp only [cond_true, Bool.not_true, cond_false]
    rcases rval (c :: r) 0 hd (by decide) with ⟨h1, h2⟩ | ⟨h1, h2⟩
    ·have h1' : Z8_q28 (c :: r) 0 = some (Sum.inl (-(valF 0 (c :: r) : Int))) := h1
     rw [h1', Option.bind_some]
     cases hn : negB s
     ·simp only [cond_false]
      by_cases h3 : valF 0 (c :: r) = lim63
      ·rw [show decide (-(valF 0 (c :: r) : Int) = -9223372036854775808) = true from decide_eq_true (by rw [h3]; rfl), decide_eq_true (show lim63 - 1 < valF 0 (c :: r) by rw [h3]; decide)]
       exact ⟨0, rfl⟩
      ·rw [show decide (-(valF 0 (c :: r) : Int) = -9223372036854775808) = false from decide_eq_false (by unfold lim63 at h3; omega), decide_eq_false (show ¬ lim63 - 1 < valF 0 (c :: r) by unfold lim63 at *; omega)]
       exact ⟨_, rfl⟩
     ·simp only [cond_true]
      rw [decide_eq_false (show ¬ lim63 < valF 0 (c :: r) by omega)]
      exact ⟨_, rfl⟩
    ·have h1' : Z8_q28 (c :: r) 0 = some (Sum.inr (0, 4)) := h1
     rw [h1', Option.bind_some]
     have h3 : decide ((bif negB s then lim63 else lim63 - 1) < valF 0 (c :: r)) = true := decide_eq_true (by cases negB s <;> simp <;> omega)
     rw [h3]
     exact ⟨0, rfl⟩
  ·exact ⟨0, rfl⟩
end Go.Proofs

namespace Go.Proofs
open Go Go.Ab
def hexS : Bs := [48, 49, 50, 51, 52, 53, 54, 55, 56, 57, 97, 98, 99, 100, 101, 102]
def hvV (n : Int) : Int := (Z13 n).getD (-2)
def ixV (n : Int) : Int := Lib.indexByte hexS (IntKind.wrap .u8 ((BitVec.ofInt (IntKind.bits .u8) n ||| BitVec.ofInt (IntKind.bits .u8) (32 : Int)).toNat : Int)).toNat.toUInt8
def badV (n : Int) : Bool := ((decide (ixV n < (0 : Int))) || (decide (n < (48 : Int)))) || ((decide ((57 : Int) < n)) && (decide (n < (65 : Int))))
theorem hex_tab : (List.range 256).all (fun n => (Z13 (n : Int) == some (hvV (n : Int))) && ((badV (n : Int) == decide (hvV (n : Int) < 0)) && ((decide (hvV (n : Int) < 0) || decide (ixV (n : Int) = hvV (n : Int))) && (decide (-1 ≤ hvV (n : Int)) && decide (hvV (n : Int) ≤ 15))))) = true := by
 set_option maxRecDepth 100000 in kernel_rfl
theorem hex_at (c : UInt8) : Z13 ((c.toNat : Nat) : Int) = some (hvV ((c.toNat : Nat) : Int)) ∧ badV ((c.toNat : Nat) : Int) = decide (hvV ((c.toNat : Nat) : Int) < 0) ∧ (hvV ((c.toNat : Nat) : Int) < 0 ∨ ixV ((c.toNat : Nat) : Int) = hvV ((c.toNat : Nat) : Int)) ∧ -1 ≤ hvV ((c.toNat : Nat) : Int) ∧ hvV ((c.toNat : Nat) : Int) ≤ 15 := by
 have h := List.all_eq_true.1 hex_tab c.toNat (List.mem_range.2 c.toNat_lt)
 simp only [Bool.and_eq_true, Bool.or_eq_true, decide_eq_true_eq, beq_iff_eq] at h
 exact ⟨h.1, h.2.1, h.2.2.1, h.2.2.2.1, h.2.2.2.2⟩
def plV (n : Int) : Int × Bool := (Z38 n).getD (0, false)
theorem pl_tab : (List.range 256).all (fun n => (Z38 (n : Int) == some (plV (n : Int))) && (decide (0 ≤ (plV (n : Int)).1) && decide ((plV (n : Int)).1 < 256))) = true := by
 set_option maxRecDepth 100000 in kernel_rfl
theorem pl_at (c : UInt8) : Z38 ((c.toNat : Nat) : Int) = some (plV ((c.toNat : Nat) : Int)) ∧ 0 ≤ (plV ((c.toNat : Nat) : Int)).1 ∧ (plV ((c.toNat : Nat) : Int)).1 < 256 := by
 have h := List.all_eq_true.1 pl_tab c.toNat (List.mem_range.2 c.toNat_lt)
 simp only [Bool.and_eq_true, decide_eq_true_eq, beq_iff_eq] at h
 exact ⟨h.1, h.2.1, h.2.2⟩
theorem simple_plain (n : Int) : Z12 n = Z38 n := rfl
def Rp (B : Strings_Builder) (l : Bs) : Prop := (l = [] ∧ B.Fbuf = ⟨true, []⟩) ∨ (l ≠ [] ∧ B.Fbuf = ⟨false, l.map fun b => (b.toNat : Int)⟩)
theorem Rp.buf {B : Strings_Builder} {l : Bs} (h : Rp B l) : B.Fbuf.l = l.map fun b => (b.toNat : Int) := by
 rcases h with ⟨rfl, h⟩ | ⟨_, h⟩ <;> rw [h]; rfl
theorem byte_cast {n : Int} (h0 : 0 ≤ n) (h1 : n < 256) : ((UInt8.ofNat n.toNat).toNat : Int) = n := by
 rw [UInt8.toNat_ofNat', Nat.mod_eq_of_lt (by omega)]; omega
theorem Rp.wb {B : Strings_Builder} {l : Bs} (h : Rp B l) {n : Int} (h0 : 0 ≤ n) (h1 : n < 256) (hl : l.length ≤ 1048576) : ∃ B', Z25 B n = some (false, B') ∧ Rp B' (l ++ [UInt8.ofNat n.toNat]) := by
 refine ⟨⟨true, ⟨false, (l ++ [UInt8.ofNat n.toNat]).map fun b => (b.toNat : Int)⟩⟩, ?_, .inr ⟨by simp, rfl⟩⟩
 have hb := h.buf
 have hlen : B.Fbuf.l.length = l.length := by rw [hb, List.length_map]
 unfold Z25 Z27 appC
 simp only [Option.bind_some]
 rw [if_pos (by rw [hlen]; simp only [List.length_cons, List.length_nil]; unfold maxN; omega)]
 simp only [Option.bind_some, hb, List.map_append, List.map_cons, List.map_nil, byte_cast h0 h1, List.isEmpty_cons, Bool.and_false]
theorem Rp.str {B : Strings_Builder} {l : Bs} (h : Rp B l) : Z24 B = some l := by
 unfold Z24 bldStr
 rw [if_pos]
 ·refine congrArg some ?_
  unfold bytesC
  rw [h.buf, List.map_map]
  conv => rhs; rw [← List.map_id l]
  refine List.map_congr_left fun b _ => ?_
  simp
 ·refine ⟨?_, ?_⟩
  ·rw [h.buf, List.all_map, List.all_eq_true]
   intro b _
   have := b.toNat_lt
   simp; omega
  ·rcases h with ⟨_, h⟩ | ⟨h2, h⟩
   ·rw [h]; exact .inl ⟨rfl, rfl⟩
   ·rw [h]; exact .inr ⟨rfl, by simpa using h2⟩
theorem cat_one {l : Bs} {n : Int} (hl : l.length ≤ 1048576) : catC l (bytesC (⟨false, [n]⟩ : Sl Int)) = some (l ++ [UInt8.ofNat n.toNat]) := by
 unfold catC bytesC
 rw [if_pos (by simp only [List.map_cons, List.map_nil, List.length_cons, List.length_nil]; unfold maxS; omega)]
 rfl
def hex4 (a b c d : Int) : Int := bif decide (hvV a < 0) || (decide (hvV b < 0) || (decide (hvV c < 0) || decide (hvV d < 0))) then -1 else ((hvV a * 16 + hvV b) * 16 + hvV c) * 16 + hvV d
theorem code_step (s : Bs) (n : Nat) (v : Int) (i : Nat) (c : UInt8) (hc : s[i]? = some c) (h4 : i < 4) (h0 : 0 ≤ v) (h1 : v ≤ 65536) : Z10_l12 s (n + 1) v (i : Int) = bif decide (hvV ((c.toNat : Nat) : Int) < 0) then some (-1) else Z10_l12 s n (v * 16 + hvV ((c.toNat : Nat) : Int)) ((i + 1 : Nat) : Int) := by
 obtain ⟨e1, -, -, e4, e5⟩ := hex_at c
 have m1 : mulC 16 v = some (v * 16) := by unfold mulC; rw [if_pos (by omega), Int.mul_comm]
 have one : addC (i : Int) 1 = some (((i + 1 : Nat)) : Int) := by rw [addC_ok (by omega)]; rfl
 have two : addC (v * 16) (hvV ((c.toNat : Nat) : Int)) = some (v * 16 + hvV ((c.toNat : Nat) : Int)) := addC_ok (by omega)
 rw [Z10_l12, show decide ((i : Int) < 4) = true from decide_eq_true (by omega), idxC_nat, hc, cond_true, Option.bind_some, e1, Option.bind_some]
 rw [m1, Option.bind_some, Option.bind_some, e1, Option.bind_some, two, Option.bind_some, one, Option.bind_some]
theorem code_eq (a b c d : UInt8) : Z10 [a, b, c, d] = some (hex4 (a.toNat : Nat) (b.toNat : Nat) (c.toNat : Nat) (d.toNat : Nat)) := by
 obtain ⟨-, -, -, a4, a5⟩ := hex_at a
 obtain ⟨-, -, -, b4, b5⟩ := hex_at b
 obtain ⟨-, -, -, c4, c5⟩ := hex_at c
 obtain ⟨-, -, -, d4, d5⟩ := hex_at d
 unfold Z10
 rw [show (!decide ((((([a, b, c, d] : Bs).length : Nat)) : Int) = 4)) = false from rfl, cond_false]
 obtain ⟨m, hm⟩ : ∃ m, F0 = m + 1 + 1 + 1 + 1 + 1 := ⟨4611686018427387899, by rw [F0_eq]⟩
 rw [hm]
 unfold hex4
 have s1 := code_step [a, b, c, d] (m + 1 + 1 + 1 + 1) 0 0 a rfl (by omega) (by omega) (by omega)
 rw [show (((0 : Nat) : Int)) = 0 from rfl] at s1
 rw [s1]
 cases ha : decide (hvV ((a.toNat : Nat) : Int) < 0)
 ·have ha := of_decide_eq_false ha
  rw [cond_false, code_step [a, b, c, d] (m + 1 + 1 + 1) _ 1 b rfl (by omega) (by omega) (by omega)]
  cases hb : decide (hvV ((b.toNat : Nat) : Int) < 0)
  ·have hb := of_decide_eq_false hb
   rw [cond_false, code_step [a, b, c, d] (m + 1 + 1) _ 2 c rfl (by omega) (by omega) (by omega)]
   cases hc : decide (hvV ((c.toNat : Nat) : Int) < 0)
   ·have hc := of_decide_eq_false hc
    rw [cond_false, code_step [a, b, c, d] (m + 1) _ 3 d rfl (by omega) (by omega) (by omega)]
    cases hd : decide (hvV ((d.toNat : Nat) : Int) < 0)
    ·rw [cond_false, Z10_l12]
     have e : (0 * 16 + hvV ((a.toNat : Nat) : Int)) = hvV ((a.toNat : Nat) : Int) := by omega
     rw [e]
     rfl
    ·rfl
   ·rfl
  ·rfl
 ·rfl
theorem hexT_step (y : Strings_Builder) (j : Int) (s : Sl Int) (k : Int → Strings_Builder → Option (Bs × Int)) (n : Nat) (v : Int) (i : Nat) (c : UInt8) (hc : s.l[i]? = some ((c.toNat : Nat) : Int)) (h0 : 0 ≤ v) (h1 : v ≤ 65536) : Z37_l81 y j s k (n + 1) v i = bif decide (hvV ((c.toNat : Nat) : Int) < 0) then some ([], 3) else Z37_l81 y j s k n (v * 16 + hvV ((c.toNat : Nat) : Int)) (i + 1) := by
 obtain ⟨-, e2, e3, e4, e5⟩ := hex_at c
 have hi := (List.getElem?_eq_some_iff.1 hc).1
 rw [Z37_l81, show decide (((i : Nat) : Int) < ((s.l.length : Nat) : Int)) = true from decide_eq_true (by omega), hc]
 have ei : ∀ f : Int → Option (Bs × Int), (Z31 ([48, 49, 50, 51, 52, 53, 54, 55, 56, 57, 97, 98, 99, 100, 101, 102] : Bs) (IntKind.wrap .u8 ((BitVec.ofInt (IntKind.bits .u8) ((c.toNat : Nat) : Int) ||| BitVec.ofInt (IntKind.bits .u8) (32 : Int)).toNat : Int))).bind f = f (ixV ((c.toNat : Nat) : Int)) := fun _ => rfl
 simp only [cond_true, Option.bind_some]
 rw [ei]
 rw [show ((((decide (ixV ((c.toNat : Nat) : Int) < (0 : Int))) || (decide (((c.toNat : Nat) : Int) < (48 : Int)))) || ((decide ((57 : Int) < ((c.toNat : Nat) : Int))) && (decide (((c.toNat : Nat) : Int) < (65 : Int)))))) = decide (hvV ((c.toNat : Nat) : Int) < 0) from e2]
 cases hv : decide (hvV ((c.toNat : Nat) : Int) < 0)
 ·have hv := of_decide_eq_false hv
  have e3 : ixV ((c.toNat : Nat) : Int) = hvV ((c.toNat : Nat) : Int) := e3.resolve_left hv
  have m1 : mulC v 16 = some (v * 16) := by unfold mulC; rw [if_pos (by omega)]
  rw [cond_false, cond_false, m1, Option.bind_some, e3, addC_ok (by omega), Option.bind_some]
 ·rfl
theorem hexT_eq (y : Strings_Builder) (j : Int) (a b c d : UInt8) (k : Int → Strings_Builder → Option (Bs × Int)) : Z37_l81 y j (strSl [a, b, c, d]) k ((strSl [a, b, c, d]).l.length + 1) 0 0 = bif decide (hex4 (a.toNat : Nat) (b.toNat : Nat) (c.toNat : Nat) (d.toNat : Nat) < 0) || decide (255 < hex4 (a.toNat : Nat) (b.toNat : Nat) (c.toNat : Nat) (d.toNat : Nat)) then some ([], 3) else (Z25 y (IntKind.wrap .u8 (hex4 (a.toNat : Nat) (b.toNat : Nat) (c.toNat : Nat) (d.toNat : Nat)))).bind fun x73 => (addC j (4 : Int)).bind fun x74 => Z37_j29 k x74 x73.2 := by
 obtain ⟨-, -, -, a4, a5⟩ := hex_at a
 obtain ⟨-, -, -, b4, b5⟩ := hex_at b
 obtain ⟨-, -, -, c4, c5⟩ := hex_at c
 obtain ⟨-, -, -, d4, d5⟩ := hex_at d
 show Z37_l81 y j (strSl [a, b, c, d]) k (0 + 1 + 1 + 1 + 1 + 1) 0 0 = _
 rw [hexT_step y j (strSl [a, b, c, d]) k _ 0 0 a rfl (by omega) (by omega)]
 cases ha : decide (hvV ((a.toNat : Nat) : Int) < 0)
 ·have ha' := of_decide_eq_false ha
  rw [cond_false, hexT_step y j (strSl [a, b, c, d]) k _ _ 1 b rfl (by omega) (by omega)]
  cases hb : decide (hvV ((b.toNat : Nat) : Int) < 0)
  ·have hb' := of_decide_eq_false hb
   rw [cond_false, hexT_step y j (strSl [a, b, c, d]) k _ _ 2 c rfl (by omega) (by omega)]
   cases hc : decide (hvV ((c.toNat : Nat) : Int) < 0)
   ·have hc' := of_decide_eq_false hc
    rw [cond_false, hexT_step y j (strSl [a, b, c, d]) k _ _ 3 d rfl (by omega) (by omega)]
    cases hd : decide (hvV ((d.toNat : Nat) : Int) < 0)
    ·have hd' := of_decide_eq_false hd
     have e : (0 * 16 + hvV ((a.toNat : Nat) : Int)) = hvV ((a.toNat : Nat) : Int) := by omega
     have e4 : hex4 (a.toNat : Nat) (b.toNat : Nat) (c.toNat : Nat) (d.toNat : Nat) = ((hvV ((a.toNat : Nat) : Int) * 16 + hvV ((b.toNat : Nat) : Int)) * 16 + hvV ((c.toNat : Nat) : Int)) * 16 + hvV ((d.toNat : Nat) : Int) := by
      unfold hex4; rw [ha, hb, hc, hd]; rfl
     rw [cond_false, Z37_l81, e4, e, show decide (((((hvV ((a.toNat : Nat) : Int) * 16 + hvV ((b.toNat : Nat) : Int)) * 16 + hvV ((c.toNat : Nat) : Int)) * 16 + hvV ((d.toNat : Nat) : Int)) < 0)) = false from decide_eq_false (by omega)]
     rfl
    ·have e4 : hex4 (a.toNat : Nat) (b.toNat : Nat) (c.toNat : Nat) (d.toNat : Nat) = -1 := by unfold hex4; rw [hd]; simp
     rw [e4]; rfl
   ·have e4 : hex4 (a.toNat : Nat) (b.toNat : Nat) (c.toNat : Nat) (d.toNat : Nat) = -1 := by unfold hex4; rw [hc]; simp
    rw [e4]; rfl
  ·have e4 : hex4 (a.toNat : Nat) (b.toNat : Nat) (c.toNat : Nat) (d.toNat : Nat) = -1 := by unfold hex4; rw [hb]; simp
   rw [e4]; rfl
 ·have e4 : hex4 (a.toNat : Nat) (b.toNat : Nat) (c.toNat : Nat) (d.toNat : Nat) = -1 := by unfold hex4; rw [ha]; simp
  rw [e4]; rfl
end Go.Proofs

namespace Go.Proofs
open Go Go.Ab
theorem add_nat {i k : Nat} (h : i ≤ 2097152) (hk : k ≤ 2097152) : addC (i : Int) (k : Int) = some ((i + k : Nat) : Int) := by rw [addC_ok (by omega)]; exact some_nat rfl
theorem j29_eq (k : Int → Strings_Builder → Option (Bs × Int)) {i : Nat} (h : i ≤ 2097152) (B : Strings_Builder) : Z37_j29 k (i : Int) B = k ((i + 1 : Nat) : Int) B := by
 unfold Z37_j29
 rw [show (1 : Int) = ((1 : Nat) : Int) from rfl, add_nat h (by omega), Option.bind_some]
theorem wrap8_byte (c : UInt8) : UInt8.ofNat (((c.toNat : Nat) : Int)).toNat = c := by
 rw [Int.toNat_natCast]; exact UInt8.ofNat_toNat
theorem wrap8_small {n : Int} (h0 : 0 ≤ n) (h1 : n < 256) : IntKind.wrap .u8 n = n := by
 simp [IntKind.wrap, IntKind.bits, IntKind.signed]; omega
theorem four {s : Bs} {i : Nat} (h : i + 4 ≤ s.length) : ∃ a b c d, (s.drop i).take 4 = [a, b, c, d] := by
 have h1 : ∀ k, k < 4 → ∃ c, s[i + k]? = some c := fun k hk => ⟨_, List.getElem?_eq_getElem (by omega)⟩
 obtain ⟨a, ha⟩ := h1 0 (by omega)
 obtain ⟨b, hb⟩ := h1 1 (by omega)
 obtain ⟨c, hc⟩ := h1 2 (by omega)
 obtain ⟨d, hd⟩ := h1 3 (by omega)
 exact ⟨a, b, c, d, by rw [drop_cons (show s[i]? = some a from ha), drop_cons hb, drop_cons hc, drop_cons hd]; rfl⟩
def badC (c : UInt8) : Bool := ((decide (((c.toNat : Nat) : Int) < (32 : Int))) || (decide ((126 : Int) < ((c.toNat : Nat) : Int)))) || (decide (((c.toNat : Nat) : Int) = (34 : Int)))
theorem tU_stop (x : Bs) (n i : Nat) (B : Strings_Builder) (h : x.length ≤ i) : Z37_l22 x (n + 1) (i : Int) B = Z37_j17 B := by
 rw [Z37_l22, show decide ((i : Int) < ((x.length : Nat) : Int)) = false from decide_eq_false (by omega), cond_false]
theorem rU_stop (x : Bs) (n i : Nat) (o : Bs) (h : x.length ≤ i) : Z9_l19 x (n + 1) o (i : Int) = some (o, 0) := by
 rw [Z9_l19, show decide ((i : Int) < ((x.length : Nat) : Int)) = false from decide_eq_false (by omega), cond_false]; rfl
theorem tU_bad {x : Bs} (n : Nat) {i : Nat} (B : Strings_Builder) {c : UInt8} (hc : x[i]? = some c) (h : badC c = true) : Z37_l22 x (n + 1) (i : Int) B = some ([], 3) := by
 have hi := (List.getElem?_eq_some_iff.1 hc).1
 unfold badC at h
 rw [Z37_l22, show decide ((i : Int) < ((x.length : Nat) : Int)) = true from decide_eq_true (by omega), cond_true, idxC_nat, hc, Option.bind_some, h, cond_true]
theorem rU_bad {x : Bs} (n : Nat) {i : Nat} (o : Bs) {c : UInt8} (hc : x[i]? = some c) (h : badC c = true) : Z9_l19 x (n + 1) o (i : Int) = some ([], 3) := by
 have hi := (List.getElem?_eq_some_iff.1 hc).1
 unfold badC at h
 rw [Z9_l19, show decide ((i : Int) < ((x.length : Nat) : Int)) = true from decide_eq_true (by omega), cond_true, idxC_nat, hc, Option.bind_some, h, cond_true]
theorem tU_char {x : Bs} (n : Nat) {i : Nat} {B B' : Strings_Builder} {c : UInt8} (hi2 : i ≤ 2097152) (hc : x[i]? = some c) (h : badC c = false) (h92 : decide (((c.toNat : Nat) : Int) = 92) = false) (hw : Z25 B ((c.toNat : Nat) : Int) = some (false, B')) : Z37_l22 x (n + 1) (i : Int) B = Z37_l22 x n ((i + 1 : Nat) : Int) B' := by
 have hi := (List.getElem?_eq_some_iff.1 hc).1
 unfold badC at h
 rw [Z37_l22, show decide ((i : Int) < ((x.length : Nat) : Int)) = true from decide_eq_true (by omega), cond_true, idxC_nat, hc, Option.bind_some, h, cond_false, h92, Bool.not_false, cond_true, hw, Option.bind_some, j29_eq _ hi2]
theorem rU_char {x : Bs} (n : Nat) {i : Nat} {o : Bs} {c : UInt8} (hi2 : i ≤ 1048576) (ho : o.length ≤ 1048576) (hc : x[i]? = some c) (h : badC c = false) (h92 : decide (((c.toNat : Nat) : Int) = 92) = false) : Z9_l19 x (n + 1) o (i : Int) = Z9_l19 x n (o ++ [c]) ((i + 1 : Nat) : Int) := by
 have hi := (List.getElem?_eq_some_iff.1 hc).1
 unfold badC at h
 have one : addC (i : Int) 1 = some (((i + 1 : Nat)) : Int) := add_nat (k := 1) (by omega) (by omega)
 rw [Z9_l19, show decide ((i : Int) < ((x.length : Nat) : Int)) = true from decide_eq_true (by omega), cond_true, idxC_nat, hc, Option.bind_some, h, cond_false, h92, Bool.not_false, cond_true, cat_one ho, Option.bind_some, one, Option.bind_some, wrap8_byte]
theorem tU_end {x : Bs} (n : Nat) {i : Nat} (B : Strings_Builder) {c : UInt8} (hi2 : i ≤ 1048576) (hc : x[i]? = some c) (h : badC c = false) (h92 : decide (((c.toNat : Nat) : Int) = 92) = true) (hn : x.length ≤ i + 1) : Z37_l22 x (n + 1) (i : Int) B = some ([], 3) := by
 have hi := (List.getElem?_eq_some_iff.1 hc).1
 unfold badC at h
 have one : addC (i : Int) 1 = some (((i + 1 : Nat)) : Int) := add_nat (k := 1) (by omega) (by omega)
 rw [Z37_l22, show decide ((i : Int) < ((x.length : Nat) : Int)) = true from decide_eq_true (by omega), cond_true, idxC_nat, hc, Option.bind_some, h, cond_false, h92, Bool.not_true, cond_false, one, Option.bind_some, show decide (((i + 1 : Nat) : Int) = ((x.length : Nat) : Int)) = true from decide_eq_true (by omega), cond_true]
theorem rU_end {x : Bs} (n : Nat) {i : Nat} (o : Bs) {c : UInt8} (hi2 : i ≤ 1048576) (hc : x[i]? = some c) (h : badC c = false) (h92 : decide (((c.toNat : Nat) : Int) = 92) = true) (hn : x.length ≤ i + 1) : Z9_l19 x (n + 1) o (i : Int) = some ([], 3) := by
 have hi := (List.getElem?_eq_some_iff.1 hc).1
 unfold badC at h
 have one : addC (i : Int) 1 = some (((i + 1 : Nat)) : Int) := add_nat (k := 1) (by omega) (by omega)
 rw [Z9_l19, show decide ((i : Int) < ((x.length : Nat) : Int)) = true from decide_eq_true (by omega), cond_true, idxC_nat, hc, Option.bind_some, h, cond_false, h92, Bool.not_true, cond_false, one, Option.bind_some, show decide (((x.length : Nat) : Int) ≤ ((i + 1 : Nat) : Int)) = true from decide_eq_true (by omega), cond_true]
theorem tU_esc {x : Bs} (n : Nat) {i : Nat} (B : Strings_Builder) {c d : UInt8} (hi2 : i ≤ 1048576) (hc : x[i]? = some c) (h : badC c = false) (h92 : decide (((c.toNat : Nat) : Int) = 92) = true) (hd : x[i + 1]? = some d) :
  Z37_l22 x (n + 1) (i : Int) B = bif (plV ((d.toNat : Nat) : Int)).2 then ((Z25 B (plV ((d.toNat : Nat) : Int)).1).bind fun x58 => Z37_j29 (Z37_l22 x n) ((i + 1 : Nat) : Int) x58.2) else bif (!decide (((d.toNat : Nat) : Int) = (117 : Int))) || (decide (x.length ≤ i + 5)) then (some (([] : Bs), (3 : Int))) else ((cutC x (some ((i + 2 : Nat) : Int)) (some ((i + 6 : Nat) : Int))).bind fun x78 => (bytesOf x78).bind fun x79 => Z37_l81 B ((i + 1 : Nat) : Int) x79 (Z37_l22 x n) (x79.l.length + 1) (0 : Int) 0) := by
 have hi := (List.getElem?_eq_some_iff.1 hc).1
 have hi1 := (List.getElem?_eq_some_iff.1 hd).1
 unfold badC at h
 have one : addC (i : Int) 1 = some (((i + 1 : Nat)) : Int) := add_nat (k := 1) (by omega) (by omega)
 have a1 : addC ((i + 1 : Nat) : Int) 1 = some (((i + 2 : Nat)) : Int) := add_nat (i := i + 1) (k := 1) (by omega) (by omega)
 have a4 : addC ((i + 1 : Nat) : Int) 4 = some (((i + 5 : Nat)) : Int) := add_nat (i := i + 1) (k := 4) (by omega) (by omega)
 have a5 : addC ((i + 1 : Nat) : Int) 5 = some (((i + 6 : Nat)) : Int) := add_nat (i := i + 1) (k := 5) (by omega) (by omega)
 rw [Z37_l22, show decide ((i : Int) < ((x.length : Nat) : Int)) = true from decide_eq_true (by omega), cond_true, idxC_nat, hc, Option.bind_some, h, cond_false, h92, Bool.not_true, cond_false, one, Option.bind_some, show decide (((i + 1 : Nat) : Int) = ((x.length : Nat) : Int)) = false from decide_eq_false (by omega), cond_false, idxC_nat, hd, Option.bind_some, (pl_at d).1, Option.bind_some]
 cases (plV ((d.toNat : Nat) : Int)).2
 ·rw [cond_false, cond_false, Option.bind_some, a4, a1, a5]
  cases decide (((d.toNat : Nat) : Int) = (117 : Int))
  ·rfl
  ·unfold guardO
   rw [Bool.not_true, Bool.not_false, if_pos rfl, Option.bind_some, Bool.false_or, Bool.false_or, Option.bind_some, Option.bind_some, show decide (((x.length : Nat) : Int) ≤ ((i + 5 : Nat) : Int)) = decide (x.length ≤ i + 5) from decide_eq_decide.2 (by omega)]
 ·rfl
theorem rU_esc {x : Bs} (n : Nat) {i : Nat} {o : Bs} {c d : UInt8} (hi2 : i ≤ 1048576) (ho : o.length ≤ 1048576) (hc : x[i]? = some c) (h : badC c = false) (h92 : decide (((c.toNat : Nat) : Int) = 92) = true) (hd : x[i + 1]? = some d) :
  Z9_l19 x (n + 1) o (i : Int) = bif (plV ((d.toNat : Nat) : Int)).2 then Z9_l19 x n (o ++ [UInt8.ofNat (plV ((d.toNat : Nat) : Int)).1.toNat]) ((i + 2 : Nat) : Int) else bif (!decide (((d.toNat : Nat) : Int) = (117 : Int))) || (decide (x.length ≤ i + 5)) then (some (([] : Bs), (3 : Int))) else ((cutC x (some ((i + 2 : Nat) : Int)) (some ((i + 6 : Nat) : Int))).bind fun x66 => (Z10 x66).bind fun x67 => bif ((decide (x67 < (0 : Int))) || (decide ((255 : Int) < x67))) then (some (([] : Bs), (3 : Int))) else Z9_l19 x n (o ++ [UInt8.ofNat (IntKind.wrap .u8 x67).toNat]) ((i + 6 : Nat) : Int)) := by
 have hi := (List.getElem?_eq_some_iff.1 hc).1
 have hi1 := (List.getElem?_eq_some_iff.1 hd).1
 unfold badC at h
 have one : addC (i : Int) 1 = some (((i + 1 : Nat)) : Int) := add_nat (k := 1) (by omega) (by omega)
 have a2 : addC (i : Int) 2 = some (((i + 2 : Nat)) : Int) := add_nat (k := 2) (by omega) (by omega)
 have a6 : addC (i : Int) 6 = some (((i + 6 : Nat)) : Int) := add_nat (k := 6) (by omega) (by omega)
 rw [Z9_l19, show decide ((i : Int) < ((x.length : Nat) : Int)) = true from decide_eq_true (by omega), cond_true, idxC_nat, hc, Option.bind_some, h, cond_false, h92, Bool.not_true, cond_false, one, Option.bind_some, show decide (((x.length : Nat) : Int) ≤ ((i + 1 : Nat) : Int)) = false from decide_eq_false (by omega), cond_false, Option.bind_some, idxC_nat, hd, Option.bind_some, simple_plain, (pl_at d).1, Option.bind_some]
 cases (plV ((d.toNat : Nat) : Int)).2
 ·rw [cond_false, cond_false, Option.bind_some, idxC_nat, hd, Option.bind_some, a6, a2]
  cases decide (((d.toNat : Nat) : Int) = (117 : Int))
  ·rfl
  ·unfold guardO
   rw [Bool.not_true, Bool.not_false, if_pos rfl, Option.bind_some, Bool.false_or, Bool.false_or, Option.bind_some, Option.bind_some, show decide (((x.length : Nat) : Int) < ((i + 6 : Nat) : Int)) = decide (x.length ≤ i + 5) from decide_eq_decide.2 (by omega)]
   cases decide (x.length ≤ i + 5)
   ·simp only [cond_false, cat_one ho, Option.bind_some]
   ·rfl
 ·rw [cond_true, cond_true, cat_one ho, Option.bind_some, a2, Option.bind_some]
theorem unq_loop (x : Bs) (hx : x.length ≤ 1048576) : ∀ (n i : Nat) (B : Strings_Builder) (o : Bs), Rp B o → o.length ≤ i → i ≤ x.length → x.length - i < n → ∃ r e, Z37_l22 x n (i : Int) B = some (r, e) ∧ Z9_l19 x n o (i : Int) = some (r, e) ∧ r.length ≤ x.length
 | 0, _, _, _, _, _, _, h => by omega
 | n + 1, i, B, o, hB, ho, hi, hn => by
  by_cases hlt : i < x.length
  ·obtain ⟨c, hc⟩ : ∃ c, x[i]? = some c := ⟨x[i], List.getElem?_eq_getElem hlt⟩
   cases hb : badC c
   ·cases h92 : decide (((c.toNat : Nat) : Int) = 92)
    ·obtain ⟨B', hw, hB'⟩ := hB.wb (n := ((c.toNat : Nat) : Int)) (by omega) (by have := c.toNat_lt; omega) (by omega)
     rw [tU_char n (by omega) hc hb h92 hw, rU_char n (by omega) (by omega) hc hb h92]
     rw [wrap8_byte] at hB'
     exact unq_loop x hx n (i + 1) B' _ hB' (by simp; omega) (by omega) (by omega)
    ·by_cases h1 : x.length ≤ i + 1
     ·exact ⟨[], 3, tU_end n B (by omega) hc hb h92 h1, rU_end n o (by omega) hc hb h92 h1, by simp⟩
     ·obtain ⟨d, hd⟩ : ∃ d, x[i + 1]? = some d := ⟨_, List.getElem?_eq_getElem (show i + 1 < x.length by omega)⟩
      rw [tU_esc n B (by omega) hc hb h92 hd, rU_esc n (by omega) (by omega) hc hb h92 hd]
      cases (plV ((d.toNat : Nat) : Int)).2
      ·rw [cond_false, cond_false]
       cases hs : (!decide (((d.toNat : Nat) : Int) = (117 : Int))) || (decide (x.length ≤ i + 5))
       ·have h6 : i + 6 ≤ x.length := by
         simp only [Bool.or_eq_false_iff, decide_eq_false_iff_not] at hs; omega
        obtain ⟨p, q, r, s, h4⟩ := four (s := x) (i := i + 2) (by omega)
        have hcut : cutC x (some ((i + 2 : Nat) : Int)) (some ((i + 6 : Nat) : Int)) = some [p, q, r, s] := by
         rw [cut_part (by omega) (by omega), show i + 6 - (i + 2) = 4 by omega, h4]
        have hbo : bytesOf [p, q, r, s] = some (strSl [p, q, r, s]) := rfl
        rw [cond_false, cond_false, hcut, Option.bind_some, Option.bind_some, hbo, Option.bind_some, hexT_eq, code_eq, Option.bind_some]
        generalize hex4 ((p.toNat : Nat) : Int) ((q.toNat : Nat) : Int) ((r.toNat : Nat) : Int) ((s.toNat : Nat) : Int) = v
        cases hv : decide (v < 0) || decide (255 < v)
        ·simp only [Bool.or_eq_false_iff, decide_eq_false_iff_not] at hv
         rw [cond_false, cond_false, wrap8_small (by omega) (by omega)]
         obtain ⟨B', hw, hB'⟩ := hB.wb (n := v) (by omega) (by omega) (by omega)
         have a4 : addC ((i + 1 : Nat) : Int) 4 = some (((i + 5 : Nat)) : Int) := add_nat (i := i + 1) (k := 4) (by omega) (by omega)
         rw [hw, Option.bind_some, a4, Option.bind_some, j29_eq _ (by omega)]
         exact unq_loop x hx n (i + 6) B' _ hB' (by simp; omega) (by omega) (by omega)
        ·exact ⟨[], 3, rfl, rfl, by simp⟩
       ·exact ⟨[], 3, rfl, rfl, by simp⟩
      ·obtain ⟨-, p0, p1⟩ := pl_at d
       obtain ⟨B', hw, hB'⟩ := hB.wb p0 p1 (by omega)
       rw [cond_true, cond_true, hw, Option.bind_some, j29_eq _ (by omega)]
       exact unq_loop x hx n (i + 2) B' _ hB' (by simp; omega) (by omega) (by omega)
   ·exact ⟨[], 3, tU_bad n B hc hb, rU_bad n o hc hb, by simp⟩
  ·refine ⟨o, 0, ?_, rU_stop x n i o (by omega), by omega⟩
   rw [tU_stop x n i B (by omega)]
   unfold Z37_j17
   rw [hB.str, Option.bind_some]
theorem unquote_eq {s : Bs} (hs : s.length ≤ 1048576) : ∃ r e, Z37 s = some (r, e) ∧ Z9 s = some (r, e) ∧ r.length ≤ s.length := by
 unfold Z37 Z9
 by_cases h2 : s.length < 2
 ·rw [show decide (((s.length : Nat) : Int) < 2) = true from decide_eq_true (by omega)]
  exact ⟨[], 3, rfl, rfl, by simp⟩
 ·rw [show decide (((s.length : Nat) : Int) < 2) = false from decide_eq_false (by omega)]
  obtain ⟨c, hc⟩ : ∃ c, s[0]? = some c := ⟨_, List.getElem?_eq_getElem (show 0 < s.length by omega)⟩
  have hsub : subC ((s.length : Nat) : Int) 1 = some ((s.length - 1 : Nat) : Int) := by rw [subC_ok (by omega)]; exact congrArg some (by omega)
  obtain ⟨z, hz⟩ : ∃ z, s[s.length - 1]? = some z := ⟨_, List.getElem?_eq_getElem (show s.length - 1 < s.length by omega)⟩
  have hcut : cutC s (some (1 : Int)) (some ((s.length - 1 : Nat) : Int)) = some ((s.drop 1).take (s.length - 1 - 1)) := cut_part (i := 1) (by omega) (by omega)
  rw [hc, hsub]
  simp only [guardO, Bool.not_false, if_true, Option.bind_some, Bool.false_or, idxC_nat, hz]
  cases decide (((c.toNat : Nat) : Int) = 34)
  ·exact ⟨[], 3, rfl, rfl, by simp⟩
  ·simp only [Bool.not_true, Bool.not_false, if_true, Option.bind_some, Bool.false_or, idxC_nat, hz, hcut]
   cases decide (((z.toNat : Nat) : Int) = 34)
   ·exact ⟨[], 3, rfl, rfl, by simp⟩
   ·obtain ⟨r, e, h1, h3, h4⟩ := unq_loop ((s.drop 1).take (s.length - 1 - 1)) (by simp; omega) F0 0 Strings_Builder.zero [] (.inl ⟨rfl, rfl⟩) (by simp) (by omega) (by rw [F0_eq]; simp; omega)
    exact ⟨r, e, h1, h3, by simp at h4; omega⟩
end Go.Proofs

namespace Go.Proofs
open Go Go.Ab
def sgV (n : Int) : Bool := (Z19 n).getD false
theorem sg_tab : (List.range 256).all (fun n => (Z19 (n : Int) == some (sgV (n : Int))) && ((Z28 ([33, 36, 38, 40, 41, 58, 61, 64, 91, 93, 123, 124, 125] : Bs) (n : Int) == some (sgV (n : Int))))) = true := by
 set_option maxRecDepth 100000 in kernel_rfl
theorem sg_at (c : UInt8) : Z19 ((c.toNat : Nat) : Int) = some (sgV ((c.toNat : Nat) : Int)) ∧ Z28 ([33, 36, 38, 40, 41, 58, 61, 64, 91, 93, 123, 124, 125] : Bs) ((c.toNat : Nat) : Int) = some (sgV ((c.toNat : Nat) : Int)) := by
 have h := List.all_eq_true.1 sg_tab c.toNat (List.mem_range.2 c.toNat_lt)
 simp only [Bool.and_eq_true, beq_iff_eq] at h
 exact h
theorem word_pos {s : Bs} {i : Nat} {c : UInt8} (hc : s[i]? = some c) (h : isW c = true) : 1 ≤ wordN (s.drop i) := by
 rw [drop_cons hc, wordN_cons, h, cond_true]; omega
theorem litR_cases (s : Bs) (i : Nat) (hi : i ≤ s.length) : litR s i false = -1 ∨ ∃ j : Nat, litR s i false = (j : Int) ∧ i ≤ j ∧ j ≤ s.length := by
 unfold litR
 cases h : litN false (s.drop i) with
 | none => exact .inl rfl
 | some k => 
  have := litN_le _ _ _ h
  simp only [List.length_drop] at this
  exact .inr ⟨i + k, rfl, by omega, by omega⟩
theorem letter_eq' (c : UInt8) : Z41 ((c.toNat : Nat) : Int) = some (isW c) := rfl
theorem one_eq {s : Bs} (hs : s.length ≤ 1048576) {i : Nat} (hi : i < s.length) : ∃ (t : Token_Token) (j e : Int), Z43 s (i : Int) = some (t, j, e) ∧ Z18 s (i : Int) = some (⟨t.FKind, t.FText, t.FAt⟩, j, e) ∧ (e = 0 → ∃ m : Nat, j = (m : Int) ∧ i < m ∧ m ≤ s.length) := by
 obtain ⟨c, hc⟩ : ∃ c, s[i]? = some c := ⟨_, List.getElem?_eq_getElem hi⟩
 have hlt := c.toNat_lt
 have one : addC (i : Int) 1 = some (((i + 1 : Nat)) : Int) := add_nat (k := 1) (by omega) (by omega)
 have three : addC (i : Int) 3 = some (((i + 3 : Nat)) : Int) := add_nat (k := 3) (by omega) (by omega)
 unfold Z43 Z18
 rw [idxC_nat, hc]
 simp only [Option.bind_some, wrap32]
 rw [(sg_at c).1, (sg_at c).2, Option.bind_some, Option.bind_some]
 cases hsg : sgV ((c.toNat : Nat) : Int)
 ·rw [cond_false, cond_false]
  by_cases h46 : ((c.toNat : Nat) : Int) = 46
  ·have hL : Z17 ((c.toNat : Nat) : Int) = some false := by rw [h46]; rfl
   have hD : Z16 ((c.toNat : Nat) : Int) = some false := by rw [h46]; rfl
   have hcut : cutC s (some (i : Int)) none = some (s.drop i) := cut_from (by omega)
   rw [decide_eq_true h46, cond_true, hcut, Option.bind_some, Z29_eq, Option.bind_some, three]
   have hp : Z29_q (s.drop i) ([46, 46, 46] : Bs) = (decide (i + 3 ≤ s.length) && (List.take 3 (s.drop i) == ([46, 46, 46] : Bs))) := by
    unfold Z29_q Z0_q
    simp only [Ab.on]
    rw [show decide (((([46, 46, 46] : Bs).length : Nat) : Int) ≤ (((s.drop i).length : Nat) : Int)) = decide (i + 3 ≤ s.length) from decide_eq_decide.2 (by simp only [List.length_cons, List.length_nil, List.length_drop]; omega)]
    cases decide (i + 3 ≤ s.length) <;> rfl
   rw [hp]
   by_cases h3 : i + 3 ≤ s.length
   ·have hcut3 : cutC s (some (i : Int)) (some ((i + 3 : Nat) : Int)) = some ((s.drop i).take 3) := by rw [cut_part (by omega) h3, show i + 3 - i = 3 by omega]
    simp only [guardO, if_true, Option.bind_some, Bool.true_and]
    rw [decide_eq_true (show ((i + 3 : Nat) : Int) ≤ ((s.length : Nat) : Int) by omega), if_pos rfl, if_pos rfl, hcut3, decide_eq_true h3]
    simp only [Option.bind_some, Bool.true_and]
    cases List.take 3 (s.drop i) == ([46, 46, 46] : Bs)
    ·rw [hL, hD, h46]
     exact ⟨_, _, _, rfl, rfl, fun h => absurd h (by decide)⟩
    ·exact ⟨_, _, _, rfl, rfl, fun _ => ⟨_, rfl, by omega, h3⟩⟩
   ·simp only [guardO, if_true, Option.bind_some, Bool.true_and]
    rw [decide_eq_false (show ¬ ((i + 3 : Nat) : Int) ≤ ((s.length : Nat) : Int) by omega), if_neg (by decide), if_neg (by decide), decide_eq_false h3]
    rw [hL, hD, h46]
    exact ⟨_, _, _, rfl, rfl, fun h => absurd h (by decide)⟩
  ·rw [decide_eq_false h46, cond_false]
   simp only [guardO, Bool.false_and, if_neg (show ¬ (false = true) by decide), cond_false]
   rw [letter_eq' c, rletter_eq, rdigit_eq, Option.bind_some, Option.bind_some, Option.bind_some, isW_eq]
   have hlet : isL c = true → ¬ ((c.toNat : Nat) : Int) = 45 ∧ isD c = false := by
    intro h
    unfold isL at h; unfold isD
    simp only [Bool.or_eq_true, Bool.and_eq_true, decide_eq_true_eq] at h
    refine ⟨by omega, ?_⟩
    rw [Bool.and_eq_false_iff, decide_eq_false_iff_not, decide_eq_false_iff_not]
    omega
   rw [show ((decide ((48 : Int) ≤ ((c.toNat : Nat) : Int))) && (decide (((c.toNat : Nat) : Int) ≤ (57 : Int)))) = isD c from rfl]
   cases hL : isL c
   ·rw [Bool.false_or, cond_false, Bool.or_comm (isD c)]
    cases hN : decide (((c.toNat : Nat) : Int) = (45 : Int)) || isD c
    ·rw [cond_false, cond_false]
     have hD : isD c = false := by rw [Bool.or_eq_false_iff] at hN; exact hN.2
     rw [hD, cond_false]
     cases h34 : decide (((c.toNat : Nat) : Int) = (34 : Int))
     ·exact ⟨_, _, _, rfl, rfl, fun h => absurd h (by decide)⟩
     ·rw [cond_true, cond_true, literal_eq hs hi, closing_eq hs hi, Option.bind_some, Option.bind_some]
      rcases litR_cases s (i + 1) (by omega) with h | ⟨j, h, h1, h2⟩
      ·rw [h]; exact ⟨_, _, _, rfl, rfl, fun h => absurd h (by decide)⟩
      ·rw [h, decide_eq_false (show ¬ ((j : Int) < 0) by omega), cond_false, cond_false, cut_part (by omega) h2, Option.bind_some, Option.bind_some]
       obtain ⟨r, e, u1, u2, -⟩ := unquote_eq (s := (s.drop i).take (j - i)) (by simp; omega)
       rw [u1, u2]
       exact ⟨_, _, _, rfl, rfl, fun _ => ⟨_, rfl, by omega, h2⟩⟩
    ·rw [cond_true, cond_true, one, Option.bind_some, Option.bind_some, span_eq hs (by omega), word_eq hs (by omega), Option.bind_some, Option.bind_some]
     have hw := wordN_le (s.drop (i + 1))
     simp only [List.length_drop] at hw
     rw [cut_part (by omega) (by omega), Option.bind_some, Option.bind_some]
     obtain ⟨v, h1⟩ := tnum_eq (s := (s.drop i).take (i + 1 + wordN (s.drop (i + 1)) - i)) (by simp; omega)
     obtain ⟨v', h2⟩ := rnum_eq ((s.drop i).take (i + 1 + wordN (s.drop (i + 1)) - i))
     rw [h1, h2]
     exact ⟨_, _, _, rfl, rfl, fun _ => ⟨_, rfl, by omega, by omega⟩⟩
   ·obtain ⟨h45, hD⟩ := hlet hL
    have hw := wordN_le (s.drop i)
    have hw1 := word_pos hc (by rw [isW_eq, hL]; rfl)
    simp only [List.length_drop] at hw
    rw [decide_eq_false h45, hD, Bool.or_self, cond_false, Bool.or_false, cond_true, cond_true, span_eq hs (by omega), word_eq hs (by omega), Option.bind_some, Option.bind_some, subC_ok (by omega), Option.bind_some, Option.bind_some]
    cases decide ((64 : Int) < ((i + wordN (s.drop i) : Nat) : Int) - (i : Int))
    ·rw [cond_false, cond_false, cut_part (by omega) (by omega), Option.bind_some, Option.bind_some]
     exact ⟨_, _, _, rfl, rfl, fun _ => ⟨_, rfl, by omega, by omega⟩⟩
    ·exact ⟨_, _, _, rfl, rfl, fun h => absurd h (by decide)⟩
 ·rw [cond_true, cond_true, one, Option.bind_some, Option.bind_some, cut_part (by omega) (by omega), Option.bind_some, Option.bind_some]
  exact ⟨_, _, _, rfl, rfl, fun _ => ⟨_, rfl, by omega, by omega⟩⟩
end Go.Proofs

namespace Go.Proofs
open Go Go.Ab
theorem app_one {α : Type} {s : Sl α} {t : α} (h : s.l.length ≤ 1048576) : appC 32 s (⟨false, [t]⟩ : Sl α) = some ⟨false, s.l ++ [t]⟩ := by
 unfold appC
 rw [if_pos (by simp only [List.length_cons, List.length_nil]; unfold maxN; omega)]
 simp
end Go.Proofs

namespace Go.Proofs
open Go Go.Ab
theorem scan_loop_err (s : Bs) (hs : s.length ≤ 1048575) : ∀ (n i : Nat) (A : Sl Token_Token), A.l.length ≤ i → i ≤ s.length → s.length - i < n → ∃ (L : Sl Token_Token) (p e : Int), Z40_l15 s n A (i : Int) = some (L, p, e) ∧ (e = 0 ∨ (L.l = [] ∧ p < ((s.length : Nat) : Int)))
 | 0, _, _, _, _, h => by omega
 | n + 1, i, A, hA, hi, hn => by
  rw [Z40_l15]
  by_cases hlt : i < s.length
  ·rw [show decide ((i : Int) < ((s.length : Nat) : Int)) = true from decide_eq_true (by omega), cond_true]
   obtain ⟨t, j, e, h1, h2, h3⟩ := one_eq (s := s) (by omega) hlt
   rw [h1, Option.bind_some]
   by_cases he : e = 0
   ·obtain ⟨m, rfl, h4, h5⟩ := h3 he
    rw [show decide (e = 0) = true from decide_eq_true he, Bool.not_true, cond_false, app_one (by omega), Option.bind_some, skip_eq (by omega) h5, Option.bind_some]
    have hk := skN_le false (s.drop m)
    simp only [List.length_drop] at hk
    exact scan_loop_err s hs n _ ⟨false, A.l ++ [t]⟩ (by simp; omega) (by omega) (by omega)
   ·rw [show decide (e = 0) = false from decide_eq_false he, Bool.not_false, cond_true]
    exact ⟨_, _, _, rfl, .inr ⟨rfl, by omega⟩⟩
  ·rw [show decide ((i : Int) < ((s.length : Nat) : Int)) = false from decide_eq_false (by omega), cond_false]
   unfold Z40_j8
   rw [app_one (by omega)]
   exact ⟨_, _, _, rfl, .inl rfl⟩
theorem scan_err {s : Bs} (h : s.length ≤ 65536) : ∃ (L : Sl Token_Token) (p e : Int), Z40 s = some (L, p, e) ∧ (e = 0 ∨ (L.l = [] ∧ p < 65536)) := by
 unfold Z40
 rw [show decide ((65536 : Int) < ((s.length : Nat) : Int)) = false from decide_eq_false (by omega), cond_false]
 have k1 := skip_eq (s := s) (i := 0) (by omega) (by omega)
 have hk := skN_le false (s.drop 0)
 rw [show (((0 : Nat) : Int)) = 0 from rfl] at k1
 rw [k1, Option.bind_some]
 simp only [List.length_drop] at hk
 obtain ⟨L, p, e, h1, h2⟩ := scan_loop_err s (by omega) F0 (0 + skN false (s.drop 0)) ⟨true, []⟩ (by simp) (by omega) (by rw [F0_eq]; omega)
 refine ⟨L, p, e, h1, ?_⟩
 rcases h2 with h2 | ⟨h2, h3⟩
 ·exact .inl h2
 ·exact .inr ⟨h2, by omega⟩
theorem example04s : Z4 = some true := by
 set_option maxRecDepth 1000000 in kernel_rfl
theorem sizes_end {b : Sl Int} : Z3_j13 b = some true := by
 unfold Z3_j13
 have hl : (bytesC b).length = b.l.length := by unfold bytesC; rw [List.length_map]
 rw [example04s]
 by_cases h : b.l.length ≤ 65536
 ·obtain ⟨L, p, e, h1, h2⟩ := scan_err (s := bytesC b) (by omega)
  rw [h1, Option.bind_some, show decide ((65536 : Int) < ((b.l.length : Nat) : Int)) = false from decide_eq_false (by omega), cond_false]
  have key : ((!decide (e = (4 : Int))) || ((decide (((L.l.length : Nat) : Int) = (0 : Int))) && (decide (p < (65536 : Int))))) = true := by
   rcases h2 with h2 | ⟨h2, h3⟩
   ·rw [h2]; rfl
   ·rw [h2, decide_eq_true h3]; simp
  rw [key]; rfl
 ·have h1 : Z40 (bytesC b) = some (Sl.nil, 65536, 4) := by
   unfold Z40
   rw [show decide ((65536 : Int) < (((bytesC b).length : Nat) : Int)) = true from decide_eq_true (by omega)]; rfl
  rw [h1, Option.bind_some, show decide ((65536 : Int) < ((b.l.length : Nat) : Int)) = true from decide_eq_true (by omega), cond_true]
  rfl
theorem sizes_loop (s : Bs) (N : Nat) (hs : s.length ≤ 100) (hN : N ≤ 65546) : ∀ (n i : Nat) (b : Sl Int), i ≤ N → N - i < n → b.l.length ≤ 100 * i → Z3_l27 s ((N : Nat) : Int) n b (i : Int) = some true
 | 0, _, _, _, h, _ => by omega
 | n + 1, i, b, hi, hn, hb => by
  rw [Z3_l27]
  by_cases hlt : i < N
  ·have one : addC (i : Int) 1 = some (((i + 1 : Nat)) : Int) := add_nat (k := 1) (by omega) (by omega)
   have hsl : (strSl s).l.length = s.length := strSl_len s
   rw [show decide ((i : Int) < ((N : Nat) : Int)) = true from decide_eq_true (by omega), cond_true, appC_ok (by decide) (by rw [hsl]; omega), Option.bind_some, one, Option.bind_some]
   refine sizes_loop s N hs hN n (i + 1) _ (by omega) (by omega) ?_
   simp only [List.length_append, hsl]; omega
  ·rw [show decide ((i : Int) < ((N : Nat) : Int)) = false from decide_eq_false (by omega), cond_false]
   exact sizes_end
theorem tokenSizes_true (s : Bs) (n : Int) : Z3 s n = some true := by
 unfold Z3
 rw [example04s]
 cases hb : ((((decide (((s.length : Nat) : Int) < (1 : Int))) || (decide ((100 : Int) < ((s.length : Nat) : Int)))) || (decide (n < (0 : Int)))) || (decide ((65546 : Int) < n)))
 ·simp only [Bool.or_eq_false_iff, decide_eq_false_iff_not] at hb
  obtain ⟨⟨⟨h1, h2⟩, h3⟩, h4⟩ := hb
  obtain ⟨N, rfl⟩ : ∃ N : Nat, n = (N : Int) := ⟨n.toNat, by omega⟩
  have hmul : s.length * N ≤ 100 * 65546 := Nat.mul_le_mul (by omega) (by omega)
  have hm : mulC ((s.length : Nat) : Int) ((N : Nat) : Int) = some ((s.length * N : Nat) : Int) := by
   unfold mulC
   rw [← Int.natCast_mul, if_pos (by omega)]
  rw [hm]
  simp only [guardO, Bool.not_false, if_true, Option.bind_some, Bool.false_or]
  cases hx : decide ((131072 : Int) < ((s.length * N : Nat) : Int))
  ·rw [cond_false]
   have hmk : (makeC 1 ((s.length * N : Nat) : Int) : Option (Sl Int)) = some ⟨false, []⟩ := by
    unfold makeC; rw [if_pos (by omega)]
   rw [hmk, Option.bind_some]
   exact sizes_loop s N (by omega) (by omega) F0 0 _ (by omega) (by rw [F0_eq]; omega) (by simp)
  ·rfl
 ·rfl
end Go.Proofs

namespace Go.Proofs.YtmjbloiidajknaaDoor
open Go Go.Ab Go.RowKit Go.ChangeShapes Go.WideShapes Go.ChangeAt
variable {lou : Lou}
theorem bulkAll {H : Type} (l : List (DataW H)) : Rows.uptoBulkAll l = (l.map Rows.uptoBulk).sum := by
 induction l with
 | nil => rfl
 | cons x r ih => simp only [Rows.uptoBulkAll, List.map_cons, List.sum_cons, ih]
theorem bulkB {H : Type} : Bulk (H := H) Rows.uptoBulk := by
 refine ⟨fun d => ?_, fun b => by simp [Rows.uptoBulk], fun e s => by simp only [Rows.uptoBulk, bulkAll]; omega, fun l => by simp only [Rows.uptoBulk, bulkAll]; omega⟩
 cases d with
 | lit l => cases l <;> simp [Rows.uptoBulk]
 | nil => simp [Rows.uptoBulk]
 | ptr d => simp [Rows.uptoBulk]
 | slice elems spare => simp [Rows.uptoBulk]
 | agg parts => simp [Rows.uptoBulk]
 | iface t d => simp [Rows.uptoBulk]
 | map entries => simp [Rows.uptoBulk]
 | held h => simp [Rows.uptoBulk]
theorem own : ownKnob Tryd.prog.godebug = none := by kernel_rfl
theorem laid : laidOutB Tryd.prog = true := by kernel_rfl
theorem bound {H : Type} {l : List (DataW H)} (hk : Rows.uptoSmall H l = true) : Rows.uptoBulkAll l ≤ 1048576 := of_decide_eq_true hk
theorem table {W : World} (h : laidMet Tryd.prog Rows.tokenSizesUptoRow.laid W) : ∃ tp p u fr, W.heap[2]? = some (.cells #[.iface tp p] u fr) :=
 err_of (P := Tryd.prog) (g := 2) (ti := 70) (by kernel_rfl) (by kernel_rfl) (by kernel_rfl) h (.tail _ (.tail _ (.tail _ (.head _))))
theorem isErr (tp : TypeId) (p : Value) (u : TypeId) (fr : Nat × Nat) : IsErr Tryd.prog (.fix 2 (.cells #[.iface tp p] u fr)) := .of (by kernel_rfl)
theorem tokenSizes_call [IsLoud lou] (a : Bs) (b : Int) (tp : TypeId) (p : Value) (u : TypeId) (fr : Nat × Nat) : ACalls Tryd.prog 4 [.d (.str a), .d (.int .i64 b)] (hTab 2 (.cells #[.iface tp p] u fr)) fun r h' => r = .a (.d (.bool true)) ∧ h' = hTab 2 (.cells #[.iface tp p] u fr) :=
 Z3_walk (tokenSizes_true a b) _ (gE := 0) rfl (isErr tp p u fr)
end Go.Proofs.YtmjbloiidajknaaDoor

