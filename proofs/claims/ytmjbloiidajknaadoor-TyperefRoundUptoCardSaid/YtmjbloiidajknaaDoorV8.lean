import Derived.Test.YtmjbloiidajknaaDoorV7
import Derived.Test.YtmjbloiidajknaaDoorRows
set_option maxRecDepth 100000
set_option maxHeartbeats 2000000
set_option linter.unusedVariables false
set_option linter.unusedSimpArgs false
namespace Go.Proofs
open Go Go.Ab
def sgV (n : Int) : Bool := (Z31 n).getD false
theorem sg_tab : (List.range 256).all (fun n => (Z31 (n : Int) == some (sgV (n : Int))) && ((Z50 ([33, 36, 38, 40, 41, 58, 61, 64, 91, 93, 123, 124, 125] : Bs) (n : Int) == some (sgV (n : Int))))) = true := by
 set_option maxRecDepth 100000 in kernel_rfl
theorem sg_at (c : UInt8) : Z31 ((c.toNat : Nat) : Int) = some (sgV ((c.toNat : Nat) : Int)) ∧ Z50 ([33, 36, 38, 40, 41, 58, 61, 64, 91, 93, 123, 124, 125] : Bs) ((c.toNat : Nat) : Int) = some (sgV ((c.toNat : Nat) : Int)) := by
 have h := List.all_eq_true.1 sg_tab c.toNat (List.mem_range.2 c.toNat_lt)
 simp only [Bool.and_eq_true, beq_iff_eq] at h
 exact h
theorem letter_eq' (c : UInt8) : Z64 ((c.toNat : Nat) : Int) = some (isW c) := rfl
end Go.Proofs

namespace Go.Proofs
open Go Go.Ab
theorem app_one {α : Type} {s : Sl α} {t : α} (h : s.l.length ≤ 1048576) : appC 32 s (⟨false, [t]⟩ : Sl α) = some ⟨false, s.l ++ [t]⟩ := by
 unfold appC
 rw [if_pos (by simp only [List.length_cons, List.length_nil]; unfold maxN; omega)]
 simp
end Go.Proofs

namespace Go.Proofs
open Go Go.Ab
end Go.Proofs

namespace Go.Proofs
open Go Go.Ab
theorem all_u8 {p : UInt8 → Prop} (h : ∀ i : Fin 256, p (UInt8.ofNat i.val)) (c : UInt8) : p c := by
 have := h ⟨c.toNat, c.toNat_lt⟩
 simpa using this
def hx (n : Nat) : UInt8 := if n < 10 then UInt8.ofNat (48 + n) else UInt8.ofNat (87 + n)
end Go.Proofs

namespace Go.Proofs
open Go Go.Ab
def Short (l : List R04_Token) : Prop := ∀ t ∈ l, t.FText.length ≤ 1048576
theorem Short.tail {t : R04_Token} {r : List R04_Token} (h : Short (t :: r)) : Short r := by
 intro x hx
 exact h x (List.mem_cons_of_mem _ hx)
theorem Short.head {t : R04_Token} {r : List R04_Token} (h : Short (t :: r)) : t.FText.length ≤ 1048576 := by
 exact h t List.mem_cons_self
end Go.Proofs

namespace Go.Proofs
open Go Go.Ab
def unqF (s : Bs) : Option Bs := match Z60 s with
 | some (r, e) => if e = 0 then some r else none
 | none => none
def tokF : Bs → Option (Int × Bs × Nat)
 | [] => none
 | c :: r =>
  if sgV ((c.toNat : Nat) : Int) = true then some (1, [c], 1)
  else if ((c.toNat : Nat) : Int) = 46 then (if (c :: r).take 3 = [46, 46, 46] then some (1, [46, 46, 46], 3) else none)
  else if isL c = true then (if 64 < wordN (c :: r) then none else some (2, (c :: r).take (wordN (c :: r)), wordN (c :: r)))
  else if isD c = true ∨ ((c.toNat : Nat) : Int) = 45 then (if numE ((c :: r).take (1 + wordN r)) = 0 then some (3, (c :: r).take (1 + wordN r), 1 + wordN r) else none)
  else if ((c.toNat : Nat) : Int) = 34 then (match litN false r with
   | none => none
   | some k => match unqF ((c :: r).take (1 + k)) with
    | none => none
    | some t => some (4, t, 1 + k))
  else none
theorem unqF_eq {s : Bs} (hs : s.length ≤ 1048576) : ∃ r e, Z60 s = some (r, e) ∧ Z16 s = some (r, e) ∧ r.length ≤ s.length ∧ unqF s = if e = 0 then some r else none := by
 obtain ⟨r, e, h1, h2, h3⟩ := unquote_eq hs
 refine ⟨r, e, h1, h2, h3, ?_⟩
 unfold unqF
 rw [h1]
def Rd1 (s : Bs) (i : Nat) : Prop := (∃ k t w, tokF (s.drop i) = some (k, t, w) ∧ Z66 s (i : Int) = some (⟨k, t, (i : Int)⟩, ((i + w : Nat) : Int), 0)) ∨ (tokF (s.drop i) = none ∧ ∃ t j e, Z66 s (i : Int) = some (t, j, e) ∧ e ≠ 0)
theorem read_spec {s : Bs} (hs : s.length ≤ 1048576) {i : Nat} (hi : i < s.length) : Rd1 s i := by
 obtain ⟨c, hc⟩ : ∃ c, s[i]? = some c := ⟨_, List.getElem?_eq_getElem hi⟩
 have hlt := c.toNat_lt
 have one : addC (i : Int) 1 = some (((i + 1 : Nat)) : Int) := add_nat (k := 1) (by omega) (by omega)
 have three : addC (i : Int) 3 = some (((i + 3 : Nat)) : Int) := add_nat (k := 3) (by omega) (by omega)
 have hd := drop_cons hc
 unfold Rd1
 rw [hd]
 unfold Z66 tokF
 rw [idxC_nat, hc]
 simp only [Option.bind_some, wrap32]
 rw [(sg_at c).2, Option.bind_some]
 cases hsg : sgV ((c.toNat : Nat) : Int)
 ·rw [cond_false, if_neg (by decide)]
  by_cases h46 : ((c.toNat : Nat) : Int) = 46
  ·have hcut : cutC s (some (i : Int)) none = some (s.drop i) := cut_from (by omega)
   rw [decide_eq_true h46, cond_true, hcut, Option.bind_some, Z51_eq, Option.bind_some, three, if_pos h46]
   have hp : Z51_q (s.drop i) ([46, 46, 46] : Bs) = (decide (i + 3 ≤ s.length) && (List.take 3 (s.drop i) == ([46, 46, 46] : Bs))) := by
    unfold Z51_q Z0_q
    simp only [Ab.on]
    rw [show decide (((([46, 46, 46] : Bs).length : Nat) : Int) ≤ (((s.drop i).length : Nat) : Int)) = decide (i + 3 ≤ s.length) from decide_eq_decide.2 (by simp only [List.length_cons, List.length_nil, List.length_drop]; omega)]
    cases decide (i + 3 ≤ s.length) <;> rfl
   rw [hp, hd]
   by_cases ht : List.take 3 (c :: s.drop (i + 1)) = [46, 46, 46]
   ·have h3 : i + 3 ≤ s.length := by
     have := congrArg List.length ht
     simp only [List.length_take, List.length_cons, List.length_drop, List.length_nil] at this
     omega
    left
    refine ⟨1, [46, 46, 46], 3, by rw [if_pos ht], ?_⟩
    rw [ht, decide_eq_true h3]; rfl
   ·right
    refine ⟨by rw [if_neg ht], ⟨0, [], 0⟩, 0, 3, ?_, show (3 : Int) ≠ 0 by decide⟩
    rw [show (List.take 3 (c :: s.drop (i + 1)) == ([46, 46, 46] : Bs)) = false by simpa using ht, Bool.and_false]; rfl
  ·rw [decide_eq_false h46, cond_false, if_neg h46, letter_eq' c, isW_eq]
   have hlet : isL c = true → ¬ ((c.toNat : Nat) : Int) = 45 ∧ isD c = false := by
    intro h
    unfold isL at h; unfold isD
    simp only [Bool.or_eq_true, Bool.and_eq_true, decide_eq_true_eq] at h
    refine ⟨by omega, ?_⟩
    rw [Bool.and_eq_false_iff, decide_eq_false_iff_not, decide_eq_false_iff_not]
    omega
   rw [show ((decide ((48 : Int) ≤ ((c.toNat : Nat) : Int))) && (decide (((c.toNat : Nat) : Int) ≤ (57 : Int)))) = isD c from rfl]
   cases hL : isL c
   ·rw [if_neg (by decide)]
    by_cases hN : isD c = true ∨ ((c.toNat : Nat) : Int) = 45
    ·rw [if_pos hN, show (decide (((c.toNat : Nat) : Int) = 45) || isD c) = true by simp only [Bool.or_eq_true, decide_eq_true_eq]; exact hN.symm]
     rw [cond_true, one, Option.bind_some, span_eq hs (by omega), Option.bind_some]
     have hw := wordN_le (s.drop (i + 1))
     simp only [List.length_drop] at hw
     rw [cut_part (by omega) (by omega), Option.bind_some, hd, show i + 1 + wordN (s.drop (i + 1)) - i = 1 + wordN (s.drop (i + 1)) by omega]
     obtain ⟨v, h1⟩ := tnum_eq (s := (c :: s.drop (i + 1)).take (1 + wordN (s.drop (i + 1)))) (by simp; omega)
     rw [h1, Option.bind_some, Option.bind_some]
     by_cases h0 : numE ((c :: s.drop (i + 1)).take (1 + wordN (s.drop (i + 1)))) = 0
     ·left
      refine ⟨3, _, _, by rw [if_pos h0], ?_⟩
      rw [h0, Nat.add_assoc]
     ·right
      exact ⟨by rw [if_neg h0], _, _, _, rfl, h0⟩
    ·rw [if_neg hN, show (decide (((c.toNat : Nat) : Int) = 45) || isD c) = false by rw [Bool.eq_false_iff]; intro h; simp only [Bool.or_eq_true, decide_eq_true_eq] at h; exact hN h.symm]
     have hD : isD c = false := by cases h : isD c; rfl; exact absurd (.inl h) hN
     rw [cond_false, hD, Bool.or_self, Option.bind_some, cond_false]
     by_cases h34 : ((c.toNat : Nat) : Int) = 34
     ·rw [if_pos h34, decide_eq_true h34, cond_true, literal_eq hs hi, Option.bind_some]
      unfold litR
      cases hl : litN false (s.drop (i + 1)) with
      | none => exact .inr ⟨rfl, ⟨0, [], 0⟩, 0, 3, rfl, by decide⟩
      | some k =>
       have hk := litN_le _ _ _ hl
       simp only [List.length_drop] at hk
       simp only
       rw [decide_eq_false (show ¬ (((i + 1 + k : Nat) : Int) < 0) by omega), cond_false, cut_part (by omega) (by omega), Option.bind_some, hd, show i + 1 + k - i = 1 + k by omega]
       obtain ⟨r, e, u1, -, -, u2⟩ := unqF_eq (s := (c :: s.drop (i + 1)).take (1 + k)) (by simp; omega)
       rw [u1, u2, Option.bind_some]
       by_cases he : e = 0
       ·subst he
        left
        refine ⟨4, r, 1 + k, by rw [if_pos rfl], ?_⟩
        rw [Nat.add_assoc]
       ·right
        exact ⟨by rw [if_neg he], _, _, _, rfl, he⟩
     ·rw [if_neg h34, decide_eq_false h34, cond_false]
      exact .inr ⟨rfl, ⟨0, [], 0⟩, 0, 3, rfl, by decide⟩
   ·obtain ⟨h45, hD⟩ := hlet hL
    have hw := wordN_le (s.drop i)
    simp only [List.length_drop] at hw
    rw [decide_eq_false h45, hD, Bool.or_self, cond_false, Bool.or_false, Option.bind_some, cond_true, span_eq hs (by omega), Option.bind_some, subC_ok (by omega), Option.bind_some, if_pos rfl, hd] at *
    by_cases h64 : 64 < wordN (c :: s.drop (i + 1))
    ·rw [if_pos h64, decide_eq_true (show (64 : Int) < ((i + wordN (c :: s.drop (i + 1)) : Nat) : Int) - (i : Int) by omega)]
     exact .inr ⟨rfl, ⟨0, [], 0⟩, 0, 3, rfl, by decide⟩
    ·rw [if_neg h64, decide_eq_false (show ¬ (64 : Int) < ((i + wordN (c :: s.drop (i + 1)) : Nat) : Int) - (i : Int) by omega), cond_false, cut_part (by omega) (by omega), Option.bind_some, hd, show i + wordN (c :: s.drop (i + 1)) - i = wordN (c :: s.drop (i + 1)) by omega]
     exact .inl ⟨_, _, _, rfl, by rw [drop_cons hc]⟩
 ·rw [cond_true, if_pos rfl, one, Option.bind_some, cut_part (by omega) (by omega), Option.bind_some, hd, show i + 1 - i = 1 by omega]
  exact .inl ⟨_, _, _, rfl, rfl⟩
end Go.Proofs

namespace Go.Proofs
open Go Go.Ab
theorem litN_le' {r : Bs} {k : Nat} (h : litN false r = some k) : k ≤ r.length := (litN_le _ _ _ h).2
theorem tokF_ok {r : Bs} (hr : r.length ≤ 1048576) {k : Int} {t : Bs} {w : Nat} (h : tokF r = some (k, t, w)) : 1 ≤ w ∧ w ≤ r.length ∧ 1 ≤ k ∧ k ≤ 4 ∧ (k ≠ 4 → t = r.take w) ∧ (k = 4 → r.head? = some 34) ∧ t.length ≤ w := by
 cases r with
 | nil => cases h
 | cons c q =>
  rw [tokF] at h
  simp only [List.length_cons] at hr ⊢
  split at h
  ·cases h; exact ⟨by omega, by omega, by omega, by omega, fun _ => rfl, fun h => absurd h (by decide), by simp⟩
  split at h
  ·split at h
   ·rename_i h3
    cases h
    have := congrArg List.length h3
    simp only [List.length_take, List.length_cons, List.length_nil] at this
    exact ⟨by omega, by omega, by omega, by omega, fun _ => h3.symm, fun h => absurd h (by decide), by simp⟩
   ·cases h
  split at h
  ·rename_i hL
   split at h
   ·cases h
   ·cases h
    have h1 := wordN_le (c :: q)
    simp only [List.length_cons] at h1
    have h2 : 1 ≤ wordN (c :: q) := by rw [wordN_cons, isW_eq, hL]; simp only [Bool.true_or, cond_true]; omega
    exact ⟨h2, h1, by omega, by omega, fun _ => rfl, fun h => absurd h (by decide), by simp; omega⟩
  split at h
  ·split at h
   ·cases h
    have h1 := wordN_le q
    exact ⟨by omega, by omega, by omega, by omega, fun _ => rfl, fun h => absurd h (by decide), by simp; omega⟩
   ·cases h
  split at h
  ·rename_i h34
   split at h
   ·cases h
   ·rename_i m hm
    have hk := litN_le' hm
    split at h
    ·cases h
    ·rename_i x hx
     cases h
     obtain ⟨r, e, -, -, h3, h4⟩ := unqF_eq (s := (c :: q).take (1 + m)) (by simp; omega)
     rw [hx] at h4
     split at h4
     ·cases h4
      refine ⟨by omega, by omega, by omega, by omega, fun h => absurd rfl h, fun _ => ?_, ?_⟩
      ·have : c = 34 := by rw [← UInt8.toNat_inj]; show c.toNat = 34; omega
       rw [this]; rfl
      ·simp only [List.length_take, List.length_cons] at h3; omega
     ·cases h4
  ·cases h
def scT : Nat → Bs → Option (List (Int × Bs × Nat))
 | 0, _ => none
 | n + 1, r => if r = [] then some [(5, [], 0)] else match tokF r with
  | none => none
  | some (k, t, w) => (scT n ((r.drop w).drop (skN false (r.drop w)))).map ((k, t, r.length) :: ·)
def scF (s : Bs) : Option (List (Int × Bs × Nat)) := scT F0 (s.drop (skN false s))
def tkO (n : Nat) (x : Int × Bs × Nat) : Token_Token := ⟨x.1, x.2.1, ((n - x.2.2 : Nat) : Int)⟩
theorem scan_spec_loop (s : Bs) (hs : s.length ≤ 1048575) : ∀ (n i : Nat) (A : Sl Token_Token), A.l.length ≤ i → i ≤ s.length → s.length - i < n →
  (∃ L, scT n (s.drop i) = some L ∧ Z63_l15 s n A (i : Int) = some (⟨false, A.l ++ L.map (tkO s.length)⟩, 0, 0) ∧ L.length ≤ s.length - i + 1) ∨ (scT n (s.drop i) = none ∧ ∃ p e, Z63_l15 s n A (i : Int) = some (Sl.nil, p, e) ∧ e ≠ 0)
 | 0, _, _, _, _, h => by omega
 | n + 1, i, A, hA, hi, hn => by
  rw [Z63_l15, scT]
  by_cases hlt : i < s.length
  ·have hne : s.drop i ≠ [] := by
    intro h
    have := congrArg List.length h
    simp only [List.length_drop, List.length_nil] at this; omega
   rw [show decide ((i : Int) < ((s.length : Nat) : Int)) = true from decide_eq_true (by omega), cond_true, if_neg hne]
   rcases read_spec (s := s) (by omega) hlt with ⟨k, t, w, h1, h2⟩ | ⟨h1, t, j, e, h2, h3⟩
   ·obtain ⟨o1, o2, -⟩ := tokF_ok (by simp; omega) h1
    simp only [List.length_drop] at o2
    rw [h1, h2, Option.bind_some]
    have hk := skN_le false (s.drop (i + w))
    simp only [List.length_drop] at hk
    rw [show (!decide (((0 : Int)) = 0)) = false from rfl, cond_false, app_one (by omega), Option.bind_some, skip_eq (by omega) (by omega), Option.bind_some]
    have hdd : (s.drop i).drop w = s.drop (i + w) := List.drop_drop
    simp only [hdd]
    rw [show (s.drop (i + w)).drop (skN false (s.drop (i + w))) = s.drop (i + w + skN false (s.drop (i + w))) from List.drop_drop]
    rcases scan_spec_loop s hs n (i + w + skN false (s.drop (i + w))) ⟨false, A.l ++ [⟨k, t, (i : Int)⟩]⟩ (by simp; omega) (by omega) (by omega) with ⟨L, g1, g2, g3⟩ | ⟨g1, p, e, g2, g3⟩
    ·left
     refine ⟨(k, t, (s.drop i).length) :: L, by rw [g1]; rfl, ?_, by simp only [List.length_cons]; omega⟩
     rw [g2]
     have : tkO s.length (k, t, (s.drop i).length) = ⟨k, t, (i : Int)⟩ := by
      unfold tkO
      simp only [List.length_drop]
      rw [show s.length - (s.length - i) = i by omega]
     rw [List.map_cons, this]
     simp
    ·right
     exact ⟨by rw [g1]; rfl, p, e, g2, g3⟩
   ·rw [h1, h2, Option.bind_some, show (!decide (e = 0)) = true by simpa using h3, cond_true]
    exact .inr ⟨rfl, _, _, rfl, h3⟩
  ·rw [show decide ((i : Int) < ((s.length : Nat) : Int)) = false from decide_eq_false (by omega), cond_false, if_pos (List.drop_eq_nil_of_le (by omega))]
   unfold Z63_j8
   rw [app_one (by omega)]
   exact .inl ⟨_, rfl, rfl, by simp⟩
theorem scan_spec {s : Bs} (hs : s.length ≤ 65536) : (∃ L, scF s = some L ∧ Z63 s = some (⟨false, L.map (tkO s.length)⟩, 0, 0) ∧ L.length ≤ s.length + 1) ∨ (scF s = none ∧ ∃ p e, Z63 s = some (Sl.nil, p, e) ∧ e ≠ 0) := by
 unfold Z63 scF
 rw [show decide ((65536 : Int) < ((s.length : Nat) : Int)) = false from decide_eq_false (by omega), cond_false]
 have k1 := skip_eq (s := s) (i := 0) (by omega) (by omega)
 have hk := skN_le false s
 rw [show (((0 : Nat) : Int)) = 0 from rfl, List.drop_zero, Nat.zero_add] at k1
 rw [k1, Option.bind_some]
 rcases scan_spec_loop s (by omega) F0 (skN false s) ⟨true, []⟩ (by simp) (by omega) (by rw [F0_eq]; omega) with ⟨L, h1, h2, h3⟩ | h
 ·exact .inl ⟨L, h1, by rw [show (Sl.nil : Sl Token_Token) = ⟨true, []⟩ from rfl, h2]; rfl, by omega⟩
 ·exact .inr h
end Go.Proofs

namespace Go.Proofs
open Go Go.Ab
end Go.Proofs

namespace Go.Proofs
open Go Go.Ab
def NW (X : Bs) : Prop := ∀ c, X.head? = some c → isW c = false
theorem wordN_nw {X : Bs} (h : NW X) : wordN X = 0 := by
 cases X with
 | nil => rfl
 | cons c r => rw [wordN_cons, h c rfl]; rfl
def ktF (x : Int × Bs × Nat) : Int × Bs := (x.1, x.2.1)
def scG (n : Nat) (r : Bs) : Option (List (Int × Bs × Nat)) := scT n (r.drop (skN false r))
theorem cat_small {a b : Bs} (h : a.length + b.length ≤ 1048576) : catC a b = some (a ++ b) := by
 unfold catC; rw [if_pos (by unfold maxS; omega)]
end Go.Proofs

namespace Go.Proofs
open Go Go.Ab
theorem start_sp (c : UInt8) : (sgV ((c.toNat : Nat) : Int) || decide (((c.toNat : Nat) : Int) = 46) || isL c || isD c || decide (((c.toNat : Nat) : Int) = 45) || decide (((c.toNat : Nat) : Int) = 34)) = true → (!isSp c && !decide (((c.toNat : Nat) : Int) = 35)) = true := by
 revert c
 apply all_u8
 set_option maxRecDepth 100000 in decide +kernel
theorem tokF_sk {r : Bs} {x : Int × Bs × Nat} (h : tokF r = some x) : skN false r = 0 := by
 cases r with
 | nil => cases h
 | cons c q =>
  have key : (sgV ((c.toNat : Nat) : Int) || decide (((c.toNat : Nat) : Int) = 46) || isL c || isD c || decide (((c.toNat : Nat) : Int) = 45) || decide (((c.toNat : Nat) : Int) = 34)) = true := by
   rw [tokF] at h
   simp only [Bool.or_eq_true, decide_eq_true_eq]
   split at h
   ·rename_i h1; exact .inl (.inl (.inl (.inl (.inl h1))))
   split at h
   ·rename_i h1; exact .inl (.inl (.inl (.inl (.inr h1))))
   split at h
   ·rename_i h1; exact .inl (.inl (.inl (.inr h1)))
   split at h
   ·rename_i h1
    rcases h1 with h1 | h1
    ·exact .inl (.inl (.inr h1))
    ·exact .inl (.inr h1)
   split at h
   ·rename_i h1; exact .inr h1
   ·cases h
  have h2 := start_sp c key
  simp only [Bool.and_eq_true, Bool.not_eq_true'] at h2
  rw [skN, h2.1, cond_false, h2.2]; rfl
end Go.Proofs

namespace Go.Proofs
open Go Go.Ab
def nnW (w : List Int) : Bool := w.head? == some 1
def rt : List Int → Bool
 | [] => true
 | x :: r => (decide (x = 1) || decide (x = 2)) && !(decide (x = 1) && nnW r) && rt r
theorem nnW_cons (x : Int) (r : List Int) : nnW (x :: r) = decide (x = 1) := by
 unfold nnW; by_cases h : x = 1 <;> simp [h]
theorem rt_cons {x : Int} {r : List Int} (h : rt (x :: r) = true) : (x = 1 ∨ x = 2) ∧ ¬ (x = 1 ∧ nnW r = true) ∧ rt r = true := by
 rw [rt] at h
 simp only [Bool.and_eq_true, Bool.or_eq_true, decide_eq_true_eq, Bool.not_eq_true', Bool.and_eq_false_iff, decide_eq_false_iff_not] at h
 refine ⟨h.1.1, fun h2 => ?_, h.2⟩
 rcases h.1.2 with h3 | h3
 ·exact h3 h2.1
 ·rw [h2.2] at h3; cases h3
theorem rt_mk {x : Int} {r : List Int} (h1 : x = 1 ∨ x = 2) (h2 : ¬ (x = 1 ∧ nnW r = true)) (h3 : rt r = true) : rt (x :: r) = true := by
 rw [rt, h3]
 simp only [Bool.and_true, Bool.and_eq_true, Bool.or_eq_true, decide_eq_true_eq, Bool.not_eq_true', Bool.and_eq_false_iff, decide_eq_false_iff_not]
 refine ⟨h1, ?_⟩
 by_cases h : x = 1
 ·right; cases hn : nnW r
  ·rfl
  ·exact absurd ⟨h, hn⟩ h2
 ·exact .inl h
theorem rt_rev : ∀ (l acc : List Int), rt l = true → rt acc = true → ¬ (nnW l = true ∧ nnW acc = true) → rt (l.reverse ++ acc) = true
 | [], acc, _, h, _ => h
 | x :: r, acc, h1, h2, h3 => by
  obtain ⟨a, b, c⟩ := rt_cons h1
  rw [nnW_cons] at h3
  rw [List.reverse_cons, List.append_assoc, List.singleton_append]
  refine rt_rev r (x :: acc) c (rt_mk a (fun h => h3 ⟨decide_eq_true h.1, h.2⟩) h2) ?_
  rw [nnW_cons]
  rintro ⟨h4, h5⟩
  exact b ⟨of_decide_eq_true h5, h4⟩
theorem right4Aux (a : TRef) (ha : a.FWraps.l.length ≤ 1048576) : ∀ (l : List Int) (i : Nat), i + l.length = a.FWraps.l.length → a.FWraps.l.drop i = l →
  Z37_q10 a l i = some (if rt l = true ∧ ¬ (0 < i ∧ nnW l = true ∧ a.FWraps.l[i - 1]? = some 1) then Sum.inl () else Sum.inr false)
 | [], i, _, _ => by rw [Z37_q10, if_pos]; exact ⟨rfl, fun h => by simp [nnW] at h⟩
 | x :: r, i, hi, hd => by
  simp only [List.length_cons] at hi
  have hdr : a.FWraps.l.drop (i + 1) = r := by rw [← List.drop_drop, hd]; rfl
  have hxi : a.FWraps.l[i]? = some x := by
   have h0 : (a.FWraps.l.drop i)[0]? = some x := by rw [hd]; rfl
   simpa using h0
  have ih := right4Aux a ha r (i + 1) (by omega) hdr
  rw [Z37_q10]
  simp only [Ab.on, ih, rt, Nat.add_sub_cancel, hxi, Nat.zero_lt_succ, true_and]
  by_cases h0 : 0 < i
  ·rw [show decide ((0 : Int) < (i : Int)) = true from decide_eq_true (by omega)]
   have hlt : i - 1 < a.FWraps.l.length := by omega
   have hidx : idxC a.FWraps.l ((i : Int) - 1) = some a.FWraps.l[i - 1] := by
    unfold idxC
    rw [if_pos (by omega), show ((i : Int) - 1).toNat = i - 1 by omega, List.getElem?_eq_getElem hlt]
   have hsub : subC (i : Int) 1 = some ((i : Int) - 1) := subC_ok (by omega)
   rw [List.getElem?_eq_getElem hlt]
   by_cases h1 : x = 1
   ·subst h1
    by_cases hp : a.FWraps.l[i - 1] = 1
    ·simp [guardO, hsub, hidx, hp, h0, nnW]
    ·simp [guardO, hsub, hidx, hp, h0, nnW, and_comm]
   ·by_cases h2 : x = 2
    ·subst h2; simp [guardO, nnW]
    ·simp [h1, h2, guardO]
  ·rw [show decide ((0 : Int) < (i : Int)) = false from decide_eq_false (by omega)]
   by_cases h1 : x = 1
   ·subst h1; simp [guardO, h0, nnW, and_comm]
   ·by_cases h2 : x = 2
    ·subst h2; simp [guardO, nnW]
    ·simp [h1, h2, guardO]
theorem right4 {a : TRef} (ha : a.FWraps.l.length ≤ 1048576) : ∃ b, Z37 a = some b ∧ (b = true → Z13_q a.FName = true ∧ a.FWraps.l.length ≤ 24 ∧ rt a.FWraps.l = true) := by
 rw [Z37_eq]
 unfold Z37_q
 rw [right4Aux a ha a.FWraps.l 0 (by omega) rfl]
 simp only [Ab.on]
 cases hc : (!Z13_q a.FName || decide ((24 : Int) < ((a.FWraps.l.length : Nat) : Int)))
 ·simp only [Bool.or_eq_false_iff, Bool.not_eq_false', decide_eq_false_iff_not] at hc
  simp only [cond_false, Option.bind_some]
  split
  ·rename_i h
   split at h
   ·rename_i h2; exact ⟨true, rfl, fun _ => ⟨hc.1, by omega, h2.1⟩⟩
   ·cases h
  ·rename_i e h
   split at h
   ·cases h
   ·cases h; exact ⟨false, rfl, fun h => by cases h⟩
 ·exact ⟨false, rfl, fun h => by cases h⟩
theorem name_rest : ∀ (l : Bs) (i : Nat), 0 < i → Z13_q10 l i = Sum.inl () → l.all isW = true
 | [], _, _, _ => rfl
 | c :: r, i, hi, h => by
  have h0 : decide (((i : Nat) : Int) = 0) = false := decide_eq_false (by omega)
  rw [Z13_q10] at h
  simp only [Ab.on, h0] at h
  rw [show Z21_q ((c.toNat : Nat) : Int) = isL c from rfl] at h
  rw [List.all_cons, isW_eq]
  cases hl : isL c
  ·rw [hl] at h
   simp only [Bool.not_false, Bool.and_self, cond_true, Bool.true_and, Bool.false_or] at h
   rw [show Z18_q ((c.toNat : Nat) : Int) = isD c from rfl] at h
   cases hd : isD c
   ·rw [hd] at h; cases h
   ·rw [hd] at h; exact name_rest r (i + 1) (by omega) h
  ·rw [hl] at h
   exact name_rest r (i + 1) (by omega) h
theorem name4 {s : Bs} (h : Z13_q s = true) : ∃ c r, s = c :: r ∧ isL c = true ∧ s.all isW = true ∧ s.length ≤ 64 := by
 unfold Z13_q at h
 cases s with
 | nil => cases h
 | cons c r =>
  rw [show decide ((((c :: r : Bs).length : Nat) : Int) < 1) = false from decide_eq_false (by simp only [List.length_cons]; omega), Bool.false_or] at h
  cases h64 : decide ((64 : Int) < (((c :: r : Bs).length : Nat) : Int))
  ·rw [h64, cond_false] at h
   have h64 := of_decide_eq_false h64
   rw [Z13_q10] at h
   simp only [Ab.on] at h
   rw [show Z21_q ((c.toNat : Nat) : Int) = isL c from rfl] at h
   rw [show decide (((0 : Nat) : Int) = 0) = true from rfl] at h
   cases hl : isL c
   ·rw [hl] at h; cases h
   ·rw [hl] at h
    simp only [Bool.not_true, Bool.false_and, cond_false] at h
    cases hq : Z13_q10 r (0 + 1) with
    | inl u =>
     refine ⟨c, r, rfl, hl, ?_, by omega⟩
     rw [List.all_cons, isW_eq, hl, name_rest r 1 (by omega) hq]; rfl
    | inr e =>
     rw [hq] at h
     exfalso
     have : ∀ (l : Bs) (i : Nat) (e : Bool), Z13_q10 l i = Sum.inr e → e = false := by
      intro l
      induction l with
      | nil => intro i e h; cases h
      | cons a b ih =>
       intro i e h
       rw [Z13_q10] at h
       simp only [Ab.on] at h
       revert h
       generalize (bif !Z21_q ((a.toNat : Nat) : Int) && !decide (((i : Nat) : Int) = 0) then Z18_q _ else false) = q
       cases (!Z21_q ((a.toNat : Nat) : Int) && (decide (((i : Nat) : Int) = 0) || !q))
       ·exact ih (i + 1) e
       ·intro h; cases h; rfl
     rw [this r _ e hq] at h
     cases h
  ·rw [h64] at h; cases h
def cls : List Int → Bs
 | [] => []
 | w :: r => cls r ++ [if w = 1 then 33 else 93]
def cnt : List Int → Nat
 | [] => 0
 | w :: r => (if w = 1 then 0 else 1) + cnt r
theorem cnt_le : ∀ l, cnt l ≤ l.length
 | [] => Nat.le_refl _
 | w :: r => by have := cnt_le r; rw [cnt, List.length_cons]; split <;> omega
theorem cls_len : ∀ l, (cls l).length = l.length
 | [] => rfl
 | w :: r => by rw [cls, List.length_append, cls_len r]; rfl
def prt (N : Bs) (W : List Int) : Bs := List.replicate (cnt W) 91 ++ (N ++ cls W)
theorem part_tail {α : Type} {s : Sl α} (h : 1 ≤ s.l.length) : partC s (some (1 : Int)) none = some ⟨s.nl, s.l.drop 1⟩ := by
 unfold partC
 rw [if_pos (by simp; omega)]
 simp
theorem cut_eq {N : Bs} {w : Int} {r : List Int} {nl : Bool} (h : r.length ≤ 1048576) : Z39 ⟨N, ⟨nl, w :: r⟩⟩ = some ⟨N, ⟨false, r⟩⟩ := by
 unfold Z39
 rw [part_tail (by simp), Option.bind_some, appC_ok (by decide) (by simp; omega)]
 simp
theorem rprint4 (N : Bs) (hN : N.length ≤ 64) : ∀ (n : Nat) (W : List Int) (nl : Bool), W.length < n → W.length ≤ 24 → Z36_n n ⟨N, ⟨nl, W⟩⟩ = some (prt N W)
 | 0, _, _, h, _ => by omega
 | n + 1, [], nl, _, _ => by
  rw [Z36_n]
  show some N = _
  simp [prt, cnt, cls]
 | n + 1, w :: r, nl, h, h2 => by
  simp only [List.length_cons] at h h2
  have ih := rprint4 N hN n r false (by omega) (by omega)
  have hl : (prt N r).length ≤ 112 := by
   have := cnt_le r
   unfold prt; simp only [List.length_append, List.length_replicate, cls_len]; omega
  have hnn : Z35 ⟨N, ⟨nl, w :: r⟩⟩ = some (decide (w = 1)) := by
   unfold Z35
   rw [show decide ((0 : Int) < (((w :: r : List Int).length : Nat) : Int)) = true from decide_eq_true (by simp only [List.length_cons]; omega)]
   simp [guardO]
  rw [Z36_n, hnn, Option.bind_some]
  by_cases hw : w = 1
  ·rw [decide_eq_true hw, cond_true, cut_eq (by omega), Option.bind_some, ih, Option.bind_some, cat_small (by simp; omega)]
   simp [prt, cnt, cls, hw]
  ·rw [decide_eq_false hw, cond_false]
   rw [show decide ((0 : Int) < (((w :: r : List Int).length : Nat) : Int)) = true from decide_eq_true (by simp only [List.length_cons]; omega), cond_true, cut_eq (by omega), Option.bind_some, ih, Option.bind_some, cat_small (by simp; omega), Option.bind_some, cat_small (by simp; omega)]
   simp only [prt, cnt, cls, hw, if_false, Option.bind_some]
   rw [Nat.add_comm 1, List.replicate_succ]
   simp
theorem rprint4_eq {a : TRef} (hN : a.FName.length ≤ 64) (hW : a.FWraps.l.length ≤ 24) : Z36 a = some (prt a.FName a.FWraps.l) := by
 unfold Z36
 exact rprint4 a.FName hN F0 a.FWraps.l a.FWraps.nl (by rw [F0_eq]; omega) hW
theorem tprint4 (a : TRef) (hN : a.FName.length ≤ 64) (hW : a.FWraps.l.length ≤ 24) : ∀ (n k : Nat) (B C : Strings_Builder), k < n → k ≤ a.FWraps.l.length → Rp B (List.replicate (cnt (a.FWraps.l.drop k)) 91) → Rp C (cls (a.FWraps.l.drop k)) → Z78_l18 a n ((k : Int) - 1) B C = some (prt a.FName a.FWraps.l)
 | 0, _, _, _, h, _, _, _ => by omega
 | n + 1, 0, B, C, _, _, hB, hC => by
  have c1 := cnt_le a.FWraps.l
  have c2 := cls_len a.FWraps.l
  rw [Z78_l18, show decide ((0 : Int) ≤ ((0 : Nat) : Int) - 1) = false from rfl, cond_false]
  unfold Z78_j7
  rw [List.drop_zero] at hB hC
  rw [hB.str, Option.bind_some, cat_small (by simp; omega), Option.bind_some, hC.str, Option.bind_some, cat_small (by simp; omega)]
  simp [prt]
 | n + 1, k + 1, B, C, h, hk, hB, hC => by
  have c1 := cnt_le (a.FWraps.l.drop (k + 1))
  have c2 := cls_len (a.FWraps.l.drop (k + 1))
  simp only [List.length_drop] at c1 c2
  obtain ⟨w, hw⟩ : ∃ w, a.FWraps.l[k]? = some w := ⟨_, List.getElem?_eq_getElem (show k < a.FWraps.l.length by omega)⟩
  have hd : a.FWraps.l.drop k = w :: a.FWraps.l.drop (k + 1) := by
   obtain ⟨hi, rfl⟩ := List.getElem?_eq_some_iff.1 hw
   exact List.drop_eq_getElem_cons hi
  have hj : ∀ B C, Z78_j25 (k : Int) (Z78_l18 a n) B C = Z78_l18 a n ((k : Int) - 1) B C := by
   intro B C
   unfold Z78_j25
   rw [subC_ok (by omega), Option.bind_some]
  rw [Z78_l18, show ((k + 1 : Nat) : Int) - 1 = (k : Int) by omega, show decide ((0 : Int) ≤ (k : Int)) = true from decide_eq_true (by omega), cond_true, idxC_nat, hw, Option.bind_some]
  obtain ⟨C1, u1, u2⟩ := hC.wb (n := 33) (by omega) (by omega) (by omega)
  obtain ⟨C2, v1, v2⟩ := hC.wb (n := 93) (by omega) (by omega) (by omega)
  obtain ⟨B1, x1, x2⟩ := hB.wb (n := 91) (by omega) (by omega) (by simp; omega)
  by_cases h1 : w = 1
  ·rw [decide_eq_true h1, cond_true, u1, Option.bind_some, hj]
   refine tprint4 a hN hW n k B C1 (by omega) (by omega) ?_ ?_
   ·rw [hd, cnt, if_pos h1, Nat.zero_add]; exact hB
   ·rw [hd, cls, if_pos h1]; exact u2
  ·rw [decide_eq_false h1, cond_false, x1, Option.bind_some, v1, Option.bind_some, hj]
   refine tprint4 a hN hW n k B1 C2 (by omega) (by omega) ?_ ?_
   ·rw [hd, cnt, if_neg h1, Nat.add_comm, List.replicate_succ']; exact x2
   ·rw [hd, cls, if_neg h1]; exact v2
theorem tprint4_eq {a : TRef} (hN : a.FName.length ≤ 64) (hW : a.FWraps.l.length ≤ 24) : Z78 a = some (prt a.FName a.FWraps.l) := by
 unfold Z78
 rw [subC_ok (by omega), Option.bind_some]
 refine tprint4 a hN hW F0 a.FWraps.l.length _ _ (by rw [F0_eq]; omega) (by omega) ?_ ?_
 ·rw [List.drop_of_length_le (by omega)]; exact .inl ⟨rfl, rfl⟩
 ·rw [List.drop_of_length_le (by omega)]; exact .inl ⟨rfl, rfl⟩
theorem sg_tok {c : UInt8} (h : sgV ((c.toNat : Nat) : Int) = true) (Y : Bs) : tokF (c :: Y) = some (1, [c], 1) := by rw [tokF, if_pos h]
theorem scG_cons {r : Bs} {k : Int} {t : Bs} {w : Nat} (h : tokF r = some (k, t, w)) {n : Nat} {L : List (Int × Bs × Nat)} (hL : scG n (r.drop w) = some L) : scG (n + 1) r = some ((k, t, r.length) :: L) := by
 unfold scG at hL ⊢
 have hne : r ≠ [] := by intro h0; rw [h0] at h; cases h
 rw [tokF_sk h, List.drop_zero, scT, if_neg hne, h]
 simp only
 rw [hL]; rfl
theorem sg_run {n : Nat} {Y : Bs} {L : List (Int × Bs × Nat)} (hL : scG n Y = some L) : ∀ l : Bs, (∀ c ∈ l, sgV ((c.toNat : Nat) : Int) = true) → ∃ L', scG (n + l.length) (l ++ Y) = some L' ∧ L'.map ktF = l.map (fun c => ((1 : Int), [c])) ++ L.map ktF
 | [], _ => ⟨L, hL, rfl⟩
 | c :: l, h => by
  obtain ⟨L', h1, h2⟩ := sg_run hL l (fun x hx => h x (.tail _ hx))
  exact ⟨_, scG_cons (sg_tok (h c (.head _)) _) h1, by rw [List.map_cons, h2]; rfl⟩
theorem letter_sg (c : UInt8) : isL c = true → (!sgV ((c.toNat : Nat) : Int) && !decide (((c.toNat : Nat) : Int) = 46)) = true := by
 revert c
 apply all_u8
 set_option maxRecDepth 100000 in decide +kernel
theorem word_all : ∀ (l Y : Bs), l.all isW = true → NW Y → wordN (l ++ Y) = l.length
 | [], Y, _, h => wordN_nw h
 | c :: l, Y, h, hY => by
  simp only [List.all_cons, Bool.and_eq_true] at h
  rw [List.cons_append, wordN_cons, h.1, cond_true, word_all l Y h.2 hY, List.length_cons]; omega
theorem name_tok {N Y : Bs} (h : Z13_q N = true) (hY : NW Y) : tokF (N ++ Y) = some (2, N, N.length) := by
 obtain ⟨c, r, rfl, h1, h2, h3⟩ := name4 h
 have hs := letter_sg c h1
 simp only [Bool.and_eq_true, Bool.not_eq_true', decide_eq_false_iff_not] at hs
 have hw := word_all (c :: r) Y h2 hY
 rw [List.cons_append] at hw ⊢
 rw [tokF, if_neg (by rw [hs.1]; decide), if_neg hs.2, if_pos h1, hw, if_neg (by omega)]
 rw [← List.cons_append, List.take_left]
theorem sg33 : sgV (((33 : UInt8).toNat : Nat) : Int) = true := by kernel_rfl
theorem sg91 : sgV (((91 : UInt8).toNat : Nat) : Int) = true := by kernel_rfl
theorem sg93 : sgV (((93 : UInt8).toNat : Nat) : Int) = true := by kernel_rfl
theorem cls_sg : ∀ (W : List Int), ∀ c ∈ cls W, sgV ((c.toNat : Nat) : Int) = true ∧ isW c = false
 | [], c, h => by cases h
 | w :: r, c, h => by
  rw [cls] at h
  rcases List.mem_append.1 h with h | h
  ·exact cls_sg r c h
  ·rw [List.mem_singleton.1 h]
   split
   ·exact ⟨sg33, rfl⟩
   ·exact ⟨sg93, rfl⟩
theorem scan_prt {N : Bs} {W : List Int} (hN : Z13_q N = true) (hW : W.length ≤ 24) : ∃ L, scF (prt N W) = some L ∧ L.map ktF = List.replicate (cnt W) ((1 : Int), ([91] : Bs)) ++ ((2, N) :: ((cls W).map (fun c => ((1 : Int), [c])) ++ [(5, [])])) := by
 have c1 := cnt_le W
 have c2 := cls_len W
 obtain ⟨m, hm⟩ : ∃ m, F0 = m + 1 + (cls W).length + 1 + (List.replicate (cnt W) (91 : UInt8)).length := ⟨F0 - ((cls W).length + 2 + cnt W), by rw [List.length_replicate, F0_eq]; omega⟩
 have h0 : scG (m + 1) [] = some [(5, [], 0)] := rfl
 obtain ⟨L1, a1, a2⟩ := sg_run h0 (cls W) (fun c hc => (cls_sg W c hc).1)
 rw [List.append_nil] at a1
 have hnw : NW (cls W) := fun c hc => (cls_sg W c (List.mem_of_mem_head? hc)).2
 have ht := name_tok hN hnw
 have a3 := scG_cons ht (n := m + 1 + (cls W).length) (L := L1) (by rw [List.drop_left]; exact a1)
 obtain ⟨L2, b1, b2⟩ := sg_run a3 (List.replicate (cnt W) 91) (fun c hc => by rw [List.eq_of_mem_replicate hc]; exact sg91)
 refine ⟨L2, ?_, ?_⟩
 ·rw [← hm] at b1
  exact b1
 ·rw [b2, List.map_cons, a2, List.map_replicate]; rfl
def ktT (t : Token_Token) : Int × Bs := (t.FKind, t.FText)
theorem head_kt {l : List Token_Token} {k : Int} {t : Bs} {r : List (Int × Bs)} (h : l.map ktT = (k, t) :: r) : ∃ x l', l = x :: l' ∧ x.FKind = k ∧ x.FText = t ∧ l'.map ktT = r := by
 obtain ⟨x, l', rfl, h1, h2⟩ := List.map_eq_cons_iff.1 h
 exact ⟨x, l', rfl, congrArg Prod.fst h1, congrArg Prod.snd h1, h2⟩
theorem parse_open (N : Bs) (R : List (Int × Bs)) : ∀ (m n : Nat) (S : Sl Token_Token) (d : Nat), S.l.map ktT = List.replicate m ((1 : Int), ([91] : Bs)) ++ (2, N) :: R → m < n → d + m ≤ 1000 → ∃ S', S'.l.map ktT = (2, N) :: R ∧ Z77_l65 n S (d : Int) = Z77_j11 S' ((d + m : Nat) : Int)
 | _, 0, _, _, _, h, _ => by omega
 | 0, n + 1, S, d, h, _, _ => by
  refine ⟨S, h, ?_⟩
  obtain ⟨x, l', hl, h1, h2, h3⟩ := head_kt (show S.l.map ktT = (2, N) :: R from h)
  rw [Z77_l65, hl, List.getElem?_cons_zero, Option.bind_some, h1]
  rfl
 | m + 1, n + 1, S, d, h, hn, hd => by
  rw [List.replicate_succ, List.cons_append] at h
  obtain ⟨x, l', hl, h1, h2, h3⟩ := head_kt h
  rw [Z77_l65, hl, List.getElem?_cons_zero, Option.bind_some, h1]
  rw [show decide ((1 : Int) = 1) = true from rfl]
  simp only [guardO, if_true, Option.bind_some, Bool.true_and, h2]
  rw [show (([91] : Bs) == [91]) = true from rfl, cond_true, show (1 : Int) = ((1 : Nat) : Int) from rfl, add_nat (by omega) (by omega), Option.bind_some, show (((1 : Nat) : Int)) = 1 from rfl, part_tail (by rw [hl]; simp), Option.bind_some]
  obtain ⟨S', g1, g2⟩ := parse_open N R m n ⟨S.nl, S.l.drop 1⟩ (d + 1) (by rw [hl]; exact h3) (by omega) (by omega)
  exact ⟨S', g1, by rw [g2]; exact congrArg _ (by omega)⟩
theorem j22_eq {S : Sl Token_Token} {t : Bs} {R : List (Int × Bs)} (h : S.l.map ktT = (5, t) :: R) (y z : TRef) (hz : z.FWraps.l.length ≤ 24) : Z77_j22 S y z = some (⟨z.FName, Sl.rev z.FWraps⟩, 0) := by
 obtain ⟨x, l', hl, h1, h2, h3⟩ := head_kt h
 unfold Z77_j22
 rw [hl, List.getElem?_cons_zero, Option.bind_some, h1, show (!decide ((5 : Int) = 5)) = false from rfl, cond_false, show decide ((24 : Int) < ((z.FWraps.l.length : Nat) : Int)) = false from decide_eq_false (by omega), cond_false]
 rfl
def chW (w : Int) : Int × Bs := (1, [if w = 1 then 33 else 93])
theorem j44_two {S : Sl Token_Token} {w : Int} (hw : w = 2) {R : List (Int × Bs)} (h : S.l.map ktT = chW w :: R) (d : Nat) (hd : d ≤ 1000) (y z : TRef) (hz : z.FWraps.l.length ≤ 1000) (k : (Sl Token_Token) → Int → TRef → TRef → Option (TRef × Int)) :
  Z77_j44 ((d + 1 : Nat) : Int) y k S z = k ⟨S.nl, S.l.drop 1⟩ (d : Int) y ⟨z.FName, ⟨false, z.FWraps.l ++ [2]⟩⟩ ∧ (S.l.drop 1).map ktT = R := by
 subst hw
 obtain ⟨x, l', hl, h1, h2, h3⟩ := head_kt (show S.l.map ktT = ((1 : Int), ([93] : Bs)) :: R from h)
 refine ⟨?_, by rw [hl]; exact h3⟩
 unfold Z77_j44
 rw [show decide (((d + 1 : Nat) : Int) = 0) = false from decide_eq_false (by omega), cond_false, hl, List.getElem?_cons_zero, Option.bind_some, h1]
 rw [show (!decide ((1 : Int) = 1)) = false from rfl]
 simp only [guardO, Bool.not_false, if_true, Option.bind_some, Bool.false_or, h2]
 rw [show (!(([93] : Bs) == [93])) = false from rfl, cond_false, appC_ok (by decide) (by simp only [List.length_cons, List.length_nil]; omega), Option.bind_some, part_tail (by rw [hl]; simp), Option.bind_some, subC_ok (by omega), Option.bind_some, show ((d + 1 : Nat) : Int) - 1 = (d : Int) by omega]
 simp only [List.isEmpty_cons, Bool.and_false, hl]
theorem parse_close (y : TRef) (N : Bs) : ∀ (n : Nat) (V : List Int) (S : Sl Token_Token) (A : Sl Int), V.length < n → rt V = true → S.l.map ktT = V.map chW ++ [(5, [])] → A.l.length + V.length ≤ 24 → ∃ B, Z77_l39 n S ((cnt V : Nat) : Int) y ⟨N, A⟩ = some (⟨N, B⟩, 0) ∧ B.l = (A.l ++ V).reverse
 | 0, _, _, _, h, _, _, _ => by omega
 | n + 1, [], S, A, _, _, h, hA => by
  simp only [List.map_nil, List.nil_append] at h
  obtain ⟨x, l', hl, h1, h2, h3⟩ := head_kt h
  rw [Z77_l39, hl, List.getElem?_cons_zero, Option.bind_some, h1]
  rw [show decide ((5 : Int) = 1) = false from rfl]
  simp only [guardO, Bool.false_and, cond_false]
  rw [if_neg (by decide)]
  unfold Z77_j44
  rw [show decide (((cnt [] : Nat) : Int) = 0) = true from rfl, cond_true]
  refine ⟨Sl.rev A, ?_, by simp [Sl.rev]⟩
  exact j22_eq (S := S) (t := []) (R := []) h y ⟨N, A⟩ (by simp at hA; exact hA)
 | n + 1, v :: V, S, A, hn, hr, h, hA => by
  obtain ⟨r1, r2, r3⟩ := rt_cons hr
  simp only [List.length_cons] at hn hA
  rw [List.map_cons, List.cons_append] at h
  by_cases h1 : v = 1
  ·subst h1
   obtain ⟨x, l', hl, e1, e2, e3⟩ := head_kt (show S.l.map ktT = ((1 : Int), ([33] : Bs)) :: (V.map chW ++ [(5, [])]) from h)
   have hd1 : (S.l.drop 1).map ktT = V.map chW ++ [(5, [])] := by rw [hl]; exact e3
   rw [Z77_l39, hl, List.getElem?_cons_zero, Option.bind_some, e1]
   rw [show decide ((1 : Int) = 1) = true from rfl]
   simp only [guardO, if_true, Option.bind_some, Bool.true_and, e2]
   rw [show (([33] : Bs) == [33]) = true from rfl, cond_true, appC_ok (by decide) (by simp only [List.length_cons, List.length_nil]; omega), Option.bind_some, part_tail (by rw [hl]; simp), Option.bind_some]
   cases V with
   | nil =>
    unfold Z77_j44
    rw [show decide (((cnt [1] : Nat) : Int) = 0) = true from rfl, cond_true]
    refine ⟨_, j22_eq (S := ⟨S.nl, S.l.drop 1⟩) (t := []) (R := []) hd1 y ⟨N, ⟨A.nl && ([1] : List Int).isEmpty, A.l ++ [1]⟩⟩ (by simp at hA ⊢; omega), by simp [Sl.rev]⟩
   | cons v2 V2 =>
    have hv2 : v2 = 2 := by
     obtain ⟨q1, -, -⟩ := rt_cons r3
     rcases q1 with q1 | q1
     ·exact absurd ⟨rfl, by rw [nnW_cons, decide_eq_true q1]⟩ r2
     ·exact q1
    have hr2 := (rt_cons r3).2.2
    simp only [List.length_cons] at hn hA
    rw [List.map_cons, List.cons_append] at hd1
    have hc := cnt_le V2
    have hcn : cnt (1 :: v2 :: V2) = cnt V2 + 1 := by rw [cnt, cnt, if_pos rfl, if_neg (by omega)]; omega
    obtain ⟨j1, j2⟩ := j44_two (S := ⟨S.nl, S.l.drop 1⟩) hv2 hd1 (cnt V2) (by omega) y ⟨N, ⟨A.nl && ([1] : List Int).isEmpty, A.l ++ [1]⟩⟩ (by simp; omega) (Z77_l39 n)
    rw [hcn, j1]
    obtain ⟨B, k1, k2⟩ := parse_close y N n V2 ⟨S.nl, (S.l.drop 1).drop 1⟩ ⟨false, A.l ++ [1] ++ [2]⟩ (by omega) hr2 j2 (by simp; omega)
    exact ⟨B, k1, by rw [k2, hv2]; simp⟩
  ·have hv2 : v = 2 := r1.resolve_left h1
   obtain ⟨x, l', hl, e1, e2, e3⟩ := head_kt (show S.l.map ktT = ((1 : Int), ([93] : Bs)) :: (V.map chW ++ [(5, [])]) by rw [h, hv2]; rfl)
   rw [Z77_l39, hl, List.getElem?_cons_zero, Option.bind_some, e1]
   rw [show decide ((1 : Int) = 1) = true from rfl]
   simp only [guardO, if_true, Option.bind_some, Bool.true_and, e2]
   rw [show (([93] : Bs) == [33]) = false from rfl, cond_false]
   have hc := cnt_le V
   have hcn : cnt (v :: V) = cnt V + 1 := by rw [cnt, if_neg h1]; omega
   obtain ⟨j1, j2⟩ := j44_two (S := S) hv2 h (cnt V) (by omega) y ⟨N, A⟩ (by simp; omega) (Z77_l39 n)
   rw [hcn, j1]
   obtain ⟨B, k1, k2⟩ := parse_close y N n V ⟨S.nl, S.l.drop 1⟩ ⟨false, A.l ++ [2]⟩ (by omega) r3 j2 (by simp; omega)
   exact ⟨B, k1, by rw [k2, hv2]; simp⟩
theorem cls_map : ∀ W : List Int, (cls W).map (fun c => ((1 : Int), [c])) = W.reverse.map chW
 | [] => rfl
 | w :: r => by
  rw [cls, List.map_append, cls_map r, List.reverse_cons, List.map_append]; rfl
theorem cnt_app : ∀ a b, cnt (a ++ b) = cnt a + cnt b
 | [], b => by simp [cnt]
 | w :: r, b => by rw [List.cons_append, cnt, cnt, cnt_app r b]; omega
theorem cnt_rev : ∀ W, cnt W.reverse = cnt W
 | [] => rfl
 | w :: r => by rw [List.reverse_cons, cnt_app, cnt_rev r, cnt, cnt, cnt]; omega
theorem parse_prt {N : Bs} {W : List Int} (hN : Z13_q N = true) (hW : W.length ≤ 24) (hr : rt W = true) : ∃ B, Z77 (prt N W) = some (⟨N, B⟩, 0) ∧ B.l = W := by
 obtain ⟨L, h1, h2⟩ := scan_prt hN hW
 obtain ⟨c, r, hc, -, -, h64⟩ := name4 hN
 have c1 := cnt_le W
 have c2 := cls_len W
 have hlen : (prt N W).length ≤ 112 := by unfold prt; simp only [List.length_append, List.length_replicate, c2]; omega
 rcases scan_spec (s := prt N W) (by omega) with ⟨L', k1, k2, k3⟩ | ⟨k1, -⟩
 ·rw [h1] at k1; cases k1
  unfold Z77
  rw [k2, Option.bind_some]
  simp only [decide_true, Bool.not_true, cond_false]
  have hk : (L.map (tkO (prt N W).length)).map ktT = List.replicate (cnt W) ((1 : Int), ([91] : Bs)) ++ ((2, N) :: ((cls W).map (fun c => ((1 : Int), [c])) ++ [(5, [])])) := by
   rw [← h2, List.map_map]; rfl
  obtain ⟨S', g1, g2⟩ := parse_open N _ (cnt W) F0 ⟨false, L.map (tkO (prt N W).length)⟩ 0 hk (by rw [F0_eq]; omega) (by omega)
  rw [show (0 : Int) = ((0 : Nat) : Int) from rfl, g2, Nat.zero_add]
  obtain ⟨x, l', hl, e1, e2, e3⟩ := head_kt g1
  unfold Z77_j11
  rw [hl, List.getElem?_cons_zero, Option.bind_some, e1, show (!decide ((2 : Int) = 2)) = false from rfl, cond_false, Option.bind_some, part_tail (by rw [hl]; simp), Option.bind_some, e2]
  rw [cls_map] at e3
  have hrr := rt_rev W [] hr rfl (by simp [nnW])
  rw [List.append_nil] at hrr
  obtain ⟨B, b1, b2⟩ := parse_close TRef.zero N F0 W.reverse ⟨S'.nl, S'.l.drop 1⟩ TRef.zero.FWraps (by rw [F0_eq, List.length_reverse]; omega) hrr (by rw [hl]; exact e3) (by rw [List.length_reverse]; exact (by simp [TRef.zero, Sl.nil]; exact hW))
  rw [cnt_rev] at b1
  refine ⟨B, b1, ?_⟩
  rw [b2]
  simp [TRef.zero, Sl.nil]
 ·rw [h1] at k1; cases k1
theorem same5_loop (b : Sl Int) : ∀ (l : List Int) (i : Nat), b.l.drop i = l → Z40_q11 b l i = some (Sum.inl ())
 | [], _, _ => rfl
 | t :: l, i, h => by
  have hi : b.l[i]? = some t := by
   have := congrArg List.head? h
   simpa [List.head?_drop] using this
  rw [Z40_q11]
  simp only [Ab.on]
  rw [hi, Option.bind_some, show (!decide (t = t)) = false by simp, cond_false]
  exact same5_loop b l (i + 1) (by rw [← List.drop_drop, h]; rfl)
theorem same5_eq {a b : Sl Int} (h : a.l = b.l) : Z40 a b = some true := by
 rw [Z40_eq]
 unfold Z40_q
 rw [h, show (!decide (((b.l.length : Nat) : Int) = ((b.l.length : Nat) : Int))) = false by simp, cond_false, same5_loop b b.l 0 rfl]
 rfl
theorem knows05 : Z12 = some true := by
 set_option maxRecDepth 1000000 in kernel_rfl
theorem typerefRound_true (a : TRef) (ha : a.FWraps.l.length ≤ 1048576) : Z11 a = some true := by
 unfold Z11
 obtain ⟨b, h1, h2⟩ := right4 ha
 rw [h1, Option.bind_some, knows05]
 cases b
 ·rfl
 ·obtain ⟨g1, g2, g3⟩ := h2 rfl
  obtain ⟨c, r, hc, -, -, h64⟩ := name4 g1
  obtain ⟨B, p1, p2⟩ := parse_prt g1 g2 g3
  rw [Bool.not_true, cond_false, tprint4_eq (by omega) g2, Option.bind_some, p1, Option.bind_some, rprint4_eq (by omega) g2, Option.bind_some]
  have hs : Z38 ⟨a.FName, B⟩ a = some true := by
   unfold Z38
   rw [same5_eq (b := a.FWraps) p2]
   simp [guardO]
  simp only [beq_self_eq_true, decide_true, Bool.and_self, guardO, if_true, hs, Option.bind_some, Bool.true_and]
end Go.Proofs

namespace Go.Proofs.YtmjbloiidajknaaDoor
open Go Go.Ab Go.RowKit Go.ChangeShapes Go.WideShapes Go.ChangeAt
variable {lou : Lou}
theorem bulkAll {H : Type} (l : List (DataW H)) : Rows.uptoBulkAll l = (l.map Rows.uptoBulk).sum := by
 induction l with
 | nil => rfl
 | cons x r ih => simp only [Rows.uptoBulkAll, List.map_cons, List.sum_cons, ih]
theorem bulkB {H : Type} : Bulk (H := H) Rows.uptoBulk := by
 refine ⟨fun d => ?_, fun b => by simp [Rows.uptoBulk], fun e s => by simp only [Rows.uptoBulk, bulkAll]; omega, fun l => by simp only [Rows.uptoBulk, bulkAll]; omega⟩
 cases d with
 | lit l => cases l <;> simp [Rows.uptoBulk]
 | nil => simp [Rows.uptoBulk]
 | ptr d => simp [Rows.uptoBulk]
 | slice elems spare => simp [Rows.uptoBulk]
 | agg parts => simp [Rows.uptoBulk]
 | iface t d => simp [Rows.uptoBulk]
 | map entries => simp [Rows.uptoBulk]
 | held h => simp [Rows.uptoBulk]
theorem own : ownKnob Tryd.prog.godebug = none := by kernel_rfl
theorem laid : laidOutB Tryd.prog = true := by kernel_rfl
theorem bound {H : Type} {l : List (DataW H)} (hk : Rows.uptoSmall H l = true) : Rows.uptoBulkAll l ≤ 1048576 := of_decide_eq_true hk
theorem table {W : World} (h : laidMet Tryd.prog Rows.typerefRoundUptoRow.laid W) : ∃ tp p u fr, W.heap[2]? = some (.cells #[.iface tp p] u fr) :=
 err_of (P := Tryd.prog) (g := 2) (ti := 70) (by kernel_rfl) (by kernel_rfl) (by kernel_rfl) h (.tail _ (.tail _ (.tail _ (.head _))))
theorem isErr (tp : TypeId) (p : Value) (u : TypeId) (fr : Nat × Nat) : IsErr Tryd.prog (.fix 2 (.cells #[.iface tp p] u fr)) := .of (by kernel_rfl)
theorem typerefRound_call [IsLoud lou] (a : TRef) (ha : a.sz ≤ 1048576) (tp : TypeId) (p : Value) (u : TypeId) (fr : Nat × Nat) : ACalls Tryd.prog 10 [.agg a.c] (hTab 2 (.cells #[.iface tp p] u fr)) fun r h' => r = .a (.d (.bool true)) ∧ h' = hTab 2 (.cells #[.iface tp p] u fr) :=
 Z11_walk (typerefRound_true a (by have := a.sz_def; have := Sl.len_le (f := fun _ : Int => 1) a.FWraps (fun _ => Nat.le_refl _); omega)) _ (gE := 0) rfl (isErr tp p u fr)
end Go.Proofs.YtmjbloiidajknaaDoor

