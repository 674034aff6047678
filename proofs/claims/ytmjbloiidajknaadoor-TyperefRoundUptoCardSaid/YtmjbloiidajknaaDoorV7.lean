import Derived.Test.YtmjbloiidajknaaDoorV6
set_option maxRecDepth 100000
set_option maxHeartbeats 2000000
set_option linter.unusedVariables false
set_option linter.unusedSimpArgs false
namespace Go.Proofs
open Go Go.Ab
def Z0_q (a0 : Bs) (a1 : Bs) : Bool := on (bif (decide (((a1.length : Nat) : Int) ≤ ((a0.length : Nat) : Int))) then (List.take (a1.length) a0) else ([] : Bs)) fun x5 => ((decide (((a1.length : Nat) : Int) ≤ ((a0.length : Nat) : Int))) && ((x5 == a1)))
theorem Z0_eq (a0 : Bs) (a1 : Bs) : Z0 a0 a1 = some (Z0_q a0 a1) := by
 unfold Z0 Z0_q
 refine Q.guardT (fun hc => Q.cutC_take (by simp at hc; omega)) fun x5 hx_x5 => ?_
 all_goals rfl
def Z51_q (a0 : Bs) (a1 : Bs) : Bool := on (Z0_q a0 a1) fun x3 => x3
theorem Z51_eq (a0 : Bs) (a1 : Bs) : Z51 a0 a1 = some (Z51_q a0 a1) := by
 unfold Z51 Z51_q
 refine Q.bindP (Z0_eq _ _) fun x3 hx_x3 => ?_
 all_goals rfl
def Z1_q (a0 : Bs) (a1 : Bs) : Option Bs := on (Z0_q a0 a1) fun x4 => bif x4 then ((cutC a0 (some ((a1.length : Nat) : Int)) none).bind fun x8 => some x8) else (some a0)
theorem Z1_eq (a0 : Bs) (a1 : Bs) : Z1 a0 a1 = Z1_q a0 a1 := by
 unfold Z1 Z1_q
 refine Eq.trans ?_ (Q.some_bind _)
 refine Q.bindPO (Z0_eq _ _) fun x4 hx_x4 => ?_
 refine Q.condO ?_ ?_
 ·refine Q.bindO rfl fun x8 => ?_
  all_goals rfl
 all_goals rfl
def Z56_q (a0 : Bs) (a1 : Bs) : Option Bs := (Z1_q a0 a1).bind fun x3 => some x3
theorem Z56_eq (a0 : Bs) (a1 : Bs) : Z56 a0 a1 = Z56_q a0 a1 := by
 unfold Z56 Z56_q
 refine Eq.trans ?_ (Q.some_bind _)
 refine Q.bindO (Z1_eq _ _) fun x3 => ?_
 all_goals rfl
def Z58_q19  : List UInt8 → Unit ⊕ ((Int × Int))
 | [] => Sum.inl ()
 | h19 :: r19 => on (h19) fun x27 => on (bif !(decide (((x27.toNat : Nat) : Int) < (48 : Int))) then h19 else (0 : UInt8)) fun x28 => bif ((decide (((x27.toNat : Nat) : Int) < (48 : Int))) || (decide ((57 : Int) < ((x28.toNat : Nat) : Int)))) then (Sum.inr ((0 : Int), (3 : Int))) else (Z58_q19  (r19) )
theorem Z58_l19_qe {a0 : Bs} {x3 : Bs}  (Kb19 : (Unit ⊕ ((Int × Int))) → Option (Int × Int)) (hend : ∀ (n19 : Nat) (s29_20 : Nat), Z58_j9 a0   = Kb19 (Sum.inl ())) (hret : ∀ e : (Int × Int), some e = Kb19 (Sum.inr e)) : ∀ (n19 : Nat) (s29_20 : Nat), (0 < n19 ∧ x3.length < s29_20 + n19) → Z58_l19 a0 x3 n19 s29_20 = Kb19 (Z58_q19  (x3.drop s29_20) ) := by
 intro n19
 induction n19 with
 | zero => intro s29_20 hn; exact absurd hn.1 (by omega)
 | succ n19 ih19 =>
  intro s29_20 hn
  rw [Z58_l19]
  by_cases hlt : s29_20 < x3.length
  ·obtain ⟨h19, hh19⟩ : ∃ x, x3[s29_20]? = some x := ⟨_, List.getElem?_eq_getElem hlt⟩
   rw [Q.drop_of hh19, Z58_q19]
   refine Q.condT (Q.ltT hlt) ?_
   refine Q.bindP hh19 fun x27 hx_x27 => ?_
   refine Q.guardP hh19 fun x28 hx_x28 => ?_
   refine Q.condP ?_ ?_
   ·all_goals exact hret _
   all_goals exact ih19 _ ⟨by omega, by omega⟩
  rw [List.drop_of_length_le (by omega), Z58_q19]
  refine Q.condF (Q.ltF hlt) ?_
  exact hend n19 s29_20
def Z58_q (a0 : Bs) : Option (Int × Int) := (Z56_q a0 ([45] : Bs)).bind fun x3 => guardO (!((x3 == ([] : Bs)))) (x3[0]?) (0 : UInt8) fun x6 => bif (((x3 == ([] : Bs))) || ((decide (((x6.toNat : Nat) : Int) = (48 : Int))) && ((decide ((1 : Int) < ((x3.length : Nat) : Int))) || (decide ((1 : Int) < ((a0.length : Nat) : Int)))))) then (some ((0 : Int), (3 : Int))) else (on (Z58_q19  x3 ) fun o19 => match o19 with | Sum.inl _ => (on (()) fun _ => (Z45_q a0).bind fun x11 => bif x11.2 then (some ((0 : Int), (4 : Int))) else (some (x11.1, (0 : Int)))) | Sum.inr e19 => (some e19))
theorem Z58_eq (a0 : Bs) : Z58 a0 = Z58_q a0 := by
 unfold Z58 Z58_q
 refine Eq.trans ?_ (Q.some_bind _)
 refine Q.bindO (Z56_eq _ _) fun x3 => ?_
 refine Q.guardOO rfl fun x6 => ?_
 refine Q.condO ?_ ?_
 ·all_goals rfl
 refine Q.wrapPO fun Kb19 hKb19 => ?_
 refine Z58_l19_qe  Kb19 ?_ ?_ _ _ ⟨Nat.succ_pos _, by omega⟩
 ·intro n19 s29_20
  refine Eq.trans ?_ (hKb19 _).symm
  try dsimp only
  refine Q.wrapPO fun Kj9 hKj9 => ?_
  have hj9 : Z58_j9 a0  = Kj9 () := by
   refine Eq.trans ?_ (hKj9 _).symm
   unfold Z58_j9
   refine Q.bindO (Z45_eq _) fun x11 => ?_
   refine Q.condO ?_ ?_
   ·all_goals rfl
   all_goals rfl
  all_goals exact hj9
 intro e19
 refine Eq.trans ?_ (hKb19 _).symm
 try dsimp only
 all_goals rfl
def Z18_q (a0 : Int) : Bool := ((decide ((48 : Int) ≤ a0)) && (decide (a0 ≤ (57 : Int))))
theorem Z18_eq (a0 : Int) : Z18 a0 = some (Z18_q a0) := by
 unfold Z18 Z18_q
 all_goals rfl
def Z21_q (a0 : Int) : Bool := ((((decide ((65 : Int) ≤ a0)) && (decide (a0 ≤ (90 : Int)))) || ((decide ((97 : Int) ≤ a0)) && (decide (a0 ≤ (122 : Int))))) || (decide (a0 = (95 : Int))))
theorem Z21_eq (a0 : Int) : Z21 a0 = some (Z21_q a0) := by
 unfold Z21 Z21_q
 all_goals rfl
def Z13_q10  : List UInt8 → Nat → Unit ⊕ Bool
 | [], s3_11 => Sum.inl ()
 | h10 :: r10, s3_11 => on (h10) fun x18 => on (Z21_q ((x18.toNat : Nat) : Int)) fun x19 => on (bif ((!x19) && !(decide (((s3_11 : Nat) : Int) = (0 : Int)))) then h10 else (0 : UInt8)) fun x20 => on (bif ((!x19) && !(decide (((s3_11 : Nat) : Int) = (0 : Int)))) then Z18_q ((x20.toNat : Nat) : Int) else false) fun x21 => bif ((!x19) && ((decide (((s3_11 : Nat) : Int) = (0 : Int))) || (!x21))) then (Sum.inr false) else (Z13_q10  (r10) (s3_11 + 1) )
theorem Z13_l10_qe {a0 : Bs}  (Kb10 : (Unit ⊕ Bool) → Option Bool) (hend : ∀ (n10 : Nat) (s3_11 : Nat), Z13_j7    = Kb10 (Sum.inl ())) (hret : ∀ e : Bool, some e = Kb10 (Sum.inr e)) : ∀ (n10 : Nat) (s3_11 : Nat), (0 < n10 ∧ a0.length < s3_11 + n10) → Z13_l10 a0 n10 s3_11 = Kb10 (Z13_q10  (a0.drop s3_11) s3_11 ) := by
 intro n10
 induction n10 with
 | zero => intro s3_11 hn; exact absurd hn.1 (by omega)
 | succ n10 ih10 =>
  intro s3_11 hn
  rw [Z13_l10]
  by_cases hlt : s3_11 < a0.length
  ·obtain ⟨h10, hh10⟩ : ∃ x, a0[s3_11]? = some x := ⟨_, List.getElem?_eq_getElem hlt⟩
   rw [Q.drop_of hh10, Z13_q10]
   refine Q.condT (Q.ltT hlt) ?_
   refine Q.bindP hh10 fun x18 hx_x18 => ?_
   refine Q.bindP (Z21_eq _) fun x19 hx_x19 => ?_
   refine Q.guardP hh10 fun x20 hx_x20 => ?_
   refine Q.guardP (Z18_eq _) fun x21 hx_x21 => ?_
   refine Q.condP ?_ ?_
   ·all_goals exact hret _
   all_goals exact ih10 _ ⟨by omega, by omega⟩
  rw [List.drop_of_length_le (by omega), Z13_q10]
  refine Q.condF (Q.ltF hlt) ?_
  exact hend n10 s3_11
def Z13_q (a0 : Bs) : Bool := bif ((decide (((a0.length : Nat) : Int) < (1 : Int))) || (decide ((64 : Int) < ((a0.length : Nat) : Int)))) then (false) else (on (Z13_q10  a0 0 ) fun o10 => match o10 with | Sum.inl _ => (on (()) fun _ => true) | Sum.inr e10 => (e10))
theorem Z13_eq (a0 : Bs) : Z13 a0 = some (Z13_q a0) := by
 unfold Z13 Z13_q
 refine Q.condP ?_ ?_
 ·all_goals rfl
 refine Q.wrapPP fun Kb10 hKb10 => ?_
 refine Z13_l10_qe  Kb10 ?_ ?_ _ _ ⟨Nat.succ_pos _, by omega⟩
 ·intro n10 s3_11
  refine Eq.trans ?_ (hKb10 _).symm
  try dsimp only
  refine Q.wrapPP fun Kj7 hKj7 => ?_
  have hj7 : Z13_j7   = Kj7 () := by
   refine Eq.trans ?_ (hKj7 _).symm
   unfold Z13_j7
   all_goals rfl
  all_goals exact hj7
 intro e10
 refine Eq.trans ?_ (hKb10 _).symm
 try dsimp only
 all_goals rfl
def Z37_q10 (a0 : TRef) : List Int → Nat → Option (Unit ⊕ Bool)
 | [], s3_11 => some (Sum.inl ())
 | h10 :: r10, s3_11 => on (h10) fun x19 => on (bif (!decide (x19 = (1 : Int))) then h10 else (0 : Int)) fun x20 => bif ((!decide (x19 = (1 : Int))) && (!decide (x20 = (2 : Int)))) then (some (Sum.inr false)) else (on (bif (decide ((0 : Int) < ((s3_11 : Nat) : Int))) then h10 else (0 : Int)) fun x24 => guardO (((decide ((0 : Int) < ((s3_11 : Nat) : Int))) && (decide (x24 = (1 : Int))))) (subC ((s3_11 : Nat) : Int) (1 : Int)) (0 : Int) fun x25 => guardO (((decide ((0 : Int) < ((s3_11 : Nat) : Int))) && (decide (x24 = (1 : Int))))) (idxC a0.FWraps.l x25) (0 : Int) fun x26 => bif (((decide ((0 : Int) < ((s3_11 : Nat) : Int))) && (decide (x24 = (1 : Int)))) && (decide (x26 = (1 : Int)))) then (some (Sum.inr false)) else (Z37_q10 a0 (r10) (s3_11 + 1) ))
theorem Z37_l10_qe {a0 : TRef}  (Kb10 : (Unit ⊕ Bool) → Option Bool) (hend : ∀ (n10 : Nat) (s3_11 : Nat), Z37_j7    = Kb10 (Sum.inl ())) (hret : ∀ e : Bool, some e = Kb10 (Sum.inr e)) : ∀ (n10 : Nat) (s3_11 : Nat), (0 < n10 ∧ a0.FWraps.l.length < s3_11 + n10) → Z37_l10 a0 n10 s3_11 = Option.bind (Z37_q10 a0 (a0.FWraps.l.drop s3_11) s3_11 ) Kb10 := by
 intro n10
 induction n10 with
 | zero => intro s3_11 hn; exact absurd hn.1 (by omega)
 | succ n10 ih10 =>
  intro s3_11 hn
  rw [Z37_l10]
  by_cases hlt : s3_11 < a0.FWraps.l.length
  ·obtain ⟨h10, hh10⟩ : ∃ x, a0.FWraps.l[s3_11]? = some x := ⟨_, List.getElem?_eq_getElem hlt⟩
   rw [Q.drop_of hh10, Z37_q10]
   refine Q.condT (Q.ltT hlt) ?_
   refine Q.bindPO hh10 fun x19 hx_x19 => ?_
   refine Q.guardPO hh10 fun x20 hx_x20 => ?_
   refine Q.condO ?_ ?_
   ·all_goals exact hret _
   refine Q.guardPO hh10 fun x24 hx_x24 => ?_
   refine Q.guardOO rfl fun x25 => ?_
   refine Q.guardOO rfl fun x26 => ?_
   refine Q.condO ?_ ?_
   ·all_goals exact hret _
   all_goals exact ih10 _ ⟨by omega, by omega⟩
  rw [List.drop_of_length_le (by omega), Z37_q10]
  refine Q.condF (Q.ltF hlt) ?_
  exact hend n10 s3_11
def Z37_q (a0 : TRef) : Option Bool := on (Z13_q a0.FName) fun x4 => bif ((!x4) || (decide ((24 : Int) < ((a0.FWraps.l.length : Nat) : Int)))) then (some false) else (Option.bind (Z37_q10 a0 a0.FWraps.l 0 ) fun o10 => match o10 with | Sum.inl _ => (on (()) fun _ => some true) | Sum.inr e10 => (some e10))
theorem Z37_eq (a0 : TRef) : Z37 a0 = Z37_q a0 := by
 unfold Z37 Z37_q
 refine Eq.trans ?_ (Q.some_bind _)
 refine Q.bindPO (Z13_eq _) fun x4 hx_x4 => ?_
 refine Q.condO ?_ ?_
 ·all_goals rfl
 refine Q.wrapOO fun Kb10 hKb10 => ?_
 refine Z37_l10_qe  Kb10 ?_ ?_ _ _ ⟨Nat.succ_pos _, by omega⟩
 ·intro n10 s3_11
  refine Eq.trans ?_ (hKb10 _).symm
  try dsimp only
  refine Q.wrapPO fun Kj7 hKj7 => ?_
  have hj7 : Z37_j7   = Kj7 () := by
   refine Eq.trans ?_ (hKj7 _).symm
   unfold Z37_j7
   all_goals rfl
  all_goals exact hj7
 intro e10
 refine Eq.trans ?_ (hKb10 _).symm
 try dsimp only
 all_goals rfl
end Go.Proofs

namespace Go.Proofs
open Go Go.Ab
def Z40_q11 (a1 : (Sl Int)) : List Int → Nat → Option (Unit ⊕ Bool)
 | [], s5_12 => some (Sum.inl ())
 | h11 :: r11, s5_12 => on (h11) fun x19 => (a1.l[s5_12]?).bind fun x20 => bif (!decide (x19 = x20)) then (some (Sum.inr false)) else (Z40_q11 a1 (r11) (s5_12 + 1) )
theorem Z40_l11_qe {a0 : (Sl Int)} {a1 : (Sl Int)}  (Kb11 : (Unit ⊕ Bool) → Option Bool) (hend : ∀ (n11 : Nat) (s5_12 : Nat), Z40_j8    = Kb11 (Sum.inl ())) (hret : ∀ e : Bool, some e = Kb11 (Sum.inr e)) : ∀ (n11 : Nat) (s5_12 : Nat), (0 < n11 ∧ a0.l.length < s5_12 + n11) → Z40_l11 a0 a1 n11 s5_12 = Option.bind (Z40_q11 a1 (a0.l.drop s5_12) s5_12 ) Kb11 := by
 intro n11
 induction n11 with
 | zero => intro s5_12 hn; exact absurd hn.1 (by omega)
 | succ n11 ih11 =>
  intro s5_12 hn
  rw [Z40_l11]
  by_cases hlt : s5_12 < a0.l.length
  ·obtain ⟨h11, hh11⟩ : ∃ x, a0.l[s5_12]? = some x := ⟨_, List.getElem?_eq_getElem hlt⟩
   rw [Q.drop_of hh11, Z40_q11]
   refine Q.condT (Q.ltT hlt) ?_
   refine Q.bindPO hh11 fun x19 hx_x19 => ?_
   refine Q.bindO rfl fun x20 => ?_
   refine Q.condO ?_ ?_
   ·all_goals exact hret _
   all_goals exact ih11 _ ⟨by omega, by omega⟩
  rw [List.drop_of_length_le (by omega), Z40_q11]
  refine Q.condF (Q.ltF hlt) ?_
  exact hend n11 s5_12
def Z40_q (a0 : (Sl Int)) (a1 : (Sl Int)) : Option Bool := bif (!decide (((a0.l.length : Nat) : Int) = ((a1.l.length : Nat) : Int))) then (some false) else (Option.bind (Z40_q11 a1 a0.l 0 ) fun o11 => match o11 with | Sum.inl _ => (on (()) fun _ => some true) | Sum.inr e11 => (some e11))
theorem Z40_eq (a0 : (Sl Int)) (a1 : (Sl Int)) : Z40 a0 a1 = Z40_q a0 a1 := by
 unfold Z40 Z40_q
 refine Eq.trans ?_ (Q.some_bind _)
 refine Q.condO ?_ ?_
 ·all_goals rfl
 refine Q.wrapOO fun Kb11 hKb11 => ?_
 refine Z40_l11_qe  Kb11 ?_ ?_ _ _ ⟨Nat.succ_pos _, by omega⟩
 ·intro n11 s5_12
  refine Eq.trans ?_ (hKb11 _).symm
  try dsimp only
  refine Q.wrapPO fun Kj8 hKj8 => ?_
  have hj8 : Z40_j8   = Kj8 () := by
   refine Eq.trans ?_ (hKj8 _).symm
   unfold Z40_j8
   all_goals rfl
  all_goals exact hj8
 intro e11
 refine Eq.trans ?_ (hKb11 _).symm
 try dsimp only
 all_goals rfl
end Go.Proofs

namespace Go.Proofs
open Go Go.Ab
theorem some_nat {a b : Nat} (h : a = b) : some ((a : Nat) : Int) = some ((b : Nat) : Int) := by rw [h]
theorem idxC_nat {α : Type} (l : List α) (i : Nat) : idxC l (i : Int) = l[i]? := by unfold idxC; rw [if_pos (by omega)]; simp
theorem cut_from {s : Bs} {i : Nat} (h : i ≤ s.length) : cutC s (some (i : Int)) none = some (s.drop i) := by
 unfold cutC; rw [if_pos (by simp; omega)]; simp
theorem cut_part {s : Bs} {i j : Nat} (h : i ≤ j) (hj : j ≤ s.length) : cutC s (some (i : Int)) (some (j : Int)) = some ((s.drop i).take (j - i)) := by
 unfold cutC; rw [if_pos (by simp; omega)]
 simp only [Option.getD_some, Int.toNat_natCast]
 rw [List.drop_take]
theorem drop_cons {s : Bs} {i : Nat} {c : UInt8} (h : s[i]? = some c) : s.drop i = c :: s.drop (i + 1) := by
 obtain ⟨hi, rfl⟩ := List.getElem?_eq_some_iff.1 h
 exact List.drop_eq_getElem_cons hi
def isSp (c : UInt8) : Bool := decide (((c.toNat : Nat) : Int) = 32) || decide (((c.toNat : Nat) : Int) = 9) || decide (((c.toNat : Nat) : Int) = 10) || decide (((c.toNat : Nat) : Int) = 13) || decide (((c.toNat : Nat) : Int) = 44)
def isNl (c : UInt8) : Bool := decide (((c.toNat : Nat) : Int) = 10) || decide (((c.toNat : Nat) : Int) = 13)
def skN : Bool → Bs → Nat
 | _, [] => 0
 | false, c :: r => bif isSp c then 1 + skN false r else bif decide (((c.toNat : Nat) : Int) = 35) then 1 + skN true r else 0
 | true, c :: r => bif isNl c then 1 + skN false r else 1 + skN true r
theorem skN_le : ∀ (b : Bool) (l : Bs), skN b l ≤ l.length
 | b, [] => by cases b <;> simp [skN]
 | false, c :: r => by
  have h1 := skN_le false r; have h2 := skN_le true r
  rw [skN]; cases isSp c <;> cases decide (((c.toNat : Nat) : Int) = 35) <;> simp <;> omega
 | true, c :: r => by
  have h1 := skN_le false r; have h2 := skN_le true r
  rw [skN]; cases isNl c <;> simp <;> omega
theorem isNl_sp {c : UInt8} (h : isNl c = true) : isSp c = true := by
 unfold isNl at h; unfold isSp
 simp only [Bool.or_eq_true] at h ⊢
 rcases h with h | h
 ·exact .inl (.inl (.inr h))
 ·exact .inl (.inr h)
theorem contains_nl (c : UInt8) : ([10, 13] : Bs).contains c = isNl c := by
 unfold isNl
 rw [Bool.eq_iff_iff]
 simp only [List.contains_eq_mem, List.mem_cons, List.not_mem_nil, or_false, decide_eq_true_eq, Bool.or_eq_true]
 rw [← UInt8.toNat_inj, ← UInt8.toNat_inj]
 show (c.toNat = 10 ∨ c.toNat = 13) ↔ _
 omega
theorem indexAny_sk : ∀ l : Bs, (∃ k : Nat, Lib.indexAny l [10, 13] = (k : Int) ∧ k < l.length ∧ skN true l = k + skN false (l.drop k)) ∨ (Lib.indexAny l [10, 13] = -1 ∧ skN true l = l.length)
 | [] => .inr ⟨rfl, rfl⟩
 | c :: r => by
  rw [Lib.indexAny, contains_nl]
  cases h : isNl c
  ·rcases indexAny_sk r with ⟨k, h1, h2, h3⟩ | ⟨h1, h2⟩
   ·left
    refine ⟨k + 1, ?_, by simp; omega, ?_⟩
    ·rw [h1]; simp only [Bool.false_eq_true, if_false]; rw [if_neg (by simp)]; push_cast; rfl
    ·rw [skN, h, List.drop_succ_cons, h3]; simp; omega
   ·right
    rw [h1]
    refine ⟨by simp, ?_⟩
    rw [skN, h, h2]; simp; omega
  ·left
   refine ⟨0, by simp, by simp, ?_⟩
   rw [skN, h, List.drop_zero, skN, isNl_sp h]; simp
theorem skip_aux (s : Bs) (hs : s.length ≤ 1048576) : ∀ (n i : Nat), i ≤ s.length → s.length - i < n → Z67_l5 s n (i : Int) = some (((i + skN false (s.drop i) : Nat)) : Int)
 | 0, _, _, h => by omega
 | n + 1, i, hi, hn => by
  rw [Z67_l5]
  by_cases hlt : i < s.length
  ·have hd : decide ((i : Int) < ((s.length : Nat) : Int)) = true := decide_eq_true (by omega)
   obtain ⟨c, hc⟩ : ∃ c, s[i]? = some c := ⟨s[i], List.getElem?_eq_getElem hlt⟩
   have hdr := drop_cons hc
   have next : ∀ j : Nat, i < j → j ≤ s.length → Z67_l5 s n (j : Int) = some (((j + skN false (s.drop j) : Nat)) : Int) := fun j h1 h2 => skip_aux s hs n j h2 (by omega)
   have one : addC (i : Int) 1 = some (((i + 1 : Nat)) : Int) := by rw [addC_ok (by omega)]; rfl
   rw [hd, idxC_nat, hc, hdr, skN]
   simp only [Z67_j13, one]
   rw [cond_true, Option.bind_some]
   have sp : isSp c = true → Z67_l5 s n (((i + 1 : Nat)) : Int) = some (((i + (bif isSp c then 1 + skN false (s.drop (i + 1)) else bif decide (((c.toNat : Nat) : Int) = 35) then 1 + skN true (s.drop (i + 1)) else 0) : Nat)) : Int) := fun h => by
    rw [next (i + 1) (by omega) (by omega), h]
    simp only [cond_true]; exact some_nat (by omega)
   cases h1 : decide (((c.toNat : Nat) : Int) = 32)
   ·rw [cond_false]
    cases h2 : decide (((c.toNat : Nat) : Int) = 9)
    ·rw [cond_false]
     cases h3 : decide (((c.toNat : Nat) : Int) = 10)
     ·rw [cond_false]
      cases h4 : decide (((c.toNat : Nat) : Int) = 13)
      ·rw [cond_false]
       cases h5 : decide (((c.toNat : Nat) : Int) = 44)
       ·have hns : isSp c = false := by unfold isSp; rw [h1, h2, h3, h4, h5]; rfl
        have hnn : isNl c = false := by unfold isNl; rw [h3, h4]; rfl
        rw [hns, cond_false, cond_false]
        cases h6 : decide (((c.toNat : Nat) : Int) = 35)
        ·simp
        ·simp only [cond_true]
         rw [cut_from hi, Option.bind_some, hdr]
         have he : Z52 (c :: s.drop (i + 1)) [10, 13] = some (Lib.indexAny (c :: s.drop (i + 1)) [10, 13]) := by
          unfold Z52 idxAnyC
          rw [if_pos ⟨by decide, by decide, Nat.lt_of_le_of_lt (show (c :: s.drop (i + 1)).length ≤ 1048577 by simp; omega) (by decide), by decide⟩]
         rw [he, Option.bind_some]
         have hsk : skN true (c :: s.drop (i + 1)) = 1 + skN true (s.drop (i + 1)) := by rw [skN, hnn]; rfl
         rw [← hsk]
         rcases indexAny_sk (c :: s.drop (i + 1)) with ⟨k, g1, g2, g3⟩ | ⟨g1, g2⟩
         ·have hk0 : 0 < k := by
           rcases Nat.eq_zero_or_pos k with h | h
           ·subst h
            rw [Lib.indexAny, contains_nl, hnn] at g1
            simp at g1
            split at g1 <;> omega
           ·exact h
          rw [g1, show decide ((0 : Int) ≤ (k : Int)) = true from decide_eq_true (by omega)]
          simp only [cond_true]
          simp only [List.length_cons, List.length_drop] at g2
          rw [addC_ok (by omega), Option.bind_some, show ((i : Int) + (k : Int)) = ((i + k : Nat) : Int) by push_cast; rfl, next (i + k) (by omega) (by omega), g3, ← hdr, List.drop_drop]
          exact some_nat (by omega)
         ·rw [g1, show decide ((0 : Int) ≤ (-1 : Int)) = false from rfl]
          simp only [cond_false]
          rw [next s.length (by omega) (Nat.le_refl _), g2, List.drop_length]
          simp only [skN, List.length_cons, List.length_drop]
          exact some_nat (by omega)
       ·rw [cond_true]; exact sp (by unfold isSp; rw [h5]; simp)
      ·rw [cond_true]; exact sp (by unfold isSp; rw [h4]; simp)
     ·rw [cond_true]; exact sp (by unfold isSp; rw [h3]; simp)
    ·rw [cond_true]; exact sp (by unfold isSp; rw [h2]; simp)
   ·rw [cond_true]; exact sp (by unfold isSp; rw [h1]; simp)
  ·rw [show decide ((i : Int) < ((s.length : Nat) : Int)) = false from decide_eq_false (by omega), List.drop_eq_nil_of_le (by omega)]
   simp [Z67_j2, skN]
theorem skip_eq {s : Bs} (hs : s.length ≤ 1048576) {i : Nat} (hi : i ≤ s.length) : Z67 s (i : Int) = some (((i + skN false (s.drop i) : Nat)) : Int) := by
 unfold Z67; exact skip_aux s hs F0 i hi (by rw [F0_eq]; omega)
end Go.Proofs

namespace Go.Proofs
open Go Go.Ab
theorem wrap32 (c : UInt8) : IntKind.wrap .i32 ((c.toNat : Nat) : Int) = ((c.toNat : Nat) : Int) := by
 have h := c.toNat_lt
 simp [IntKind.wrap, IntKind.bits, IntKind.signed]
 omega
def isW (c : UInt8) : Bool := (((decide ((97 : Int) ≤ ((c.toNat : Nat) : Int)) && decide (((c.toNat : Nat) : Int) ≤ (122 : Int))) || (decide ((65 : Int) ≤ ((c.toNat : Nat) : Int)) && decide (((c.toNat : Nat) : Int) ≤ (90 : Int)))) || (decide ((48 : Int) ≤ ((c.toNat : Nat) : Int)) && decide (((c.toNat : Nat) : Int) ≤ (57 : Int)))) || decide (((c.toNat : Nat) : Int) = (95 : Int))
def isD (c : UInt8) : Bool := decide ((48 : Int) ≤ ((c.toNat : Nat) : Int)) && decide (((c.toNat : Nat) : Int) ≤ (57 : Int))
def isL (c : UInt8) : Bool := ((decide ((65 : Int) ≤ ((c.toNat : Nat) : Int)) && decide (((c.toNat : Nat) : Int) ≤ (90 : Int))) || (decide ((97 : Int) ≤ ((c.toNat : Nat) : Int)) && decide (((c.toNat : Nat) : Int) ≤ (122 : Int)))) || decide (((c.toNat : Nat) : Int) = (95 : Int))
theorem isW_eq (c : UInt8) : isW c = (isL c || isD c) := by
 unfold isW isL isD
 rw [Bool.eq_iff_iff]
 simp only [Bool.or_eq_true, Bool.and_eq_true, decide_eq_true_eq]
 constructor
 ·rintro (((h | h) | h) | h)
  ·exact .inl (.inl (.inr h))
  ·exact .inl (.inl (.inl h))
  ·exact .inr h
  ·exact .inl (.inr h)
 ·rintro (((h | h) | h) | h)
  ·exact .inl (.inl (.inr h))
  ·exact .inl (.inl (.inl h))
  ·exact .inr h
  ·exact .inl (.inr h)
theorem letter_eq (c : UInt8) : Z64 (IntKind.wrap .i32 ((c.toNat : Nat) : Int)) = some (isW c) := by rw [wrap32]; rfl
def wordN (l : Bs) : Nat := (l.takeWhile isW).length
theorem wordN_le (l : Bs) : wordN l ≤ l.length := by
 unfold wordN
 induction l with
 | nil => simp
 | cons a r ih => rw [List.takeWhile_cons]; split <;> simp <;> omega
theorem wordN_cons (c : UInt8) (r : Bs) : wordN (c :: r) = bif isW c then 1 + wordN r else 0 := by
 unfold wordN; rw [List.takeWhile_cons]; cases isW c <;> simp <;> omega
theorem span_aux (s : Bs) (hs : s.length ≤ 1048576) : ∀ (n i : Nat), i ≤ s.length → s.length - i < n → Z68_l5 s Z64 n (i : Int) = some (((i + wordN (s.drop i) : Nat)) : Int)
 | 0, _, _, h => by omega
 | n + 1, i, hi, hn => by
  rw [Z68_l5]
  by_cases hlt : i < s.length
  ·have hd : decide ((i : Int) < ((s.length : Nat) : Int)) = true := decide_eq_true (by omega)
   obtain ⟨c, hc⟩ : ∃ c, s[i]? = some c := ⟨s[i], List.getElem?_eq_getElem hlt⟩
   have one : addC (i : Int) 1 = some (((i + 1 : Nat)) : Int) := by rw [addC_ok (by omega)]; rfl
   have ih := span_aux s hs n (i + 1) (by omega) (by omega)
   rw [hd, idxC_nat, hc, one, drop_cons hc, wordN_cons]
   simp only [guardO, if_true, Option.bind_some, letter_eq, Bool.true_and]
   cases isW c
   ·simp [Z68_j2]
   ·simp only [cond_true]
    rw [ih]; exact some_nat (by omega)
  ·rw [show decide ((i : Int) < ((s.length : Nat) : Int)) = false from decide_eq_false (by omega), List.drop_eq_nil_of_le (by omega)]
   simp [guardO, Z68_j2, wordN]
theorem span_eq {s : Bs} (hs : s.length ≤ 1048576) {i : Nat} (hi : i ≤ s.length) : Z68 s (i : Int) Z64 = some (((i + wordN (s.drop i) : Nat)) : Int) := by
 unfold Z68; exact span_aux s hs F0 i hi (by rw [F0_eq]; omega)
def litN : Bool → Bs → Option Nat
 | _, [] => none
 | true, _ :: r => (litN false r).map (· + 1)
 | false, c :: r => bif decide (((c.toNat : Nat) : Int) = 34) then some 1 else (litN (decide (((c.toNat : Nat) : Int) = 92)) r).map (· + 1)
theorem litN_le : ∀ (b : Bool) (l : Bs) (k : Nat), litN b l = some k → 1 ≤ k ∧ k ≤ l.length
 | _, [], _, h => by cases h
 | true, _ :: r, k, h => by
  rw [litN] at h
  obtain ⟨m, h1, rfl⟩ := Option.map_eq_some_iff.1 h
  have := litN_le false r m h1
  simp; omega
 | false, c :: r, k, h => by
  rw [litN] at h
  cases hc : decide (((c.toNat : Nat) : Int) = 34)
  ·rw [hc] at h
   obtain ⟨m, h1, rfl⟩ := Option.map_eq_some_iff.1 h
   have := litN_le _ r m h1
   simp; omega
  ·rw [hc] at h
   simp only [cond_true, Option.some.injEq] at h
   subst h; simp
def litR (s : Bs) (i : Nat) (b : Bool) : Int := match litN b (s.drop i) with | some k => ((i + k : Nat) : Int) | none => -1
theorem lit_aux (s : Bs) (hs : s.length ≤ 1048576) : ∀ (n i : Nat) (sk : Bool), i ≤ s.length → s.length - i < n → ∃ r, token_litSpan s n (i : Int) sk = some r ∧ ((∃ j : Nat, r.1 = (j : Int) ∧ j < s.length ∧ litR s i sk = ((j + 1 : Nat) : Int)) ∨ (r.1 = ((s.length : Nat) : Int) ∧ litR s i sk = -1))
 | 0, _, _, _, h => by omega
 | n + 1, i, sk, hi, hn => by
  rw [token_litSpan]
  by_cases hlt : i < s.length
  ·have hd : decide ((i : Int) < ((s.length : Nat) : Int)) = true := decide_eq_true (by omega)
   obtain ⟨c, hc⟩ : ∃ c, s[i]? = some c := ⟨s[i], List.getElem?_eq_getElem hlt⟩
   have one : addC (i : Int) 1 = some (((i + 1 : Nat)) : Int) := by rw [addC_ok (by omega)]; rfl
   have ih := fun sk => lit_aux s hs n (i + 1) sk (by omega) (by omega)
   rw [hd, idxC_nat, hc, one]
   simp only [cond_true, Option.bind_some, wrap32]
   have go : ∀ sk' : Bool, litN sk (s.drop i) = (litN sk' (s.drop (i + 1))).map (· + 1) → litR s i sk = litR s (i + 1) sk' := fun sk' h => by
    unfold litR
    rw [h]
    cases litN sk' (s.drop (i + 1)) with
    | none => rfl
    | some k => simp only [Option.map_some]; exact congrArg _ (by omega)
   cases sk with
   | true =>
    simp only [token_litStep, cond_true]
    obtain ⟨r, h1, h2⟩ := ih false
    rw [go false (by rw [drop_cons hc, litN])]
    exact ⟨r, h1, h2⟩
   | false =>
    simp only [token_litStep, cond_false]
    cases h34 : decide (((c.toNat : Nat) : Int) = 34)
    ·simp only [Bool.not_false, cond_true]
     obtain ⟨r, h1, h2⟩ := ih (decide (((c.toNat : Nat) : Int) = 92))
     rw [go _ (by rw [drop_cons hc, litN, h34]; rfl)]
     exact ⟨r, h1, h2⟩
    ·simp only [Bool.not_true, cond_false]
     refine ⟨_, rfl, .inl ⟨i, rfl, hlt, ?_⟩⟩
     unfold litR
     rw [drop_cons hc, litN, h34]; rfl
  ·rw [show decide ((i : Int) < ((s.length : Nat) : Int)) = false from decide_eq_false (by omega)]
   refine ⟨_, rfl, .inr ⟨?_, ?_⟩⟩
   ·simp only; omega
   ·unfold litR; rw [List.drop_eq_nil_of_le (by omega)]; cases sk <;> rfl
theorem literal_eq {s : Bs} (hs : s.length ≤ 1048576) {i : Nat} (hi : i < s.length) : Z65 s (i : Int) = some (litR s (i + 1) false) := by
 unfold Z65
 have one : addC (i : Int) 1 = some (((i + 1 : Nat)) : Int) := by rw [addC_ok (by omega)]; rfl
 obtain ⟨r, h1, h2⟩ := lit_aux s hs F0 (i + 1) false (by omega) (by rw [F0_eq]; omega)
 rw [one, Option.bind_some, h1, Option.bind_some]
 rcases h2 with ⟨j, h2, h3, h4⟩ | ⟨h2, h4⟩
 ·rw [h2, h4, show decide (((s.length : Nat) : Int) ≤ (j : Int)) = false from decide_eq_false (by omega), cond_false, addC_ok (by omega)]; rfl
 ·rw [h2, h4, show decide (((s.length : Nat) : Int) ≤ ((s.length : Nat) : Int)) = true from decide_eq_true (by omega), cond_true]
end Go.Proofs

namespace Go.Proofs
open Go Go.Ab
def lim63 : Nat := 9223372036854775808
def stepF (a : Nat) (c : UInt8) : Nat := a * 10 + (c.toNat - 48)
def valF (a : Nat) (l : Bs) : Nat := l.foldl stepF a
theorem valF_cons (a : Nat) (c : UInt8) (r : Bs) : valF a (c :: r) = valF (a * 10 + (c.toNat - 48)) r := by
 unfold valF
 rw [List.foldl_cons]
 unfold stepF
 exact Eq.refl _
theorem valF_ge : ∀ (l : Bs) (a : Nat), a ≤ valF a l
 | [], a => Nat.le_refl _
 | c :: r, a => by rw [valF_cons]; have := valF_ge r (a * 10 + (c.toNat - 48)); omega
theorem isD_nat {c : UInt8} (h : isD c = true) : 48 ≤ c.toNat ∧ c.toNat ≤ 57 := by
 unfold isD at h; simp only [Bool.and_eq_true, decide_eq_true_eq] at h; omega
theorem parse_val : ∀ (t : Bs) (a : Nat), t.all isD = true → a < 18446744073709551616 → (Lib.parseUint10 a t = .ok (valF a t) ∧ valF a t < 18446744073709551616) ∨ (Lib.parseUint10 a t = .range ∧ 18446744073709551616 ≤ valF a t)
 | [], a, _, h => .inl ⟨rfl, h⟩
 | c :: r, a, hd, h => by
  simp only [List.all_cons, Bool.and_eq_true] at hd
  have hc := isD_nat hd.1
  have hg := valF_ge r (a * 10 + (c.toNat - 48))
  rw [Lib.parseUint10, if_pos hc, valF_cons]
  by_cases h1 : 1844674407370955162 ≤ a
  ·right; rw [if_pos h1]; exact ⟨rfl, by omega⟩
  ·rw [if_neg h1]
   by_cases h2 : 18446744073709551616 ≤ a * 10 + (c.toNat - 48)
   ·right; rw [if_pos h2]; exact ⟨rfl, by omega⟩
   ·rw [if_neg h2]; exact parse_val r _ hd.2 (by omega)
def negB (s : Bs) : Bool := s.head? == some 45
def magB (s : Bs) : Bs := bif negB s then s.tail else s
def numE (s : Bs) : Int := bif (magB s).isEmpty || ((magB s).head? == some 48 && (decide (1 < (magB s).length) || negB s)) then 3 else bif !(magB s).all isD then 3 else bif decide ((bif negB s then lim63 else lim63 - 1) < valF 0 (magB s)) then 4 else 0
theorem trim_eq (s : Bs) : Z56_q s [45] = some (magB s) := by
 unfold Z56_q Z1_q Z0_q magB negB
 cases s with
 | nil => rfl
 | cons c r =>
  have h1 : decide ((([45] : Bs).length : Int) ≤ (((c :: r : Bs).length : Nat) : Int)) = true := decide_eq_true (by simp only [List.length_cons, List.length_nil]; omega)
  simp only [Ab.on, h1, cond_true, Bool.true_and, List.head?_cons, List.tail_cons]
  have h2 : List.take ([45] : Bs).length (c :: r) = [c] := rfl
  rw [h2]
  by_cases h : c = 45
  ·subst h
   rw [show (([45] : Bs) == [45]) = true from rfl, show (some (45 : UInt8) == some 45) = true from rfl]
   simp only [cond_true]
   rw [show (some ((([45] : Bs).length : Nat) : Int)) = some (((1 : Nat) : Int)) from rfl, cut_from (by simp)]; rfl
  ·have h3 : (([c] : Bs) == [45]) = false := by simpa using h
   have h4 : (some c == some 45) = false := by simpa using h
   rw [h3, h4]; rfl
theorem tdig_eq : ∀ l : Bs, Z58_q19 l = bif l.all isD then Sum.inl () else Sum.inr (0, 3)
 | [] => rfl
 | c :: r => by
  rw [Z58_q19, tdig_eq r]
  simp only [Ab.on, List.all_cons]
  unfold isD
  by_cases h1 : ((c.toNat : Nat) : Int) < 48
  ·rw [show decide (((c.toNat : Nat) : Int) < 48) = true from decide_eq_true h1, show decide ((48 : Int) ≤ ((c.toNat : Nat) : Int)) = false from decide_eq_false (by omega)]; rfl
  ·rw [show decide (((c.toNat : Nat) : Int) < 48) = false from decide_eq_false h1, show decide ((48 : Int) ≤ ((c.toNat : Nat) : Int)) = true from decide_eq_true (by omega)]
   by_cases h2 : (57 : Int) < ((c.toNat : Nat) : Int)
   ·rw [show decide (((c.toNat : Nat) : Int) ≤ 57) = false from decide_eq_false (by omega)]; simp [h2]
   ·rw [show decide (((c.toNat : Nat) : Int) ≤ 57) = true from decide_eq_true (by omega)]; simp [h2]
theorem mag_cases (s : Bs) : (negB s = true ∧ ∃ r, s = 45 :: r ∧ magB s = r) ∨ (negB s = false ∧ magB s = s) := by
 unfold magB negB
 cases s with
 | nil => exact .inr ⟨rfl, rfl⟩
 | cons c r =>
  by_cases h : c = 45
  ·subst h; exact .inl ⟨rfl, r, rfl, rfl⟩
  ·have h4 : (some c == some 45) = false := by simpa using h
   right; simp only [List.head?_cons, h4]; exact ⟨trivial, rfl⟩
theorem atoi_num {s : Bs} (hl : s.length ≤ 1048577) (hne : magB s ≠ []) (hd : (magB s).all isD = true) : ∃ v, Z45_q s = some (v, decide ((bif negB s then lim63 else lim63 - 1) < valF 0 (magB s))) := by
 unfold Z45_q Z45 atoiC
 rw [if_pos (Nat.le_trans hl (by decide))]
 rcases mag_cases s with ⟨hn, r, rfl, hm⟩ | ⟨hn, hm⟩
 ·rw [hm] at hne hd ⊢
  rw [hn]
  have e : Lib.atoiAll (45 :: r) = (match Lib.parseUint10 0 r with | .syntax => .syntax | .range => .range | .ok u => if ¬ True ∧ 9223372036854775808 ≤ u then .range else if True ∧ 9223372036854775808 < u then .range else .ok (if True then -(u : Int) else u)) := by
   unfold Lib.atoiAll Lib.parseMag
   dsimp only
   rw [if_pos (show (45 : UInt8).toNat = 43 ∨ (45 : UInt8).toNat = 45 from .inr rfl), if_neg hne]
   simp only [show ((45 : UInt8).toNat = 45) = True from eq_true rfl]
   cases Lib.parseUint10 0 r <;> simp
  rw [e]
  rcases parse_val r 0 hd (by decide) with ⟨h1, h2⟩ | ⟨h1, h2⟩
  ·rw [h1]
   by_cases h3 : 9223372036854775808 < valF 0 r
   ·exact ⟨Lib.atoiSat (45 :: r), by simp only [not_true_eq_false, false_and, if_false, true_and, h3, if_true, cond_true]; rw [decide_eq_true (show lim63 < valF 0 r from h3)]⟩
   ·exact ⟨_, by simp only [not_true_eq_false, false_and, if_false, true_and, h3, if_true, cond_true]; rw [decide_eq_false (show ¬ lim63 < valF 0 r from h3)]⟩
  ·rw [h1]
   exact ⟨_, by simp only [cond_true]; rw [decide_eq_true (show lim63 < valF 0 r by unfold lim63; omega)]⟩
 ·rw [hm] at hne hd ⊢
  rw [hn]
  cases s with
  | nil => exact absurd rfl hne
  | cons c r =>
   simp only [List.all_cons, Bool.and_eq_true] at hd
   have hc := isD_nat hd.1
   have hd' : (c :: r).all isD = true := by simp [hd.1, hd.2]
   have e : Lib.atoiAll (c :: r) = (match Lib.parseUint10 0 (c :: r) with | .syntax => .syntax | .range => .range | .ok u => if ¬ False ∧ 9223372036854775808 ≤ u then .range else if False ∧ 9223372036854775808 < u then .range else .ok (if False then -(u : Int) else u)) := by
    unfold Lib.atoiAll Lib.parseMag
    have h45 : (c.toNat = 45) = False := eq_false (by omega)
    dsimp only
    rw [if_neg (show ¬ (c.toNat = 43 ∨ c.toNat = 45) by omega), if_neg hne]
    simp only [h45]
    cases Lib.parseUint10 0 (c :: r) <;> simp
   rw [e]
   rcases parse_val (c :: r) 0 hd' (by decide) with ⟨h1, h2⟩ | ⟨h1, h2⟩
   ·rw [h1]
    by_cases h3 : 9223372036854775808 ≤ valF 0 (c :: r)
    ·exact ⟨_, by simp only [not_false_eq_true, true_and, h3, if_true, cond_false]; rw [decide_eq_true (show lim63 - 1 < valF 0 (c :: r) by unfold lim63; omega)]⟩
    ·exact ⟨_, by simp only [not_false_eq_true, true_and, h3, if_false, false_and, cond_false]; rw [decide_eq_false (show ¬ lim63 - 1 < valF 0 (c :: r) by unfold lim63; omega)]⟩
   ·rw [h1]
    exact ⟨_, by simp only [cond_false]; rw [decide_eq_true (show lim63 - 1 < valF 0 (c :: r) by unfold lim63; omega)]⟩
theorem tnum_eq {s : Bs} (hl : s.length ≤ 1048577) : ∃ v, Z58 s = some (v, numE s) := by
 rw [Z58_eq]
 unfold Z58_q
 rw [trim_eq, Option.bind_some, tdig_eq]
 unfold numE
 cases hm : magB s with
 | nil => exact ⟨0, rfl⟩
 | cons c r =>
  rw [show ((c :: r : Bs) == []) = false from rfl, show ((c :: r : Bs)[0]?) = some c from rfl]
  simp only [guardO, Bool.not_false, if_true, Option.bind_some, Bool.false_or, List.isEmpty_cons, List.head?_cons]
  have h48 : decide (((c.toNat : Nat) : Int) = 48) = (some c == some 48) := by
   rw [Bool.eq_iff_iff, decide_eq_true_eq]
   simp only [Option.some_beq_some, beq_iff_eq]
   rw [← UInt8.toNat_inj]
   show _ ↔ c.toNat = 48
   omega
  have hlen : (decide ((1 : Int) < (((c :: r : Bs).length : Nat) : Int)) || decide ((1 : Int) < ((s.length : Nat) : Int))) = (decide (1 < (c :: r : Bs).length) || negB s) := by
   rcases mag_cases s with ⟨hn, r', rfl, hm'⟩ | ⟨hn, hm'⟩
   ·rw [hn, Bool.or_true]
    rw [hm'] at hm; subst hm
    rw [show decide ((1 : Int) < (((45 :: c :: r : Bs).length : Nat) : Int)) = true from decide_eq_true (by simp only [List.length_cons]; omega), Bool.or_true]
   ·rw [hn, Bool.or_false, ← hm', hm, Bool.or_self, Bool.eq_iff_iff, decide_eq_true_eq, decide_eq_true_eq]; omega
  rw [h48, hlen]
  cases hx : (some c == some 48 && (decide (1 < (c :: r : Bs).length) || negB s))
  ·simp only [cond_false]
   cases hd : (c :: r : Bs).all isD
   ·exact ⟨0, rfl⟩
   ·simp only [Ab.on, cond_true, Bool.not_true, cond_false]
    obtain ⟨v, e⟩ := atoi_num hl (by rw [hm]; simp) (by rw [hm]; exact hd)
    rw [hm] at e
    rw [e, Option.bind_some]
    cases decide ((bif negB s then lim63 else lim63 - 1) < valF 0 (c :: r))
    ·exact ⟨v, rfl⟩
    ·exact ⟨0, rfl⟩
  ·exact ⟨0, rfl⟩
end Go.Proofs

namespace Go.Proofs
open Go Go.Ab
def hexS : Bs := [48, 49, 50, 51, 52, 53, 54, 55, 56, 57, 97, 98, 99, 100, 101, 102]
def hvV (n : Int) : Int := (Z23 n).getD (-2)
def ixV (n : Int) : Int := Lib.indexByte hexS (IntKind.wrap .u8 ((BitVec.ofInt (IntKind.bits .u8) n ||| BitVec.ofInt (IntKind.bits .u8) (32 : Int)).toNat : Int)).toNat.toUInt8
def badV (n : Int) : Bool := ((decide (ixV n < (0 : Int))) || (decide (n < (48 : Int)))) || ((decide ((57 : Int) < n)) && (decide (n < (65 : Int))))
theorem hex_tab : (List.range 256).all (fun n => (Z23 (n : Int) == some (hvV (n : Int))) && ((badV (n : Int) == decide (hvV (n : Int) < 0)) && ((decide (hvV (n : Int) < 0) || decide (ixV (n : Int) = hvV (n : Int))) && (decide (-1 ≤ hvV (n : Int)) && decide (hvV (n : Int) ≤ 15))))) = true := by
 set_option maxRecDepth 100000 in kernel_rfl
theorem hex_at (c : UInt8) : Z23 ((c.toNat : Nat) : Int) = some (hvV ((c.toNat : Nat) : Int)) ∧ badV ((c.toNat : Nat) : Int) = decide (hvV ((c.toNat : Nat) : Int) < 0) ∧ (hvV ((c.toNat : Nat) : Int) < 0 ∨ ixV ((c.toNat : Nat) : Int) = hvV ((c.toNat : Nat) : Int)) ∧ -1 ≤ hvV ((c.toNat : Nat) : Int) ∧ hvV ((c.toNat : Nat) : Int) ≤ 15 := by
 have h := List.all_eq_true.1 hex_tab c.toNat (List.mem_range.2 c.toNat_lt)
 simp only [Bool.and_eq_true, Bool.or_eq_true, decide_eq_true_eq, beq_iff_eq] at h
 exact ⟨h.1, h.2.1, h.2.2.1, h.2.2.2.1, h.2.2.2.2⟩
def plV (n : Int) : Int × Bool := (Z61 n).getD (0, false)
theorem pl_tab : (List.range 256).all (fun n => (Z61 (n : Int) == some (plV (n : Int))) && (decide (0 ≤ (plV (n : Int)).1) && decide ((plV (n : Int)).1 < 256))) = true := by
 set_option maxRecDepth 100000 in kernel_rfl
theorem pl_at (c : UInt8) : Z61 ((c.toNat : Nat) : Int) = some (plV ((c.toNat : Nat) : Int)) ∧ 0 ≤ (plV ((c.toNat : Nat) : Int)).1 ∧ (plV ((c.toNat : Nat) : Int)).1 < 256 := by
 have h := List.all_eq_true.1 pl_tab c.toNat (List.mem_range.2 c.toNat_lt)
 simp only [Bool.and_eq_true, decide_eq_true_eq, beq_iff_eq] at h
 exact ⟨h.1, h.2.1, h.2.2⟩
theorem simple_plain (n : Int) : Z22 n = Z61 n := rfl
def Rp (B : Strings_Builder) (l : Bs) : Prop := (l = [] ∧ B.Fbuf = ⟨true, []⟩) ∨ (l ≠ [] ∧ B.Fbuf = ⟨false, l.map fun b => (b.toNat : Int)⟩)
theorem Rp.buf {B : Strings_Builder} {l : Bs} (h : Rp B l) : B.Fbuf.l = l.map fun b => (b.toNat : Int) := by
 rcases h with ⟨rfl, h⟩ | ⟨_, h⟩ <;> rw [h]; rfl
theorem byte_cast {n : Int} (h0 : 0 ≤ n) (h1 : n < 256) : ((UInt8.ofNat n.toNat).toNat : Int) = n := by
 rw [UInt8.toNat_ofNat', Nat.mod_eq_of_lt (by omega)]; omega
theorem Rp.wb {B : Strings_Builder} {l : Bs} (h : Rp B l) {n : Int} (h0 : 0 ≤ n) (h1 : n < 256) (hl : l.length ≤ 1048576) : ∃ B', Z47 B n = some (false, B') ∧ Rp B' (l ++ [UInt8.ofNat n.toNat]) := by
 refine ⟨⟨true, ⟨false, (l ++ [UInt8.ofNat n.toNat]).map fun b => (b.toNat : Int)⟩⟩, ?_, .inr ⟨by simp, rfl⟩⟩
 have hb := h.buf
 have hlen : B.Fbuf.l.length = l.length := by rw [hb, List.length_map]
 unfold Z47 Z49 appC
 simp only [Option.bind_some]
 rw [if_pos (by rw [hlen]; simp only [List.length_cons, List.length_nil]; unfold maxN; omega)]
 simp only [Option.bind_some, hb, List.map_append, List.map_cons, List.map_nil, byte_cast h0 h1, List.isEmpty_cons, Bool.and_false]
theorem Rp.str {B : Strings_Builder} {l : Bs} (h : Rp B l) : Z46 B = some l := by
 unfold Z46 bldStr
 rw [if_pos]
 ·refine congrArg some ?_
  unfold bytesC
  rw [h.buf, List.map_map]
  conv => rhs; rw [← List.map_id l]
  refine List.map_congr_left fun b _ => ?_
  simp
 ·refine ⟨?_, ?_⟩
  ·rw [h.buf, List.all_map, List.all_eq_true]
   intro b _
   have := b.toNat_lt
   simp; omega
  ·rcases h with ⟨_, h⟩ | ⟨h2, h⟩
   ·rw [h]; exact .inl ⟨rfl, rfl⟩
   ·rw [h]; exact .inr ⟨rfl, by simpa using h2⟩
theorem cat_one {l : Bs} {n : Int} (hl : l.length ≤ 1048576) : catC l (bytesC (⟨false, [n]⟩ : Sl Int)) = some (l ++ [UInt8.ofNat n.toNat]) := by
 unfold catC bytesC
 rw [if_pos (by simp only [List.map_cons, List.map_nil, List.length_cons, List.length_nil]; unfold maxS; omega)]
 rfl
def hex4 (a b c d : Int) : Int := bif decide (hvV a < 0) || (decide (hvV b < 0) || (decide (hvV c < 0) || decide (hvV d < 0))) then -1 else ((hvV a * 16 + hvV b) * 16 + hvV c) * 16 + hvV d
theorem code_step (s : Bs) (n : Nat) (v : Int) (i : Nat) (c : UInt8) (hc : s[i]? = some c) (h4 : i < 4) (h0 : 0 ≤ v) (h1 : v ≤ 65536) : Z17_l12 s (n + 1) v (i : Int) = bif decide (hvV ((c.toNat : Nat) : Int) < 0) then some (-1) else Z17_l12 s n (v * 16 + hvV ((c.toNat : Nat) : Int)) ((i + 1 : Nat) : Int) := by
 obtain ⟨e1, -, -, e4, e5⟩ := hex_at c
 have m1 : mulC 16 v = some (v * 16) := by unfold mulC; rw [if_pos (by omega), Int.mul_comm]
 have one : addC (i : Int) 1 = some (((i + 1 : Nat)) : Int) := by rw [addC_ok (by omega)]; rfl
 have two : addC (v * 16) (hvV ((c.toNat : Nat) : Int)) = some (v * 16 + hvV ((c.toNat : Nat) : Int)) := addC_ok (by omega)
 rw [Z17_l12, show decide ((i : Int) < 4) = true from decide_eq_true (by omega), idxC_nat, hc, cond_true, Option.bind_some, e1, Option.bind_some]
 rw [m1, Option.bind_some, Option.bind_some, e1, Option.bind_some, two, Option.bind_some, one, Option.bind_some]
theorem code_eq (a b c d : UInt8) : Z17 [a, b, c, d] = some (hex4 (a.toNat : Nat) (b.toNat : Nat) (c.toNat : Nat) (d.toNat : Nat)) := by
 obtain ⟨-, -, -, a4, a5⟩ := hex_at a
 obtain ⟨-, -, -, b4, b5⟩ := hex_at b
 obtain ⟨-, -, -, c4, c5⟩ := hex_at c
 obtain ⟨-, -, -, d4, d5⟩ := hex_at d
 unfold Z17
 rw [show (!decide ((((([a, b, c, d] : Bs).length : Nat)) : Int) = 4)) = false from rfl, cond_false]
 obtain ⟨m, hm⟩ : ∃ m, F0 = m + 1 + 1 + 1 + 1 + 1 := ⟨4611686018427387899, by rw [F0_eq]⟩
 rw [hm]
 unfold hex4
 have s1 := code_step [a, b, c, d] (m + 1 + 1 + 1 + 1) 0 0 a rfl (by omega) (by omega) (by omega)
 rw [show (((0 : Nat) : Int)) = 0 from rfl] at s1
 rw [s1]
 cases ha : decide (hvV ((a.toNat : Nat) : Int) < 0)
 ·have ha := of_decide_eq_false ha
  rw [cond_false, code_step [a, b, c, d] (m + 1 + 1 + 1) _ 1 b rfl (by omega) (by omega) (by omega)]
  cases hb : decide (hvV ((b.toNat : Nat) : Int) < 0)
  ·have hb := of_decide_eq_false hb
   rw [cond_false, code_step [a, b, c, d] (m + 1 + 1) _ 2 c rfl (by omega) (by omega) (by omega)]
   cases hc : decide (hvV ((c.toNat : Nat) : Int) < 0)
   ·have hc := of_decide_eq_false hc
    rw [cond_false, code_step [a, b, c, d] (m + 1) _ 3 d rfl (by omega) (by omega) (by omega)]
    cases hd : decide (hvV ((d.toNat : Nat) : Int) < 0)
    ·rw [cond_false, Z17_l12]
     have e : (0 * 16 + hvV ((a.toNat : Nat) : Int)) = hvV ((a.toNat : Nat) : Int) := by omega
     rw [e]
     rfl
    ·rfl
   ·rfl
  ·rfl
 ·rfl
theorem hexT_step (y : Strings_Builder) (j : Int) (s : Sl Int) (k : Int → Strings_Builder → Option (Bs × Int)) (n : Nat) (v : Int) (i : Nat) (c : UInt8) (hc : s.l[i]? = some ((c.toNat : Nat) : Int)) (h0 : 0 ≤ v) (h1 : v ≤ 65536) : Z60_l81 y j s k (n + 1) v i = bif decide (hvV ((c.toNat : Nat) : Int) < 0) then some ([], 3) else Z60_l81 y j s k n (v * 16 + hvV ((c.toNat : Nat) : Int)) (i + 1) := by
 obtain ⟨-, e2, e3, e4, e5⟩ := hex_at c
 have hi := (List.getElem?_eq_some_iff.1 hc).1
 rw [Z60_l81, show decide (((i : Nat) : Int) < ((s.l.length : Nat) : Int)) = true from decide_eq_true (by omega), hc]
 have ei : ∀ f : Int → Option (Bs × Int), (Z53 ([48, 49, 50, 51, 52, 53, 54, 55, 56, 57, 97, 98, 99, 100, 101, 102] : Bs) (IntKind.wrap .u8 ((BitVec.ofInt (IntKind.bits .u8) ((c.toNat : Nat) : Int) ||| BitVec.ofInt (IntKind.bits .u8) (32 : Int)).toNat : Int))).bind f = f (ixV ((c.toNat : Nat) : Int)) := fun _ => rfl
 simp only [cond_true, Option.bind_some]
 rw [ei]
 rw [show ((((decide (ixV ((c.toNat : Nat) : Int) < (0 : Int))) || (decide (((c.toNat : Nat) : Int) < (48 : Int)))) || ((decide ((57 : Int) < ((c.toNat : Nat) : Int))) && (decide (((c.toNat : Nat) : Int) < (65 : Int)))))) = decide (hvV ((c.toNat : Nat) : Int) < 0) from e2]
 cases hv : decide (hvV ((c.toNat : Nat) : Int) < 0)
 ·have hv := of_decide_eq_false hv
  have e3 : ixV ((c.toNat : Nat) : Int) = hvV ((c.toNat : Nat) : Int) := e3.resolve_left hv
  have m1 : mulC v 16 = some (v * 16) := by unfold mulC; rw [if_pos (by omega)]
  rw [cond_false, cond_false, m1, Option.bind_some, e3, addC_ok (by omega), Option.bind_some]
 ·rfl
theorem hexT_eq (y : Strings_Builder) (j : Int) (a b c d : UInt8) (k : Int → Strings_Builder → Option (Bs × Int)) : Z60_l81 y j (strSl [a, b, c, d]) k ((strSl [a, b, c, d]).l.length + 1) 0 0 = bif decide (hex4 (a.toNat : Nat) (b.toNat : Nat) (c.toNat : Nat) (d.toNat : Nat) < 0) || decide (255 < hex4 (a.toNat : Nat) (b.toNat : Nat) (c.toNat : Nat) (d.toNat : Nat)) then some ([], 3) else (Z47 y (IntKind.wrap .u8 (hex4 (a.toNat : Nat) (b.toNat : Nat) (c.toNat : Nat) (d.toNat : Nat)))).bind fun x73 => (addC j (4 : Int)).bind fun x74 => Z60_j29 k x74 x73.2 := by
 obtain ⟨-, -, -, a4, a5⟩ := hex_at a
 obtain ⟨-, -, -, b4, b5⟩ := hex_at b
 obtain ⟨-, -, -, c4, c5⟩ := hex_at c
 obtain ⟨-, -, -, d4, d5⟩ := hex_at d
 show Z60_l81 y j (strSl [a, b, c, d]) k (0 + 1 + 1 + 1 + 1 + 1) 0 0 = _
 rw [hexT_step y j (strSl [a, b, c, d]) k _ 0 0 a rfl (by omega) (by omega)]
 cases ha : decide (hvV ((a.toNat : Nat) : Int) < 0)
 ·have ha' := of_decide_eq_false ha
  rw [cond_false, hexT_step y j (strSl [a, b, c, d]) k _ _ 1 b rfl (by omega) (by omega)]
  cases hb : decide (hvV ((b.toNat : Nat) : Int) < 0)
  ·have hb' := of_decide_eq_false hb
   rw [cond_false, hexT_step y j (strSl [a, b, c, d]) k _ _ 2 c rfl (by omega) (by omega)]
   cases hc : decide (hvV ((c.toNat : Nat) : Int) < 0)
   ·have hc' := of_decide_eq_false hc
    rw [cond_false, hexT_step y j (strSl [a, b, c, d]) k _ _ 3 d rfl (by omega) (by omega)]
    cases hd : decide (hvV ((d.toNat : Nat) : Int) < 0)
    ·have hd' := of_decide_eq_false hd
     have e : (0 * 16 + hvV ((a.toNat : Nat) : Int)) = hvV ((a.toNat : Nat) : Int) := by omega
     have e4 : hex4 (a.toNat : Nat) (b.toNat : Nat) (c.toNat : Nat) (d.toNat : Nat) = ((hvV ((a.toNat : Nat) : Int) * 16 + hvV ((b.toNat : Nat) : Int)) * 16 + hvV ((c.toNat : Nat) : Int)) * 16 + hvV ((d.toNat : Nat) : Int) := by
      unfold hex4; rw [ha, hb, hc, hd]; rfl
     rw [cond_false, Z60_l81, e4, e, show decide (((((hvV ((a.toNat : Nat) : Int) * 16 + hvV ((b.toNat : Nat) : Int)) * 16 + hvV ((c.toNat : Nat) : Int)) * 16 + hvV ((d.toNat : Nat) : Int)) < 0)) = false from decide_eq_false (by omega)]
     rfl
    ·have e4 : hex4 (a.toNat : Nat) (b.toNat : Nat) (c.toNat : Nat) (d.toNat : Nat) = -1 := by unfold hex4; rw [hd]; simp
     rw [e4]; rfl
   ·have e4 : hex4 (a.toNat : Nat) (b.toNat : Nat) (c.toNat : Nat) (d.toNat : Nat) = -1 := by unfold hex4; rw [hc]; simp
    rw [e4]; rfl
  ·have e4 : hex4 (a.toNat : Nat) (b.toNat : Nat) (c.toNat : Nat) (d.toNat : Nat) = -1 := by unfold hex4; rw [hb]; simp
   rw [e4]; rfl
 ·have e4 : hex4 (a.toNat : Nat) (b.toNat : Nat) (c.toNat : Nat) (d.toNat : Nat) = -1 := by unfold hex4; rw [ha]; simp
  rw [e4]; rfl
end Go.Proofs

namespace Go.Proofs
open Go Go.Ab
theorem add_nat {i k : Nat} (h : i ≤ 2097152) (hk : k ≤ 2097152) : addC (i : Int) (k : Int) = some ((i + k : Nat) : Int) := by rw [addC_ok (by omega)]; exact some_nat rfl
theorem j29_eq (k : Int → Strings_Builder → Option (Bs × Int)) {i : Nat} (h : i ≤ 2097152) (B : Strings_Builder) : Z60_j29 k (i : Int) B = k ((i + 1 : Nat) : Int) B := by
 unfold Z60_j29
 rw [show (1 : Int) = ((1 : Nat) : Int) from rfl, add_nat h (by omega), Option.bind_some]
theorem wrap8_byte (c : UInt8) : UInt8.ofNat (((c.toNat : Nat) : Int)).toNat = c := by
 rw [Int.toNat_natCast]; exact UInt8.ofNat_toNat
theorem wrap8_small {n : Int} (h0 : 0 ≤ n) (h1 : n < 256) : IntKind.wrap .u8 n = n := by
 simp [IntKind.wrap, IntKind.bits, IntKind.signed]; omega
theorem four {s : Bs} {i : Nat} (h : i + 4 ≤ s.length) : ∃ a b c d, (s.drop i).take 4 = [a, b, c, d] := by
 have h1 : ∀ k, k < 4 → ∃ c, s[i + k]? = some c := fun k hk => ⟨_, List.getElem?_eq_getElem (by omega)⟩
 obtain ⟨a, ha⟩ := h1 0 (by omega)
 obtain ⟨b, hb⟩ := h1 1 (by omega)
 obtain ⟨c, hc⟩ := h1 2 (by omega)
 obtain ⟨d, hd⟩ := h1 3 (by omega)
 exact ⟨a, b, c, d, by rw [drop_cons (show s[i]? = some a from ha), drop_cons hb, drop_cons hc, drop_cons hd]; rfl⟩
def badC (c : UInt8) : Bool := ((decide (((c.toNat : Nat) : Int) < (32 : Int))) || (decide ((126 : Int) < ((c.toNat : Nat) : Int)))) || (decide (((c.toNat : Nat) : Int) = (34 : Int)))
theorem tU_stop (x : Bs) (n i : Nat) (B : Strings_Builder) (h : x.length ≤ i) : Z60_l22 x (n + 1) (i : Int) B = Z60_j17 B := by
 rw [Z60_l22, show decide ((i : Int) < ((x.length : Nat) : Int)) = false from decide_eq_false (by omega), cond_false]
theorem rU_stop (x : Bs) (n i : Nat) (o : Bs) (h : x.length ≤ i) : Z16_l19 x (n + 1) o (i : Int) = some (o, 0) := by
 rw [Z16_l19, show decide ((i : Int) < ((x.length : Nat) : Int)) = false from decide_eq_false (by omega), cond_false]; rfl
theorem tU_bad {x : Bs} (n : Nat) {i : Nat} (B : Strings_Builder) {c : UInt8} (hc : x[i]? = some c) (h : badC c = true) : Z60_l22 x (n + 1) (i : Int) B = some ([], 3) := by
 have hi := (List.getElem?_eq_some_iff.1 hc).1
 unfold badC at h
 rw [Z60_l22, show decide ((i : Int) < ((x.length : Nat) : Int)) = true from decide_eq_true (by omega), cond_true, idxC_nat, hc, Option.bind_some, h, cond_true]
theorem rU_bad {x : Bs} (n : Nat) {i : Nat} (o : Bs) {c : UInt8} (hc : x[i]? = some c) (h : badC c = true) : Z16_l19 x (n + 1) o (i : Int) = some ([], 3) := by
 have hi := (List.getElem?_eq_some_iff.1 hc).1
 unfold badC at h
 rw [Z16_l19, show decide ((i : Int) < ((x.length : Nat) : Int)) = true from decide_eq_true (by omega), cond_true, idxC_nat, hc, Option.bind_some, h, cond_true]
theorem tU_char {x : Bs} (n : Nat) {i : Nat} {B B' : Strings_Builder} {c : UInt8} (hi2 : i ≤ 2097152) (hc : x[i]? = some c) (h : badC c = false) (h92 : decide (((c.toNat : Nat) : Int) = 92) = false) (hw : Z47 B ((c.toNat : Nat) : Int) = some (false, B')) : Z60_l22 x (n + 1) (i : Int) B = Z60_l22 x n ((i + 1 : Nat) : Int) B' := by
 have hi := (List.getElem?_eq_some_iff.1 hc).1
 unfold badC at h
 rw [Z60_l22, show decide ((i : Int) < ((x.length : Nat) : Int)) = true from decide_eq_true (by omega), cond_true, idxC_nat, hc, Option.bind_some, h, cond_false, h92, Bool.not_false, cond_true, hw, Option.bind_some, j29_eq _ hi2]
theorem rU_char {x : Bs} (n : Nat) {i : Nat} {o : Bs} {c : UInt8} (hi2 : i ≤ 1048576) (ho : o.length ≤ 1048576) (hc : x[i]? = some c) (h : badC c = false) (h92 : decide (((c.toNat : Nat) : Int) = 92) = false) : Z16_l19 x (n + 1) o (i : Int) = Z16_l19 x n (o ++ [c]) ((i + 1 : Nat) : Int) := by
 have hi := (List.getElem?_eq_some_iff.1 hc).1
 unfold badC at h
 have one : addC (i : Int) 1 = some (((i + 1 : Nat)) : Int) := add_nat (k := 1) (by omega) (by omega)
 rw [Z16_l19, show decide ((i : Int) < ((x.length : Nat) : Int)) = true from decide_eq_true (by omega), cond_true, idxC_nat, hc, Option.bind_some, h, cond_false, h92, Bool.not_false, cond_true, cat_one ho, Option.bind_some, one, Option.bind_some, wrap8_byte]
theorem tU_end {x : Bs} (n : Nat) {i : Nat} (B : Strings_Builder) {c : UInt8} (hi2 : i ≤ 1048576) (hc : x[i]? = some c) (h : badC c = false) (h92 : decide (((c.toNat : Nat) : Int) = 92) = true) (hn : x.length ≤ i + 1) : Z60_l22 x (n + 1) (i : Int) B = some ([], 3) := by
 have hi := (List.getElem?_eq_some_iff.1 hc).1
 unfold badC at h
 have one : addC (i : Int) 1 = some (((i + 1 : Nat)) : Int) := add_nat (k := 1) (by omega) (by omega)
 rw [Z60_l22, show decide ((i : Int) < ((x.length : Nat) : Int)) = true from decide_eq_true (by omega), cond_true, idxC_nat, hc, Option.bind_some, h, cond_false, h92, Bool.not_true, cond_false, one, Option.bind_some, show decide (((i + 1 : Nat) : Int) = ((x.length : Nat) : Int)) = true from decide_eq_true (by omega), cond_true]
theorem rU_end {x : Bs} (n : Nat) {i : Nat} (o : Bs) {c : UInt8} (hi2 : i ≤ 1048576) (hc : x[i]? = some c) (h : badC c = false) (h92 : decide (((c.toNat : Nat) : Int) = 92) = true) (hn : x.length ≤ i + 1) : Z16_l19 x (n + 1) o (i : Int) = some ([], 3) := by
 have hi := (List.getElem?_eq_some_iff.1 hc).1
 unfold badC at h
 have one : addC (i : Int) 1 = some (((i + 1 : Nat)) : Int) := add_nat (k := 1) (by omega) (by omega)
 rw [Z16_l19, show decide ((i : Int) < ((x.length : Nat) : Int)) = true from decide_eq_true (by omega), cond_true, idxC_nat, hc, Option.bind_some, h, cond_false, h92, Bool.not_true, cond_false, one, Option.bind_some, show decide (((x.length : Nat) : Int) ≤ ((i + 1 : Nat) : Int)) = true from decide_eq_true (by omega), cond_true]
theorem tU_esc {x : Bs} (n : Nat) {i : Nat} (B : Strings_Builder) {c d : UInt8} (hi2 : i ≤ 1048576) (hc : x[i]? = some c) (h : badC c = false) (h92 : decide (((c.toNat : Nat) : Int) = 92) = true) (hd : x[i + 1]? = some d) :
  Z60_l22 x (n + 1) (i : Int) B = bif (plV ((d.toNat : Nat) : Int)).2 then ((Z47 B (plV ((d.toNat : Nat) : Int)).1).bind fun x58 => Z60_j29 (Z60_l22 x n) ((i + 1 : Nat) : Int) x58.2) else bif (!decide (((d.toNat : Nat) : Int) = (117 : Int))) || (decide (x.length ≤ i + 5)) then (some (([] : Bs), (3 : Int))) else ((cutC x (some ((i + 2 : Nat) : Int)) (some ((i + 6 : Nat) : Int))).bind fun x78 => (bytesOf x78).bind fun x79 => Z60_l81 B ((i + 1 : Nat) : Int) x79 (Z60_l22 x n) (x79.l.length + 1) (0 : Int) 0) := by
 have hi := (List.getElem?_eq_some_iff.1 hc).1
 have hi1 := (List.getElem?_eq_some_iff.1 hd).1
 unfold badC at h
 have one : addC (i : Int) 1 = some (((i + 1 : Nat)) : Int) := add_nat (k := 1) (by omega) (by omega)
 have a1 : addC ((i + 1 : Nat) : Int) 1 = some (((i + 2 : Nat)) : Int) := add_nat (i := i + 1) (k := 1) (by omega) (by omega)
 have a4 : addC ((i + 1 : Nat) : Int) 4 = some (((i + 5 : Nat)) : Int) := add_nat (i := i + 1) (k := 4) (by omega) (by omega)
 have a5 : addC ((i + 1 : Nat) : Int) 5 = some (((i + 6 : Nat)) : Int) := add_nat (i := i + 1) (k := 5) (by omega) (by omega)
 rw [Z60_l22, show decide ((i : Int) < ((x.length : Nat) : Int)) = true from decide_eq_true (by omega), cond_true, idxC_nat, hc, Option.bind_some, h, cond_false, h92, Bool.not_true, cond_false, one, Option.bind_some, show decide (((i + 1 : Nat) : Int) = ((x.length : Nat) : Int)) = false from decide_eq_false (by omega), cond_false, idxC_nat, hd, Option.bind_some, (pl_at d).1, Option.bind_some]
 cases (plV ((d.toNat : Nat) : Int)).2
 ·rw [cond_false, cond_false, Option.bind_some, a4, a1, a5]
  cases decide (((d.toNat : Nat) : Int) = (117 : Int))
  ·rfl
  ·unfold guardO
   rw [Bool.not_true, Bool.not_false, if_pos rfl, Option.bind_some, Bool.false_or, Bool.false_or, Option.bind_some, Option.bind_some, show decide (((x.length : Nat) : Int) ≤ ((i + 5 : Nat) : Int)) = decide (x.length ≤ i + 5) from decide_eq_decide.2 (by omega)]
 ·rfl
theorem rU_esc {x : Bs} (n : Nat) {i : Nat} {o : Bs} {c d : UInt8} (hi2 : i ≤ 1048576) (ho : o.length ≤ 1048576) (hc : x[i]? = some c) (h : badC c = false) (h92 : decide (((c.toNat : Nat) : Int) = 92) = true) (hd : x[i + 1]? = some d) :
  Z16_l19 x (n + 1) o (i : Int) = bif (plV ((d.toNat : Nat) : Int)).2 then Z16_l19 x n (o ++ [UInt8.ofNat (plV ((d.toNat : Nat) : Int)).1.toNat]) ((i + 2 : Nat) : Int) else bif (!decide (((d.toNat : Nat) : Int) = (117 : Int))) || (decide (x.length ≤ i + 5)) then (some (([] : Bs), (3 : Int))) else ((cutC x (some ((i + 2 : Nat) : Int)) (some ((i + 6 : Nat) : Int))).bind fun x66 => (Z17 x66).bind fun x67 => bif ((decide (x67 < (0 : Int))) || (decide ((255 : Int) < x67))) then (some (([] : Bs), (3 : Int))) else Z16_l19 x n (o ++ [UInt8.ofNat (IntKind.wrap .u8 x67).toNat]) ((i + 6 : Nat) : Int)) := by
 have hi := (List.getElem?_eq_some_iff.1 hc).1
 have hi1 := (List.getElem?_eq_some_iff.1 hd).1
 unfold badC at h
 have one : addC (i : Int) 1 = some (((i + 1 : Nat)) : Int) := add_nat (k := 1) (by omega) (by omega)
 have a2 : addC (i : Int) 2 = some (((i + 2 : Nat)) : Int) := add_nat (k := 2) (by omega) (by omega)
 have a6 : addC (i : Int) 6 = some (((i + 6 : Nat)) : Int) := add_nat (k := 6) (by omega) (by omega)
 rw [Z16_l19, show decide ((i : Int) < ((x.length : Nat) : Int)) = true from decide_eq_true (by omega), cond_true, idxC_nat, hc, Option.bind_some, h, cond_false, h92, Bool.not_true, cond_false, one, Option.bind_some, show decide (((x.length : Nat) : Int) ≤ ((i + 1 : Nat) : Int)) = false from decide_eq_false (by omega), cond_false, Option.bind_some, idxC_nat, hd, Option.bind_some, simple_plain, (pl_at d).1, Option.bind_some]
 cases (plV ((d.toNat : Nat) : Int)).2
 ·rw [cond_false, cond_false, Option.bind_some, idxC_nat, hd, Option.bind_some, a6, a2]
  cases decide (((d.toNat : Nat) : Int) = (117 : Int))
  ·rfl
  ·unfold guardO
   rw [Bool.not_true, Bool.not_false, if_pos rfl, Option.bind_some, Bool.false_or, Bool.false_or, Option.bind_some, Option.bind_some, show decide (((x.length : Nat) : Int) < ((i + 6 : Nat) : Int)) = decide (x.length ≤ i + 5) from decide_eq_decide.2 (by omega)]
   cases decide (x.length ≤ i + 5)
   ·simp only [cond_false, cat_one ho, Option.bind_some]
   ·rfl
 ·rw [cond_true, cond_true, cat_one ho, Option.bind_some, a2, Option.bind_some]
theorem unq_loop (x : Bs) (hx : x.length ≤ 1048576) : ∀ (n i : Nat) (B : Strings_Builder) (o : Bs), Rp B o → o.length ≤ i → i ≤ x.length → x.length - i < n → ∃ r e, Z60_l22 x n (i : Int) B = some (r, e) ∧ Z16_l19 x n o (i : Int) = some (r, e) ∧ r.length ≤ x.length
 | 0, _, _, _, _, _, _, h => by omega
 | n + 1, i, B, o, hB, ho, hi, hn => by
  by_cases hlt : i < x.length
  ·obtain ⟨c, hc⟩ : ∃ c, x[i]? = some c := ⟨x[i], List.getElem?_eq_getElem hlt⟩
   cases hb : badC c
   ·cases h92 : decide (((c.toNat : Nat) : Int) = 92)
    ·obtain ⟨B', hw, hB'⟩ := hB.wb (n := ((c.toNat : Nat) : Int)) (by omega) (by have := c.toNat_lt; omega) (by omega)
     rw [tU_char n (by omega) hc hb h92 hw, rU_char n (by omega) (by omega) hc hb h92]
     rw [wrap8_byte] at hB'
     exact unq_loop x hx n (i + 1) B' _ hB' (by simp; omega) (by omega) (by omega)
    ·by_cases h1 : x.length ≤ i + 1
     ·exact ⟨[], 3, tU_end n B (by omega) hc hb h92 h1, rU_end n o (by omega) hc hb h92 h1, by simp⟩
     ·obtain ⟨d, hd⟩ : ∃ d, x[i + 1]? = some d := ⟨_, List.getElem?_eq_getElem (show i + 1 < x.length by omega)⟩
      rw [tU_esc n B (by omega) hc hb h92 hd, rU_esc n (by omega) (by omega) hc hb h92 hd]
      cases (plV ((d.toNat : Nat) : Int)).2
      ·rw [cond_false, cond_false]
       cases hs : (!decide (((d.toNat : Nat) : Int) = (117 : Int))) || (decide (x.length ≤ i + 5))
       ·have h6 : i + 6 ≤ x.length := by
         simp only [Bool.or_eq_false_iff, decide_eq_false_iff_not] at hs; omega
        obtain ⟨p, q, r, s, h4⟩ := four (s := x) (i := i + 2) (by omega)
        have hcut : cutC x (some ((i + 2 : Nat) : Int)) (some ((i + 6 : Nat) : Int)) = some [p, q, r, s] := by
         rw [cut_part (by omega) (by omega), show i + 6 - (i + 2) = 4 by omega, h4]
        have hbo : bytesOf [p, q, r, s] = some (strSl [p, q, r, s]) := rfl
        rw [cond_false, cond_false, hcut, Option.bind_some, Option.bind_some, hbo, Option.bind_some, hexT_eq, code_eq, Option.bind_some]
        generalize hex4 ((p.toNat : Nat) : Int) ((q.toNat : Nat) : Int) ((r.toNat : Nat) : Int) ((s.toNat : Nat) : Int) = v
        cases hv : decide (v < 0) || decide (255 < v)
        ·simp only [Bool.or_eq_false_iff, decide_eq_false_iff_not] at hv
         rw [cond_false, cond_false, wrap8_small (by omega) (by omega)]
         obtain ⟨B', hw, hB'⟩ := hB.wb (n := v) (by omega) (by omega) (by omega)
         have a4 : addC ((i + 1 : Nat) : Int) 4 = some (((i + 5 : Nat)) : Int) := add_nat (i := i + 1) (k := 4) (by omega) (by omega)
         rw [hw, Option.bind_some, a4, Option.bind_some, j29_eq _ (by omega)]
         exact unq_loop x hx n (i + 6) B' _ hB' (by simp; omega) (by omega) (by omega)
        ·exact ⟨[], 3, rfl, rfl, by simp⟩
       ·exact ⟨[], 3, rfl, rfl, by simp⟩
      ·obtain ⟨-, p0, p1⟩ := pl_at d
       obtain ⟨B', hw, hB'⟩ := hB.wb p0 p1 (by omega)
       rw [cond_true, cond_true, hw, Option.bind_some, j29_eq _ (by omega)]
       exact unq_loop x hx n (i + 2) B' _ hB' (by simp; omega) (by omega) (by omega)
   ·exact ⟨[], 3, tU_bad n B hc hb, rU_bad n o hc hb, by simp⟩
  ·refine ⟨o, 0, ?_, rU_stop x n i o (by omega), by omega⟩
   rw [tU_stop x n i B (by omega)]
   unfold Z60_j17
   rw [hB.str, Option.bind_some]
theorem unquote_eq {s : Bs} (hs : s.length ≤ 1048576) : ∃ r e, Z60 s = some (r, e) ∧ Z16 s = some (r, e) ∧ r.length ≤ s.length := by
 unfold Z60 Z16
 by_cases h2 : s.length < 2
 ·rw [show decide (((s.length : Nat) : Int) < 2) = true from decide_eq_true (by omega)]
  exact ⟨[], 3, rfl, rfl, by simp⟩
 ·rw [show decide (((s.length : Nat) : Int) < 2) = false from decide_eq_false (by omega)]
  obtain ⟨c, hc⟩ : ∃ c, s[0]? = some c := ⟨_, List.getElem?_eq_getElem (show 0 < s.length by omega)⟩
  have hsub : subC ((s.length : Nat) : Int) 1 = some ((s.length - 1 : Nat) : Int) := by rw [subC_ok (by omega)]; exact congrArg some (by omega)
  obtain ⟨z, hz⟩ : ∃ z, s[s.length - 1]? = some z := ⟨_, List.getElem?_eq_getElem (show s.length - 1 < s.length by omega)⟩
  have hcut : cutC s (some (1 : Int)) (some ((s.length - 1 : Nat) : Int)) = some ((s.drop 1).take (s.length - 1 - 1)) := cut_part (i := 1) (by omega) (by omega)
  rw [hc, hsub]
  simp only [guardO, Bool.not_false, if_true, Option.bind_some, Bool.false_or, idxC_nat, hz]
  cases decide (((c.toNat : Nat) : Int) = 34)
  ·exact ⟨[], 3, rfl, rfl, by simp⟩
  ·simp only [Bool.not_true, Bool.not_false, if_true, Option.bind_some, Bool.false_or, idxC_nat, hz, hcut]
   cases decide (((z.toNat : Nat) : Int) = 34)
   ·exact ⟨[], 3, rfl, rfl, by simp⟩
   ·obtain ⟨r, e, h1, h3, h4⟩ := unq_loop ((s.drop 1).take (s.length - 1 - 1)) (by simp; omega) F0 0 Strings_Builder.zero [] (.inl ⟨rfl, rfl⟩) (by simp) (by omega) (by rw [F0_eq]; simp; omega)
    exact ⟨r, e, h1, h3, by simp at h4; omega⟩
end Go.Proofs
