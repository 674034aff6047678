import Derived.Test.YtnbbdamkdkhjkaaV3
import Derived.Test.YtnbbdamkdkhjkaaRows
set_option maxRecDepth 100000
set_option maxHeartbeats 2000000
set_option linter.unusedVariables false
set_option linter.unusedSimpArgs false
namespace Go.Proofs
open Go Go.Ab
def Z25_q (a0 : (Sl TUse)) : Option (Sl TUse) := bif a0.nl then (some (Sl.nil : Sl TUse)) else ((appC 56 (⟨false, []⟩ : Sl TUse) a0).bind fun x7 => some x7)
theorem Z25_eq (a0 : (Sl TUse)) : Z25 a0 = Z25_q a0 := by
 unfold Z25 Z25_q
 refine Eq.trans ?_ (Q.some_bind _)
 refine Q.condO ?_ ?_
 ·all_goals rfl
 refine Q.bindO rfl fun x7 => ?_
 all_goals rfl
def Z41_q12  : List TUse → (Sl TUse) → Option ((Sl TUse))
 | [], y14_ar1 => some y14_ar1
 | h12 :: r12, y14_ar1 => on (h12) fun x21 => guardO ((decide ((0 : Int) < ((y14_ar1.l.length : Nat) : Int)))) (subC ((y14_ar1.l.length : Nat) : Int) (1 : Int)) (0 : Int) fun x26 => guardO ((decide ((0 : Int) < ((y14_ar1.l.length : Nat) : Int)))) (idxC y14_ar1.l x26) TUse.zero fun x27 => guardO (((decide ((0 : Int) < ((y14_ar1.l.length : Nat) : Int))) && ((x27.FType == x21.FType)))) (subC ((y14_ar1.l.length : Nat) : Int) (1 : Int)) (0 : Int) fun x28 => guardO (((decide ((0 : Int) < ((y14_ar1.l.length : Nat) : Int))) && ((x27.FType == x21.FType)))) (idxC y14_ar1.l x28) TUse.zero fun x29 => guardO ((((decide ((0 : Int) < ((y14_ar1.l.length : Nat) : Int))) && ((x27.FType == x21.FType))) && ((x29.FField == x21.FField)))) (subC ((y14_ar1.l.length : Nat) : Int) (1 : Int)) (0 : Int) fun x30 => guardO ((((decide ((0 : Int) < ((y14_ar1.l.length : Nat) : Int))) && ((x27.FType == x21.FType))) && ((x29.FField == x21.FField)))) (idxC y14_ar1.l x30) TUse.zero fun x31 => Option.bind (bif ((((decide ((0 : Int) < ((y14_ar1.l.length : Nat) : Int))) && ((x27.FType == x21.FType))) && ((x29.FField == x21.FField))) && ((x31.FArg == x21.FArg))) then ((subC ((y14_ar1.l.length : Nat) : Int) (1 : Int)).bind fun x34 => (idxC y14_ar1.l x34).bind fun x35 => (idxC y14_ar1.l x34).bind fun x36 => some (Sl.setL y14_ar1 x34.toNat (TUse.mk x36.FType x36.FField x36.FArg (IntKind.wrap .i64 (x35.FCount + x21.FCount))))) else ((appC 56 y14_ar1 (⟨false, [x21]⟩ : Sl TUse)).bind fun x37 => some x37)) fun y19_ar1 => Z41_q12  (r12) y19_ar1
theorem Z41_l12_qe {x5 : (Sl TUse)}  (Kb12 : ((Sl TUse)) → Option (Sl TUse)) (hend : ∀ (n12 : Nat) (s14_13 : Nat) (y14_ar1 : (Sl TUse)), Z41_j7   y14_ar1 = Kb12 y14_ar1) : ∀ (n12 : Nat) (s14_13 : Nat) (y14_ar1 : (Sl TUse)), (0 < n12 ∧ x5.l.length < s14_13 + n12) → Z41_l12 x5 n12 s14_13 y14_ar1 = Option.bind (Z41_q12  (x5.l.drop s14_13) y14_ar1) Kb12 := by
 intro n12
 induction n12 with
 | zero => intro s14_13 y14_ar1 hn; exact absurd hn.1 (by omega)
 | succ n12 ih12 =>
  intro s14_13 y14_ar1 hn
  rw [Z41_l12]
  by_cases hlt : s14_13 < x5.l.length
  ·obtain ⟨h12, hh12⟩ : ∃ x, x5.l[s14_13]? = some x := ⟨_, List.getElem?_eq_getElem hlt⟩
   rw [Q.drop_of hh12, Z41_q12]
   refine Q.condT (Q.ltT hlt) ?_
   refine Q.bindPO hh12 fun x21 hx_x21 => ?_
   refine Q.guardOO rfl fun x26 => ?_
   refine Q.guardOO rfl fun x27 => ?_
   refine Q.guardOO rfl fun x28 => ?_
   refine Q.guardOO rfl fun x29 => ?_
   refine Q.guardOO rfl fun x30 => ?_
   refine Q.guardOO rfl fun x31 => ?_
   refine Q.wrapOO fun Kj18 hKj18 => ?_
   have hj18 : ∀ (y19_ar1 : (Sl TUse)), Z41_j18 s14_13 (Z41_l12 x5 n12) y19_ar1 = Kj18 y19_ar1 := by
    intro y19_ar1
    refine Eq.trans ?_ (hKj18 _).symm
    unfold Z41_j18
    all_goals exact ih12 _ _ ⟨by omega, by omega⟩
   refine Q.condO ?_ ?_
   ·refine Q.bindO rfl fun x34 => ?_
    refine Q.bindO rfl fun x35 => ?_
    refine Q.bindO rfl fun x36 => ?_
    all_goals exact hj18 _
   refine Q.bindO rfl fun x37 => ?_
   all_goals exact hj18 _
  rw [List.drop_of_length_le (by omega), Z41_q12]
  refine Q.condF (Q.ltF hlt) ?_
  exact hend n12 s14_13 y14_ar1
def Z41_q (a0 : (Sl TUse)) : Option (Sl TUse) := (Z25_q a0).bind fun x3 => (some (sortL TUse.c Z42 x3)).bind fun x5 => Option.bind (Z41_q12  x5.l (Sl.nil : Sl TUse)) fun y14_ar1 => on (y14_ar1) fun y8_ar1 => some y8_ar1
theorem Z41_eq (a0 : (Sl TUse)) : Z41 a0 = Z41_q a0 := by
 unfold Z41 Z41_q
 refine Eq.trans ?_ (Q.some_bind _)
 refine Q.bindO (Z25_eq _) fun x3 => ?_
 refine Q.bindO rfl fun x5 => ?_
 refine Q.wrapOO fun Kb12 hKb12 => ?_
 refine Z41_l12_qe  Kb12 ?_ _ _ _ ⟨Nat.succ_pos _, by omega⟩
 intro n12 s14_13 y14_ar1
 refine Eq.trans ?_ (hKb12 _).symm
 refine Q.wrapPO fun Kj7 hKj7 => ?_
 have hj7 : ∀ (y8_ar1 : (Sl TUse)), Z41_j7  y8_ar1 = Kj7 y8_ar1 := by
  intro y8_ar1
  refine Eq.trans ?_ (hKj7 _).symm
  unfold Z41_j7
  all_goals rfl
 all_goals exact hj7 _
def Z27_q (a0 : (Sl (Sl TUse))) : Option (Sl TUse) := Z27 a0
theorem Z27_eq (a0 : (Sl (Sl TUse))) : Z27 a0 = Z27_q a0 := rfl
def Z38_q (a0 : (Sl TUse)) (a1 : (Sl TUse)) : Option (Sl TUse) := (Z27_q (⟨false, [a0, a1]⟩ : Sl (Sl TUse))).bind fun x3 => (Z41_q x3).bind fun x4 => some x4
theorem Z38_eq (a0 : (Sl TUse)) (a1 : (Sl TUse)) : Z38 a0 a1 = Z38_q a0 a1 := by
 unfold Z38 Z38_q
 refine Eq.trans ?_ (Q.some_bind _)
 refine Q.bindO (Z27_eq _) fun x3 => ?_
 refine Q.bindO (Z41_eq _) fun x4 => ?_
 all_goals rfl
def Z39_q8 (a1 : Bs) (a2 : Bs) (a3 : Bs) : List TUse → Int → Int
 | [], s9_9 => s9_9
 | h8 :: r8, s9_9 => on (h8) fun x17 => on (bif ((((x17.FType == a1)) && ((x17.FField == a2))) && ((x17.FArg == a3))) then ((IntKind.wrap .i64 (s9_9 + x17.FCount))) else (s9_9)) fun s9_15 => Z39_q8 a1 a2 a3 (r8) s9_15
theorem Z39_l8_qe {a0 : (Sl TUse)} {a1 : Bs} {a2 : Bs} {a3 : Bs}  (Kb8 : (Int) → Option Int) (hend : ∀ (n8 : Nat) (s9_9 : Int) (s14_10 : Nat), Z39_j3   s9_9 = Kb8 s9_9) : ∀ (n8 : Nat) (s9_9 : Int) (s14_10 : Nat), (0 < n8 ∧ a0.l.length < s14_10 + n8) → Z39_l8 a0 a1 a2 a3 n8 s9_9 s14_10 = Kb8 (Z39_q8 a1 a2 a3 (a0.l.drop s14_10) s9_9) := by
 intro n8
 induction n8 with
 | zero => intro s9_9 s14_10 hn; exact absurd hn.1 (by omega)
 | succ n8 ih8 =>
  intro s9_9 s14_10 hn
  rw [Z39_l8]
  by_cases hlt : s14_10 < a0.l.length
  ·obtain ⟨h8, hh8⟩ : ∃ x, a0.l[s14_10]? = some x := ⟨_, List.getElem?_eq_getElem hlt⟩
   rw [Q.drop_of hh8, Z39_q8]
   refine Q.condT (Q.ltT hlt) ?_
   refine Q.bindP hh8 fun x17 hx_x17 => ?_
   refine Q.wrapPP fun Kj14 hKj14 => ?_
   have hj14 : ∀ (s9_15 : Int), Z39_j14 s14_10 (Z39_l8 a0 a1 a2 a3 n8) s9_15 = Kj14 s9_15 := by
    intro s9_15
    refine Eq.trans ?_ (hKj14 _).symm
    unfold Z39_j14
    all_goals exact ih8 _ _ ⟨by omega, by omega⟩
   refine Q.condP ?_ ?_
   ·all_goals exact hj14 _
   all_goals exact hj14 _
  rw [List.drop_of_length_le (by omega), Z39_q8]
  refine Q.condF (Q.ltF hlt) ?_
  exact hend n8 s9_9 s14_10
def Z39_q (a0 : (Sl TUse)) (a1 : Bs) (a2 : Bs) (a3 : Bs) : Int := on (Z39_q8 a1 a2 a3 a0.l (0 : Int)) fun s9_9 => on (s9_9) fun s9_4 => s9_4
theorem Z39_eq (a0 : (Sl TUse)) (a1 : Bs) (a2 : Bs) (a3 : Bs) : Z39 a0 a1 a2 a3 = some (Z39_q a0 a1 a2 a3) := by
 unfold Z39 Z39_q
 refine Q.wrapPP fun Kb8 hKb8 => ?_
 refine Z39_l8_qe  Kb8 ?_ _ _ _ ⟨Nat.succ_pos _, by omega⟩
 intro n8 s9_9 s14_10
 refine Eq.trans ?_ (hKb8 _).symm
 refine Q.wrapPP fun Kj3 hKj3 => ?_
 have hj3 : ∀ (s9_4 : Int), Z39_j3  s9_4 = Kj3 s9_4 := by
  intro s9_4
  refine Eq.trans ?_ (hKj3 _).symm
  unfold Z39_j3
  all_goals rfl
 all_goals exact hj3 _
def Z13_q7 (a1 : Bs) (a2 : Bs) (a3 : Bs) : List TUse → Int → Int
 | [], s9_8 => s9_8
 | h7 :: r7, s9_8 => on (h7) fun x17 => on (bif ((x17.FType == a1)) then h7 else TUse.zero) fun x18 => on (bif (((x17.FType == a1)) && ((x18.FField == a2))) then h7 else TUse.zero) fun x19 => on (bif ((((x17.FType == a1)) && ((x18.FField == a2))) && ((x19.FArg == a3))) then (on (h7) fun x21 => (IntKind.wrap .i64 (s9_8 + x21.FCount))) else (s9_8)) fun s9_15 => Z13_q7 a1 a2 a3 (r7) s9_15
theorem Z13_l7_qe {a0 : (Sl TUse)} {a1 : Bs} {a2 : Bs} {a3 : Bs}  (Kb7 : (Int) → Option Int) (hend : ∀ (n7 : Nat) (s9_8 : Int) (s10_9 : Nat), Z13_j3   s9_8 = Kb7 s9_8) : ∀ (n7 : Nat) (s9_8 : Int) (s10_9 : Nat), (0 < n7 ∧ a0.l.length < s10_9 + n7) → Z13_l7 a0 a1 a2 a3 n7 s9_8 s10_9 = Kb7 (Z13_q7 a1 a2 a3 (a0.l.drop s10_9) s9_8) := by
 intro n7
 induction n7 with
 | zero => intro s9_8 s10_9 hn; exact absurd hn.1 (by omega)
 | succ n7 ih7 =>
  intro s9_8 s10_9 hn
  rw [Z13_l7]
  by_cases hlt : s10_9 < a0.l.length
  ·obtain ⟨h7, hh7⟩ : ∃ x, a0.l[s10_9]? = some x := ⟨_, List.getElem?_eq_getElem hlt⟩
   rw [Q.drop_of hh7, Z13_q7]
   refine Q.condT (Q.ltT hlt) ?_
   refine Q.bindP hh7 fun x17 hx_x17 => ?_
   refine Q.guardP hh7 fun x18 hx_x18 => ?_
   refine Q.guardP hh7 fun x19 hx_x19 => ?_
   refine Q.wrapPP fun Kj14 hKj14 => ?_
   have hj14 : ∀ (s9_15 : Int), Z13_j14 s10_9 (Z13_l7 a0 a1 a2 a3 n7) s9_15 = Kj14 s9_15 := by
    intro s9_15
    refine Eq.trans ?_ (hKj14 _).symm
    unfold Z13_j14
    all_goals exact ih7 _ _ ⟨by omega, by omega⟩
   refine Q.condP ?_ ?_
   ·refine Q.bindP hh7 fun x21 hx_x21 => ?_
    all_goals exact hj14 _
   all_goals exact hj14 _
  rw [List.drop_of_length_le (by omega), Z13_q7]
  refine Q.condF (Q.ltF hlt) ?_
  exact hend n7 s9_8 s10_9
def Z13_q (a0 : (Sl TUse)) (a1 : Bs) (a2 : Bs) (a3 : Bs) : Int := on (Z13_q7 a1 a2 a3 a0.l (0 : Int)) fun s9_8 => on (s9_8) fun s9_4 => s9_4
theorem Z13_eq (a0 : (Sl TUse)) (a1 : Bs) (a2 : Bs) (a3 : Bs) : Z13 a0 a1 a2 a3 = some (Z13_q a0 a1 a2 a3) := by
 unfold Z13 Z13_q
 refine Q.wrapPP fun Kb7 hKb7 => ?_
 refine Z13_l7_qe  Kb7 ?_ _ _ _ ⟨Nat.succ_pos _, by omega⟩
 intro n7 s9_8 s10_9
 refine Eq.trans ?_ (hKb7 _).symm
 refine Q.wrapPP fun Kj3 hKj3 => ?_
 have hj3 : ∀ (s9_4 : Int), Z13_j3  s9_4 = Kj3 s9_4 := by
  intro s9_4
  refine Eq.trans ?_ (hKj3 _).symm
  unfold Z13_j3
  all_goals rfl
 all_goals exact hj3 _
def Z8_q (a0 : (Sl TUse)) (a1 : (Sl TUse)) (a2 : TUse) : Option Bool := bif ((decide ((200 : Int) < ((a0.l.length : Nat) : Int))) || (decide ((200 : Int) < ((a1.l.length : Nat) : Int)))) then ((Z10).bind fun x7 => some x7) else (on (Z39_q a0 a2.FType a2.FField a2.FArg) fun x9 => on (Z39_q a1 a2.FType a2.FField a2.FArg) fun x11 => on (Z13_q a0 a2.FType a2.FField a2.FArg) fun x13 => guardO ((decide (x9 = x13))) (Z41_q a0) (Sl.nil : Sl TUse) fun x14 => on (bif (decide (x9 = x13)) then Z39_q x14 a2.FType a2.FField a2.FArg else (0 : Int)) fun x15 => guardO (((decide (x9 = x13)) && (decide (x15 = x9)))) (Z38_q a0 a1) (Sl.nil : Sl TUse) fun x16 => on (bif ((decide (x9 = x13)) && (decide (x15 = x9))) then Z39_q x16 a2.FType a2.FField a2.FArg else (0 : Int)) fun x17 => guardO ((((decide (x9 = x13)) && (decide (x15 = x9))) && (decide (x17 = (IntKind.wrap .i64 (x9 + x11)))))) (Z10) false fun x18 => some ((((decide (x9 = x13)) && (decide (x15 = x9))) && (decide (x17 = (IntKind.wrap .i64 (x9 + x11))))) && x18))
theorem Z8_eq (a0 : (Sl TUse)) (a1 : (Sl TUse)) (a2 : TUse) : Z8 a0 a1 a2 = Z8_q a0 a1 a2 := by
 unfold Z8 Z8_q
 refine Eq.trans ?_ (Q.some_bind _)
 refine Q.condO ?_ ?_
 ·refine Q.bindO rfl fun x7 => ?_
  all_goals rfl
 refine Q.bindPO (Z39_eq _ _ _ _) fun x9 hx_x9 => ?_
 refine Q.bindPO (Z39_eq _ _ _ _) fun x11 hx_x11 => ?_
 refine Q.bindPO (Z13_eq _ _ _ _) fun x13 hx_x13 => ?_
 refine Q.guardOO (Z41_eq _) fun x14 => ?_
 refine Q.guardPO (Z39_eq _ _ _ _) fun x15 hx_x15 => ?_
 refine Q.guardOO (Z38_eq _ _) fun x16 => ?_
 refine Q.guardPO (Z39_eq _ _ _ _) fun x17 hx_x17 => ?_
 refine Q.guardOO rfl fun x18 => ?_
 all_goals rfl
end Go.Proofs



namespace Go.Proofs
open Go Go.Ab
attribute [local instance] Classical.propDecidable
set_option maxRecDepth 100000 in
theorem knows48 : Z10 = some true := by kernel_rfl
abbrev wr (n : Int) : Int := IntKind.wrap .i64 n
theorem wr_eq (n : Int) : wr n = (n + 9223372036854775808) % 18446744073709551616 - 9223372036854775808 := by
 unfold wr
 simp [IntKind.wrap, IntKind.bits, IntKind.signed]
 split <;> omega
theorem wr_add (a b : Int) : wr (wr a + b) = wr (a + b) := by rw [wr_eq, wr_eq a, wr_eq]; omega
theorem wr_add' (a b : Int) : wr (a + wr b) = wr (a + b) := by rw [Int.add_comm, wr_add, Int.add_comm]
theorem wr_wr (a : Int) : wr (wr a) = wr a := by have := wr_add a 0; simpa using this
theorem wr_id {n : Int} (h : -9223372036854775808 ≤ n ∧ n ≤ 9223372036854775807) : wr n = n := by rw [wr_eq]; omega
theorem sameU_refl (x : TUse) : sameU x x := ⟨rfl, rfl, rfl⟩
theorem sameU_symm {x y : TUse} (h : sameU x y) : sameU y x := ⟨h.1.symm, h.2.1.symm, h.2.2.symm⟩
theorem sameU_trans {x y z : TUse} (h : sameU x y) (h' : sameU y z) : sameU x z := ⟨h.1.trans h'.1, h.2.1.trans h'.2.1, h.2.2.trans h'.2.2⟩
theorem sameU_not {x y : TUse} (h : sameU x y) : ¬ ltU x y := fun h2 => ltU_irrefl y ((ltU_same h).1.1 h2)
def sameB (x y : TUse) : Bool := x.FType == y.FType && (x.FField == y.FField && x.FArg == y.FArg)
theorem sameB_iff (x y : TUse) : sameB x y = true ↔ sameU x y := by simp [sameB, sameU]
def cnt (l : List TUse) (k : TUse) : Int := ((l.filter (sameB k)).map (·.FCount)).sum
theorem cnt_cons (x : TUse) (l : List TUse) (k : TUse) : cnt (x :: l) k = (if sameU k x then x.FCount else 0) + cnt l k := by
 unfold cnt
 by_cases h : sameU k x
 ·rw [List.filter_cons_of_pos ((sameB_iff _ _).2 h), if_pos h]; simp
 ·rw [List.filter_cons_of_neg (by rw [sameB_iff]; exact h), if_neg h]; simp
theorem cnt_app (l m : List TUse) (k : TUse) : cnt (l ++ m) k = cnt l k + cnt m k := by simp [cnt]
theorem cnt_same {x y : TUse} (h : sameU x y) (l : List TUse) : cnt l x = cnt l y := by
 unfold cnt; congr 2; apply List.filter_congr; intro z _
 rw [Bool.eq_iff_iff, sameB_iff, sameB_iff]; exact ⟨fun g => sameU_trans (sameU_symm h) g, fun g => sameU_trans h g⟩
theorem cnt_perm {l m : List TUse} (h : l.Perm m) (k : TUse) : cnt l k = cnt m k := by
 induction h with
 | nil => rfl
 | cons x _ ih => rw [cnt_cons, cnt_cons, ih]
 | swap x y l => simp only [cnt_cons]; omega
 | trans _ _ ih1 ih2 => rw [ih1, ih2]
theorem cnt_none {l : List TUse} {k : TUse} (h : ∀ x ∈ l, ¬ sameU k x) : cnt l k = 0 := by
 induction l with
 | nil => rfl
 | cons x r ih => rw [cnt_cons, if_neg (h x (by simp)), ih fun y hy => h y (by simp [hy])]; simp

structure Canon (l L : List TUse) : Prop where
 srt : L.Pairwise ltU
 mem : ∀ x, x ∈ L ↔ (∃ y ∈ l, sameU y x) ∧ x.FCount = wr (cnt l x)
theorem strict_ext : ∀ {L M : List TUse}, L.Pairwise ltU → M.Pairwise ltU → (∀ x, x ∈ L ↔ x ∈ M) → L = M
 | [], [], _, _, _ => rfl
 | [], y :: M, _, _, h => by have := (h y).2 (by simp); simp at this
 | x :: L, [], _, _, h => by have := (h x).1 (by simp); simp at this
 | x :: L, y :: M, hL, hM, h => by
  rw [List.pairwise_cons] at hL hM
  have e : x = y := by
   rcases List.mem_cons.1 ((h x).1 (by simp)) with e | hx
   ·exact e
   ·rcases List.mem_cons.1 ((h y).2 (by simp)) with e | hy
    ·exact e.symm
    ·exact absurd (ltU_trans (hL.1 y hy) (hM.1 x hx)) (ltU_irrefl x)
  subst e
  congr 1
  refine strict_ext hL.2 hM.2 fun z => ⟨fun hz => ?_, fun hz => ?_⟩
  ·rcases List.mem_cons.1 ((h z).1 (by simp [hz])) with e | hz'
   ·exact absurd (e ▸ hL.1 z hz) (ltU_irrefl x)
   ·exact hz'
  ·rcases List.mem_cons.1 ((h z).2 (by simp [hz])) with e | hz'
   ·exact absurd (e ▸ hM.1 z hz) (ltU_irrefl x)
   ·exact hz'
theorem Canon.unique {l L M : List TUse} (h : Canon l L) (h' : Canon l M) : L = M := strict_ext h.srt h'.srt fun x => by rw [h.mem, h'.mem]
theorem Canon.perm {l m L : List TUse} (h : Canon l L) (hp : l.Perm m) : Canon m L := by
 refine ⟨h.srt, fun x => ?_⟩
 rw [h.mem, cnt_perm hp]
 constructor
 ·rintro ⟨⟨y, hy, g⟩, e⟩; exact ⟨⟨y, hp.mem_iff.1 hy, g⟩, e⟩
 ·rintro ⟨⟨y, hy, g⟩, e⟩; exact ⟨⟨y, hp.mem_iff.2 hy, g⟩, e⟩
theorem Canon.nil : Canon [] [] := ⟨.nil, fun x => by simp⟩
def addU (u : TUse) (n : Int) : TUse := TUse.mk u.FType u.FField u.FArg n
noncomputable def ins : List TUse → TUse → List TUse
 | [], u => [u]
 | y :: r, u => if ltU y u then y :: ins r u else if ltU u y then u :: y :: r else addU u (wr (u.FCount + y.FCount)) :: r
theorem sameU_add (u : TUse) (n : Int) : sameU (addU u n) u := ⟨rfl, rfl, rfl⟩
theorem ins_mem {L : List TUse} (hL : L.Pairwise ltU) (u : TUse) : ∀ x, x ∈ ins L u ↔ (x ∈ L ∧ ¬ sameU x u) ∨ (x = u ∧ ∀ y ∈ L, ¬ sameU y u) ∨ ∃ y ∈ L, sameU y u ∧ x = addU u (wr (u.FCount + y.FCount)) := by
 induction L with
 | nil => intro x; simp [ins]
 | cons y r ih =>
  intro x
  rw [List.pairwise_cons] at hL
  rw [ins]
  split
  ·rename_i h1
   have hn : ¬ sameU y u := fun g => sameU_not g h1
   rw [List.mem_cons, ih hL.2]
   constructor
   ·rintro (rfl | ⟨h, g⟩ | ⟨h, g⟩ | ⟨z, h, g⟩)
    ·exact .inl ⟨by simp, hn⟩
    ·exact .inl ⟨by simp [h], g⟩
    ·refine .inr (.inl ⟨h, fun z hz => ?_⟩)
     rcases List.mem_cons.1 hz with rfl | hz
     ·exact hn
     ·exact g z hz
    ·exact .inr (.inr ⟨z, by simp [h], g⟩)
   ·rintro (⟨h, g⟩ | ⟨h, g⟩ | ⟨z, h, g⟩)
    ·rcases List.mem_cons.1 h with rfl | h
     ·exact .inl rfl
     ·exact .inr (.inl ⟨h, g⟩)
    ·exact .inr (.inr (.inl ⟨h, fun z hz => g z (by simp [hz])⟩))
    ·rcases List.mem_cons.1 h with rfl | h
     ·exact absurd g.1 hn
     ·exact .inr (.inr (.inr ⟨z, h, g⟩))
  ·split
   ·rename_i h1 h2
    have hall : ∀ z ∈ y :: r, ¬ sameU z u := fun z hz g => by
     rcases List.mem_cons.1 hz with rfl | hz
     ·exact sameU_not (sameU_symm g) h2
     ·exact sameU_not (sameU_symm g) (ltU_trans h2 (hL.1 z hz))
    constructor
    ·intro h
     rcases List.mem_cons.1 h with rfl | h
     ·exact .inr (.inl ⟨rfl, hall⟩)
     ·exact .inl ⟨h, hall x h⟩
    ·rintro (⟨h, _⟩ | ⟨h, _⟩ | ⟨z, h, g, _⟩)
     ·exact List.mem_cons_of_mem _ h
     ·rw [h]; simp
     ·exact absurd g (hall z h)
   ·rename_i h1 h2
    have hs : sameU y u := by rcases ltU_tri y u with g | g | g; exact absurd g h1; exact g; exact absurd g h2
    have hr : ∀ z ∈ r, ¬ sameU z u := fun z hz g => sameU_not (sameU_trans hs (sameU_symm g)) (hL.1 z hz)
    constructor
    ·intro h
     rcases List.mem_cons.1 h with rfl | h
     ·exact .inr (.inr ⟨y, by simp, hs, rfl⟩)
     ·exact .inl ⟨by simp [h], hr x h⟩
    ·rintro (⟨h, g⟩ | ⟨_, h⟩ | ⟨z, h, g, e⟩)
     ·rcases List.mem_cons.1 h with rfl | h
      ·exact absurd hs g
      ·simp [h]
     ·exact absurd hs (h y (by simp))
     ·rcases List.mem_cons.1 h with rfl | h
      ·rw [e]; simp
      ·exact absurd g (hr z h)
theorem ins_lt {L : List TUse} {u x : TUse} (hx : ∀ y ∈ L, ltU x y) (hu : ltU x u) : ∀ y ∈ ins L u, ltU x y := by
 induction L with
 | nil => intro y hy; simp [ins] at hy; rw [hy]; exact hu
 | cons z r ih =>
  intro y hy
  rw [ins] at hy
  split at hy
  ·rcases List.mem_cons.1 hy with rfl | hy
   ·exact hx y (by simp)
   ·exact ih (fun y hy => hx y (by simp [hy])) y hy
  ·split at hy
   ·rcases List.mem_cons.1 hy with rfl | hy
    ·exact hu
    ·exact hx y hy
   ·rcases List.mem_cons.1 hy with rfl | hy
    ·exact (ltU_same (sameU_add u _)).2.2 hu
    ·exact hx y (by simp [hy])
theorem ins_srt {L : List TUse} (hL : L.Pairwise ltU) (u : TUse) : (ins L u).Pairwise ltU := by
 induction L with
 | nil => simp [ins]
 | cons z r ih =>
  have hL' := hL
  rw [List.pairwise_cons] at hL
  rw [ins]
  split
  ·rename_i h1
   exact List.pairwise_cons.2 ⟨ins_lt hL.1 h1, ih hL.2⟩
  ·split
   ·rename_i h1 h2
    refine List.pairwise_cons.2 ⟨fun y hy => ?_, hL'⟩
    rcases List.mem_cons.1 hy with rfl | hy
    ·exact h2
    ·exact ltU_trans h2 (hL.1 y hy)
   ·rename_i h1 h2
    have hs : sameU z u := by rcases ltU_tri z u with g | g | g; exact absurd g h1; exact g; exact absurd g h2
    exact List.pairwise_cons.2 ⟨fun y hy => (ltU_same (sameU_trans (sameU_add u _) (sameU_symm hs))).1.2 (hL.1 y hy), hL.2⟩
theorem ins_len (L : List TUse) (u : TUse) : (ins L u).length ≤ L.length + 1 := by
 induction L with
 | nil => simp [ins]
 | cons z r ih =>
  rw [ins]
  split
  ·simpa using ih
  ·split <;> simp
def inR (u : TUse) : Prop := -9223372036854775808 ≤ u.FCount ∧ u.FCount ≤ 9223372036854775807
theorem Canon.ins {l L : List TUse} (h : Canon l L) {u : TUse} (hu : inR u) : Canon (l ++ [u]) (Go.Proofs.ins L u) := by
 refine ⟨ins_srt h.srt u, fun x => ?_⟩
 rw [ins_mem h.srt]
 have hc : cnt (l ++ [u]) x = cnt l x + (if sameU x u then u.FCount else 0) := by rw [cnt_app, cnt_cons]; simp [cnt]
 rw [hc]
 constructor
 ·rintro (⟨hx, g⟩ | ⟨rfl, g⟩ | ⟨y, hy, g, rfl⟩)
  ·obtain ⟨⟨y, hy, gy⟩, e⟩ := (h.mem x).1 hx
   rw [if_neg g]
   exact ⟨⟨y, by simp [hy], gy⟩, by rw [e, Int.add_zero]⟩
  ·refine ⟨⟨x, by simp, sameU_refl x⟩, ?_⟩
   rw [if_pos (sameU_refl x), cnt_none (l := l), Int.zero_add, wr_id hu]
   intro y hy gy
   exact g (addU x (wr (cnt l x))) ((h.mem _).2 ⟨⟨y, hy, sameU_trans (sameU_symm gy) (sameU_symm (sameU_add x _))⟩, by rw [cnt_same (sameU_add x _)]; rfl⟩) (sameU_add x _)
  ·obtain ⟨⟨z, hz, gz⟩, e⟩ := (h.mem y).1 hy
   refine ⟨⟨u, by simp, sameU_symm (sameU_add u _)⟩, ?_⟩
   rw [if_pos (sameU_add u _), cnt_same (sameU_add u _)]
   show wr (u.FCount + y.FCount) = _
   rw [e, wr_add', cnt_same g, Int.add_comm]
 ·rintro ⟨⟨y, hy, gy⟩, e⟩
  by_cases g : sameU x u
  ·rw [if_pos g] at e
   right
   by_cases hex : ∃ z ∈ L, sameU z u
   ·obtain ⟨z, hz, gz⟩ := hex
    right
    refine ⟨z, hz, gz, ?_⟩
    obtain ⟨_, e2⟩ := (h.mem z).1 hz
    have e3 : x.FCount = wr (u.FCount + z.FCount) := by rw [e, e2, wr_add', cnt_same (sameU_trans gz (sameU_symm g)), Int.add_comm]
    obtain ⟨g1, g2, g3⟩ := g
    cases x; cases u
    simp only [addU, TUse.mk.injEq] at *
    exact ⟨g1, g2, g3, e3⟩
   ·left
    have hno : ∀ z ∈ L, ¬ sameU z u := fun z hz gz => hex ⟨z, hz, gz⟩
    refine ⟨?_, hno⟩
    have hl : ∀ z ∈ l, ¬ sameU x z := fun z hz gz => hno (addU z (wr (cnt l z))) ((h.mem _).2 ⟨⟨z, hz, sameU_symm (sameU_add z _)⟩, by rw [cnt_same (sameU_add z _)]; rfl⟩) (sameU_trans (sameU_add z _) (sameU_trans (sameU_symm gz) g))
    rw [cnt_none hl, Int.zero_add, wr_id hu] at e
    obtain ⟨g1, g2, g3⟩ := g
    cases x; cases u
    simp only [TUse.mk.injEq] at *
    exact ⟨g1, g2, g3, e⟩
  ·rw [if_neg g, Int.add_zero] at e
   left
   refine ⟨(h.mem x).2 ⟨?_, e⟩, g⟩
   rcases List.mem_append.1 hy with hy | hy
   ·exact ⟨y, hy, gy⟩
   ·simp at hy; subst hy; exact absurd (sameU_symm gy) g
noncomputable def sumU (l : List TUse) : List TUse := l.foldl ins []
theorem foldl_canon : ∀ (l p L : List TUse), Canon p L → (∀ u ∈ l, inR u) → Canon (p ++ l) (l.foldl ins L)
 | [], p, L, h, _ => by simpa using h
 | u :: r, p, L, h, hr => by
  have := foldl_canon r (p ++ [u]) (ins L u) (h.ins (hr u (by simp))) fun x hx => hr x (by simp [hx])
  simpa using this
theorem sumU_canon {l : List TUse} (h : ∀ u ∈ l, inR u) : Canon l (sumU l) := by have := foldl_canon l [] [] Canon.nil h; simpa [sumU] using this
end Go.Proofs



namespace Go.Proofs
open Go Go.Ab
attribute [local instance] Classical.propDecidable
theorem ins_last {x u : TUse} : ∀ {p : List TUse}, (∀ y ∈ p, ltU y u) → ins (p ++ [x]) u = p ++ ins [x] u
 | [], _ => rfl
 | y :: p, h => by
  rw [List.cons_append, ins, if_pos (h y (by simp)), ins_last fun z hz => h z (by simp [hz])]; rfl
theorem usort_step (o : Sl TUse) (u : TUse) (r : List TUse) (hs : o.l.Pairwise ltU) (hu : ∀ y ∈ o.l, ¬ ltU u y) (hl : o.l.length ≤ 10000) : ∃ nl, Z41_q12 (u :: r) o = Z41_q12 r ⟨nl, ins o.l u⟩ := by
 rcases List.eq_nil_or_concat o.l with h0 | ⟨p, x, h0⟩
 ·refine ⟨o.nl && List.isEmpty [u], ?_⟩
  rw [Z41_q12]
  simp only [Ab.on, h0, List.length_nil, guardO]
  simp only [Int.natCast_zero, Int.lt_irrefl, decide_false, Bool.false_and, Bool.false_eq_true, if_false, cond_false]
  rw [appC_ok (by decide) (by simp [h0])]
  simp [h0, ins]
 ·rw [List.concat_eq_append] at h0
  have hxm : x ∈ o.l := by rw [h0]; simp
  have hp : ∀ y ∈ p, ltU y u := fun y hy => by
   rw [h0, List.pairwise_append] at hs
   have h1 := hs.2.2 y hy x (by simp)
   rcases ltU_tri x u with g | g | g
   ·exact ltU_trans h1 g
   ·exact (ltU_same g).2.1 h1
   ·exact absurd g (hu x hxm)
  have hins : ins o.l u = p ++ ins [x] u := by rw [h0, ins_last hp]
  have hlen : o.l.length = p.length + 1 := by rw [h0]; simp
  have hpos : decide ((0 : Int) < (o.l.length : Int)) = true := decide_eq_true (by omega)
  have hsub : subC (o.l.length : Int) 1 = some ((p.length : Nat) : Int) := by rw [subC_ok (by omega)]; congr 1; omega
  have hidx : idxC o.l ((p.length : Nat) : Int) = some x := by
   unfold idxC; rw [if_pos (by omega), Int.toNat_natCast, h0]; simp
  rw [Z41_q12]
  simp only [Ab.on, hpos, Bool.true_and, guardO, if_true, hsub, Option.bind_some, hidx]
  by_cases c1 : x.FType = u.FType
  ·by_cases c2 : x.FField = u.FField
   ·by_cases c3 : x.FArg = u.FArg
    ·have hsm : sameU x u := ⟨c1, c2, c3⟩
     refine ⟨o.nl, ?_⟩
     simp only [c1, c2, c3, beq_self_eq_true, if_true, hsub, Option.bind_some, hidx, Bool.and_true, Bool.true_and, cond_true]
     congr 1
     rw [hins, ins, if_neg (sameU_not hsm), if_neg (sameU_not (sameU_symm hsm))]
     unfold Sl.setL
     rw [Int.toNat_natCast, h0]
     simp [addU, c1, c2, c3, Int.add_comm]
    ·refine ⟨o.nl && List.isEmpty [u], ?_⟩
     have hb : (x.FArg == u.FArg) = false := beq_eq_false_iff_ne.2 c3
     have hnl : ¬ sameU x u := fun g => c3 g.2.2
     have hxu : ltU x u := by rcases ltU_tri x u with g | g | g; exact g; exact absurd g hnl; exact absurd g (hu x hxm)
     simp only [c1, c2, beq_self_eq_true, if_true, hsub, Option.bind_some, hidx, Bool.and_true, Bool.true_and, hb, cond_false]
     rw [appC_ok (by decide) (by simp; omega)]
     simp only [Option.bind_some]
     rw [hins, ins, if_pos hxu, h0]; simp [ins]
   ·refine ⟨o.nl && List.isEmpty [u], ?_⟩
    have hb : (x.FField == u.FField) = false := beq_eq_false_iff_ne.2 c2
    have hnl : ¬ sameU x u := fun g => c2 g.2.1
    have hxu : ltU x u := by rcases ltU_tri x u with g | g | g; exact g; exact absurd g hnl; exact absurd g (hu x hxm)
    simp only [c1, beq_self_eq_true, if_true, hsub, Option.bind_some, hidx, Bool.and_true, Bool.true_and, hb, Bool.false_eq_true, if_false, Bool.false_and, cond_false]
    rw [appC_ok (by decide) (by simp; omega)]
    simp only [Option.bind_some]
    rw [hins, ins, if_pos hxu, h0]; simp [ins]
  ·refine ⟨o.nl && List.isEmpty [u], ?_⟩
   have hb : (x.FType == u.FType) = false := beq_eq_false_iff_ne.2 c1
   have hnl : ¬ sameU x u := fun g => c1 g.1
   have hxu : ltU x u := by rcases ltU_tri x u with g | g | g; exact g; exact absurd g hnl; exact absurd g (hu x hxm)
   simp only [hb, Bool.false_eq_true, if_false, Bool.false_and, cond_false]
   rw [appC_ok (by decide) (by simp; omega)]
   simp only [Option.bind_some]
   rw [hins, ins, if_pos hxu, h0]; simp [ins]
theorem usort_loop : ∀ (r p : List TUse) (o : Sl TUse), (p ++ r).Pairwise (fun x y => ¬ ltU y x) → Canon p o.l → (∀ u ∈ r, inR u) → o.l.length + r.length ≤ 10000 → ∃ nl L, Z41_q12 r o = some ⟨nl, L⟩ ∧ Canon (p ++ r) L
 | [], p, o, _, hc, _, _ => ⟨o.nl, o.l, by simp [Z41_q12], by simpa using hc⟩
 | u :: r, p, o, hs, hc, hr, hl => by
  simp only [List.length_cons] at hl
  have hs' := hs
  rw [List.pairwise_append] at hs
  obtain ⟨nl, e⟩ := usort_step o u r hc.srt (fun y hy g => by
   obtain ⟨⟨z, hz, gz⟩, _⟩ := (hc.mem y).1 hy
   exact hs.2.2 z hz u (by simp) ((ltU_same gz).2.2 g)) (by omega)
  have := ins_len o.l u
  obtain ⟨nl2, L, e2, hc2⟩ := usort_loop r (p ++ [u]) ⟨nl, ins o.l u⟩ (by simpa using hs') (hc.ins (hr u (by simp))) (fun x hx => hr x (by simp [hx])) (by simp only; omega)
  exact ⟨nl2, L, by rw [e, e2], by simpa using hc2⟩
def good (l : List TUse) : Prop := ∀ u ∈ l, inR u ∧ okT TUse.c u = true
theorem usort_eq (a : Sl TUse) (hl : a.l.length ≤ 1000) (hnl : a.nl = true → a.l = []) (hg : good a.l) : ∃ nl, Z41_q a = some ⟨nl, sumU a.l⟩ := by
 have hclone : ∃ nl, Z25_q a = some ⟨nl, a.l⟩ := by
  unfold Z25_q
  cases h : a.nl
  ·rw [cond_false, appC_ok (by decide) (by simp; omega)]; exact ⟨_, by simp; rfl⟩
  ·rw [cond_true, hnl h]; exact ⟨true, rfl⟩
 obtain ⟨nl, e⟩ := hclone
 have hp := sortT_perm TUse.c Z42_swo a.l
 have hst := sortT_sorted TUse.c Z42_swo a.l
 have hgs : good (sortT TUse.c (cmpO Z42) a.l) := fun u hu => hg u (hp.mem_iff.1 hu)
 have hst2 : (sortT TUse.c (cmpO Z42) a.l).Pairwise fun x y => ¬ ltU y x := by
  rw [List.pairwise_iff_getElem] at hst ⊢
  intro i j hi hj hij
  have := hst i j hi hj hij
  unfold cfT at this
  rw [normT_ok _ (hgs _ (List.getElem_mem hj)).2, normT_ok _ (hgs _ (List.getElem_mem hi)).2, Z42_cmp, cmpU_lt] at this
  exact this
 obtain ⟨nl2, L, e2, hc⟩ := usort_loop (sortT TUse.c (cmpO Z42) a.l) [] Sl.nil (by simpa using hst2) Canon.nil (fun u hu => (hgs u hu).1) (by rw [hp.length_eq]; simp [Sl.nil]; omega)
 refine ⟨nl2, ?_⟩
 unfold Z41_q
 rw [e]
 simp only [Option.bind_some, sortL, e2, Ab.on]
 rw [List.nil_append] at hc
 rw [(hc.perm hp).unique (sumU_canon fun u hu => (hg u hu).1)]
theorem concat_eq (a b : Sl TUse) (ha : a.l.length ≤ 200) (hb : b.l.length ≤ 200) : ∃ nl, Z27_q ⟨false, [a, b]⟩ = some ⟨nl, a.l ++ b.l⟩ ∧ (nl = true → a.l ++ b.l = []) := by
 have hg : Z29 ((a.l.length : Int) + (b.l.length : Int)) = some ⟨decide ((a.l.length : Int) + (b.l.length : Int) = 0), []⟩ := by
  unfold Z29; rw [if_pos ⟨by omega, by unfold maxN; omega, by unfold maxN; omega⟩]
 refine ⟨(decide ((a.l.length : Int) + (b.l.length : Int) = 0) && a.l.isEmpty) && b.l.isEmpty, ?_, ?_⟩
 ·unfold Z27_q Z27
  simp only [List.length_cons, List.length_nil, Nat.zero_add, Nat.reduceAdd, Z27_l24]
  have h1 : addC 0 (a.l.length : Int) = some (a.l.length : Int) := by rw [addC_ok (by omega)]; simp
  have h2 : addC (a.l.length : Int) (b.l.length : Int) = some ((a.l.length : Int) + (b.l.length : Int)) := addC_ok (by omega)
  have h3 : ¬ ((a.l.length : Int) < 0) := by omega
  have h4 : ¬ ((a.l.length : Int) + (b.l.length : Int) < 0) := by omega
  have d1 : decide ((0 : Int) < 2) = true := by decide
  simp only [List.getElem?_cons_zero, List.getElem?_cons_succ, Option.bind_some, h1, h2, hg, decide_eq_false h3, decide_eq_false h4, cond_true, cond_false, Z27_j30, Z27_j3, Z27_l24, Z27_l12, Z27_j7,
   Int.natCast_zero, Nat.zero_add, Nat.reduceAdd, List.length_cons, List.length_nil]
  have dd : ∀ (x y : Nat), x < y → decide (((x : Nat) : Int) < ((y : Nat) : Int)) = true := fun x y h => decide_eq_true (by omega)
  have dn : ∀ (x y : Nat), ¬ x < y → decide (((x : Nat) : Int) < ((y : Nat) : Int)) = false := fun x y h => decide_eq_false (by omega)
  rw [appC_ok (by decide) (by simp; omega)]
  simp
  rw [appC_ok (by decide) (by simp; omega)]
  first | done | simp
 ·intro h
  simp only [Bool.and_eq_true, List.isEmpty_iff] at h
  rw [h.1.2, h.2]; rfl
theorem good_app {a b : List TUse} (ha : good a) (hb : good b) : good (a ++ b) := fun u hu => (List.mem_append.1 hu).elim (ha u) (hb u)
theorem uadd_eq (a b : Sl TUse) (ha : a.l.length ≤ 200) (hb : b.l.length ≤ 200) (hga : good a.l) (hgb : good b.l) : ∃ nl, Z38_q a b = some ⟨nl, sumU (a.l ++ b.l)⟩ := by
 obtain ⟨nl, e, hnl⟩ := concat_eq a b ha hb
 obtain ⟨nl2, e2⟩ := usort_eq ⟨nl, a.l ++ b.l⟩ (by simp; omega) hnl (good_app hga hgb)
 refine ⟨nl2, ?_⟩
 unfold Z38_q
 rw [e]; simp only [Option.bind_some]; rw [e2]; simp
def kU (a b c : Bs) : TUse := ⟨a, b, c, 0⟩
theorem count_loop (t f g : Bs) : ∀ (l : List TUse) (n : Int), wr n = n → Z39_q8 t f g l n = wr (n + cnt l (kU t f g))
 | [], n, hn => by simp [Z39_q8, cnt, hn]
 | x :: r, n, hn => by
  rw [Z39_q8]
  simp only [Ab.on]
  have hk : (((x.FType == t) && (x.FField == f)) && (x.FArg == g)) = true ↔ sameU (kU t f g) x := by
   simp only [sameU, kU, Bool.and_eq_true, beq_iff_eq]
   exact ⟨fun h => ⟨h.1.1.symm, h.1.2.symm, h.2.symm⟩, fun h => ⟨⟨h.1.symm, h.2.1.symm⟩, h.2.2.symm⟩⟩
  rw [cnt_cons]
  cases hb : (((x.FType == t) && (x.FField == f)) && (x.FArg == g))
  ·rw [cond_false, if_neg (fun h => by rw [hk.2 h] at hb; cases hb), Int.zero_add]; exact count_loop t f g r n hn
  ·rw [cond_true, if_pos (hk.1 hb), count_loop t f g r _ (wr_wr _)]
   show wr (wr (n + x.FCount) + _) = _
   rw [wr_add, Int.add_assoc]
theorem count_eq (a : Sl TUse) (t f g : Bs) : Z39_q a t f g = wr (cnt a.l (kU t f g)) := by
 unfold Z39_q; simp only [Ab.on]; rw [count_loop t f g a.l 0 (by rw [wr_eq]; decide), Int.zero_add]
theorem rcount_loop (t f g : Bs) : ∀ (l : List TUse) (n : Int), Z13_q7 t f g l n = Z39_q8 t f g l n
 | [], n => rfl
 | x :: r, n => by
  rw [Z13_q7, Z39_q8]
  simp only [Ab.on]
  by_cases c1 : x.FType = t
  ·by_cases c2 : x.FField = f
   ·by_cases c3 : x.FArg = g
    ·simp [c1, c2, c3, rcount_loop]
    ·have b3 : (x.FArg == g) = false := beq_eq_false_iff_ne.2 c3
     simp [c1, c2, b3, rcount_loop]
   ·have b2 : (x.FField == f) = false := beq_eq_false_iff_ne.2 c2
    simp [c1, b2, rcount_loop]
  ·have b1 : (x.FType == t) = false := beq_eq_false_iff_ne.2 c1
   simp [b1, rcount_loop]
theorem rcount_eq (a : Sl TUse) (t f g : Bs) : Z13_q a t f g = Z39_q a t f g := by
 unfold Z13_q Z39_q; simp only [Ab.on]; exact rcount_loop t f g a.l 0
theorem cnt_sum {l : List TUse} (h : ∀ u ∈ l, inR u) (k : TUse) : wr (cnt (sumU l) k) = wr (cnt l k) := by
 have hc := sumU_canon h
 generalize sumU l = L at hc
 by_cases hex : ∃ x ∈ L, sameU k x
 ·obtain ⟨x, hx, hs⟩ := hex
  have e : cnt L k = x.FCount := by
   obtain ⟨p, q, rfl⟩ := List.append_of_mem hx
   have hsr := hc.srt
   rw [List.pairwise_append, List.pairwise_cons] at hsr
   rw [cnt_app, cnt_cons, if_pos hs, cnt_none (l := p), cnt_none (l := q)]
   ·omega
   ·intro y hy g; exact sameU_not (sameU_trans (sameU_symm hs) g) (hsr.2.1.1 y hy)
   ·intro y hy g; exact sameU_not (sameU_trans (sameU_symm g) hs) (hsr.2.2 y hy x (by simp))
  rw [e, ((hc.mem x).1 hx).2, wr_wr, cnt_same hs]
 ·have hno : ∀ x ∈ L, ¬ sameU k x := fun x hx g => hex ⟨x, hx, g⟩
  rw [cnt_none hno, cnt_none (l := l)]
  intro y hy g
  exact hno (addU y (wr (cnt l y))) ((hc.mem _).2 ⟨⟨y, hy, sameU_symm (sameU_add y _)⟩, by rw [cnt_same (sameU_add y _)]; rfl⟩) (sameU_trans g (sameU_symm (sameU_add y _)))
theorem usageCount_val (a b : Sl TUse) (u : TUse) (hna : a.nl = true → a.l = []) (hga : good a.l) (hgb : good b.l) : Z8 a b u = some true := by
 rw [Z8_eq]
 unfold Z8_q
 rw [knows48]
 cases hc : (decide ((200 : Int) < ((a.l.length : Nat) : Int))) || (decide ((200 : Int) < ((b.l.length : Nat) : Int)))
 ·simp only [Bool.or_eq_false_iff, decide_eq_false_iff_not] at hc
  obtain ⟨n1, e1⟩ := usort_eq a (by omega) hna hga
  obtain ⟨n3, e3⟩ := uadd_eq a b (by omega) (by omega) hga hgb
  have h1 := cnt_sum (fun x hx => (hga x hx).1) (kU u.FType u.FField u.FArg)
  have h2 := cnt_sum (fun x hx => (good_app hga hgb x hx).1) (kU u.FType u.FField u.FArg)
  have h3 : wr (cnt (sumU (a.l ++ b.l)) (kU u.FType u.FField u.FArg)) = wr (wr (cnt a.l (kU u.FType u.FField u.FArg)) + wr (cnt b.l (kU u.FType u.FField u.FArg))) := by rw [h2, wr_add, wr_add', cnt_app]
  simp only [cond_false, Ab.on, rcount_eq, decide_true, guardO, if_true, e1, e3, Option.bind_some, cond_true, count_eq, h1, Bool.and_self, Bool.true_and, h3]
 ·rfl
end Go.Proofs

namespace Go.Proofs.Ytnbbdamkdkhjkaa
open Go Go.Ab Go.RowKit Go.ChangeShapes Go.WideShapes Go.ChangeAt
theorem bulkAll {H : Type} (l : List (DataW H)) : Rows.uptoBulkAll l = (l.map Rows.uptoBulk).sum := by
 induction l with
 | nil => rfl
 | cons x r ih => simp only [Rows.uptoBulkAll, List.map_cons, List.sum_cons, ih]
theorem bulkB {H : Type} : Bulk (H := H) Rows.uptoBulk := by
 refine ⟨fun d => ?_, fun b => by simp [Rows.uptoBulk], fun e s => by simp only [Rows.uptoBulk, bulkAll]; omega, fun l => by simp only [Rows.uptoBulk, bulkAll]; omega⟩
 cases d with
 | lit l => cases l <;> simp [Rows.uptoBulk]
 | nil => simp [Rows.uptoBulk]
 | ptr d => simp [Rows.uptoBulk]
 | slice elems spare => simp [Rows.uptoBulk]
 | agg parts => simp [Rows.uptoBulk]
 | iface t d => simp [Rows.uptoBulk]
 | map entries => simp [Rows.uptoBulk]
 | held h => simp [Rows.uptoBulk]
theorem own : ownKnob Try.prog.godebug = none := by kernel_rfl
theorem laid : laidOutB Try.prog = true := by kernel_rfl
theorem bound {H : Type} {l : List (DataW H)} (hk : Rows.uptoSmall H l = true) : Rows.uptoBulkAll l ≤ 1048576 := of_decide_eq_true hk
theorem good_of {a : Sl TUse} (h : Sl.sz TUse.sz a ≤ 1048576) (hw : Sl.wf TUse.wf a) : good a.l := fun u hu => by
 have h1 := Sl.mem_le (f := TUse.sz) hu
 rw [TUse.sz_def] at h1
 unfold Bs.sz at h1
 refine ⟨?_, ?_⟩
 ·have := TUse.FCount_wf (hw.2.2 u hu)
  unfold inR; unfold i64 at this; omega
 have e1 : Nat.ble u.FType.length maxS = true := by rw [Nat.ble_eq]; unfold maxS; omega
 have e2 : Nat.ble u.FField.length maxS = true := by rw [Nat.ble_eq]; unfold maxS; omega
 have e3 : Nat.ble u.FArg.length maxS = true := by rw [Nat.ble_eq]; unfold maxS; omega
 simp [okT, TUse.c, scalB, e1, e2, e3]
theorem usageCount_call (a b : Sl TUse) (u : TUse) (ha : Sl.sz TUse.sz a ≤ 1048576) (wa : Sl.wf TUse.wf a) (hb : Sl.sz TUse.sz b ≤ 1048576) (wb : Sl.wf TUse.wf b) (H : Heap) : ACalls Try.prog 4 [.d (Sl.d 4 TUse.c none a), .d (Sl.d 4 TUse.c none b), .agg u.c] H fun r h' => r = .a (.d (.bool true)) ∧ h' = H :=
 Z8_walk (usageCount_val a b u wa.1 (good_of ha wa) (good_of hb wb)) H
theorem rdU {H : Type} : ∀ N, RdN Try.prog (Rows.uptoBulk (H := H)) N 22 (fun s : Sl TUse => [Sl.d 4 TUse.c none s]) (Sl.sz TUse.sz) (Sl.wf TUse.wf) := RdS.slice bulkB (TK rfl) rfl (TK rfl) rfl (by decide) (fun _ => rfl) (rd_TUse_28 bulkB)
end Go.Proofs.Ytnbbdamkdkhjkaa

