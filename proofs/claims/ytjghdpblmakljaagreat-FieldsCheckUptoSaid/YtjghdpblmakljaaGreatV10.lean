import Derived.Test.YtjghdpblmakljaaGreatV9
set_option maxRecDepth 100000
set_option maxHeartbeats 2000000
set_option linter.unusedVariables false
set_option linter.unusedSimpArgs false
namespace Go.Proofs
open Go Go.Ab
def Z63_q36  : List TField → Int → Option (Int)
 | [], s3_37 => some s3_37
 | h36 :: r36, s3_37 => on (h36) fun x44 => on (h36) fun x45 => (addC ((x44.FArgs.l.length : Nat) : Int) ((x45.FDirs.l.length : Nat) : Int)).bind fun x46 => (addC s3_37 x46).bind fun x47 => Z63_q36  (r36) x47
theorem Z63_l36_qe {s4_14 : Nat} {x22 : TDef} {k_next_12 : Int → Nat → Option Bool}  (Kb36 : (Int) → Option Bool) (hend : ∀ (n36 : Nat) (s3_37 : Int) (s6_38 : Nat), Z63_j19 s4_14 k_next_12 s3_37 = Kb36 s3_37) : ∀ (n36 : Nat) (s3_37 : Int) (s6_38 : Nat), (0 < n36 ∧ x22.FFields.l.length < s6_38 + n36) → Z63_l36 s4_14 x22 k_next_12 n36 s3_37 s6_38 = Option.bind (Z63_q36  (x22.FFields.l.drop s6_38) s3_37) Kb36 := by
 intro n36
 induction n36 with
 | zero => intro s3_37 s6_38 hn; exact absurd hn.1 (by omega)
 | succ n36 ih36 =>
  intro s3_37 s6_38 hn
  rw [Z63_l36]
  by_cases hlt : s6_38 < x22.FFields.l.length
  ·obtain ⟨h36, hh36⟩ : ∃ x, x22.FFields.l[s6_38]? = some x := ⟨_, List.getElem?_eq_getElem hlt⟩
   rw [Q.drop_of hh36, Z63_q36]
   refine Q.condT (Q.ltT hlt) ?_
   refine Q.bindPO hh36 fun x44 hx_x44 => ?_
   refine Q.bindPO hh36 fun x45 hx_x45 => ?_
   refine Q.bindO rfl fun x46 => ?_
   refine Q.bindO rfl fun x47 => ?_
   all_goals exact ih36 _ _ ⟨by omega, by omega⟩
  rw [List.drop_of_length_le (by omega), Z63_q36]
  refine Q.condF (Q.ltF hlt) ?_
  exact hend n36 s3_37 s6_38
def Z63_q12  : List TDef → Int → Option (Int)
 | [], s3_13 => some s3_13
 | h12 :: r12, s3_13 => on (h12) fun x22 => (addC (1 : Int) ((x22.FFields.l.length : Nat) : Int)).bind fun x25 => (addC x25 ((x22.FMembers.l.length : Nat) : Int)).bind fun x27 => (addC x27 ((x22.FInputs.l.length : Nat) : Int)).bind fun x29 => (addC x29 ((x22.FDirs.l.length : Nat) : Int)).bind fun x31 => (addC x31 ((x22.FImplements.l.length : Nat) : Int)).bind fun x33 => (addC s3_13 x33).bind fun x34 => Option.bind (Z63_q36  x22.FFields.l x34) fun s3_37 => on (s3_37) fun s3_20 => Z63_q12  (r12) s3_20
theorem Z63_l12_qe {a0 : TDoc}  (Kb12 : (Int) → Option Bool) (hend : ∀ (n12 : Nat) (s3_13 : Int) (s4_14 : Nat), Z63_j8   s3_13 = Kb12 s3_13) : ∀ (n12 : Nat) (s3_13 : Int) (s4_14 : Nat), (0 < n12 ∧ a0.FDefs.l.length < s4_14 + n12) → Z63_l12 a0 n12 s3_13 s4_14 = Option.bind (Z63_q12  (a0.FDefs.l.drop s4_14) s3_13) Kb12 := by
 intro n12
 induction n12 with
 | zero => intro s3_13 s4_14 hn; exact absurd hn.1 (by omega)
 | succ n12 ih12 =>
  intro s3_13 s4_14 hn
  rw [Z63_l12]
  by_cases hlt : s4_14 < a0.FDefs.l.length
  ·obtain ⟨h12, hh12⟩ : ∃ x, a0.FDefs.l[s4_14]? = some x := ⟨_, List.getElem?_eq_getElem hlt⟩
   rw [Q.drop_of hh12, Z63_q12]
   refine Q.condT (Q.ltT hlt) ?_
   refine Q.bindPO hh12 fun x22 hx_x22 => ?_
   refine Q.bindO rfl fun x25 => ?_
   refine Q.bindO rfl fun x27 => ?_
   refine Q.bindO rfl fun x29 => ?_
   refine Q.bindO rfl fun x31 => ?_
   refine Q.bindO rfl fun x33 => ?_
   refine Q.bindO rfl fun x34 => ?_
   refine Q.wrapOO fun Kb36 hKb36 => ?_
   refine Z63_l36_qe  Kb36 ?_ _ _ _ ⟨Nat.succ_pos _, by omega⟩
   intro n36 s3_37 s6_38
   refine Eq.trans ?_ (hKb36 _).symm
   refine Q.wrapPO fun Kj19 hKj19 => ?_
   have hj19 : ∀ (s3_20 : Int), Z63_j19 s4_14 (Z63_l12 a0 n12) s3_20 = Kj19 s3_20 := by
    intro s3_20
    refine Eq.trans ?_ (hKj19 _).symm
    unfold Z63_j19
    all_goals exact ih12 _ _ ⟨by omega, by omega⟩
   all_goals exact hj19 _
  rw [List.drop_of_length_le (by omega), Z63_q12]
  refine Q.condF (Q.ltF hlt) ?_
  exact hend n12 s3_13 s4_14
def Z63_q (a0 : TDoc) : Option Bool := bif (decide ((70 : Int) < ((a0.FDefs.l.length : Nat) : Int))) then (some true) else (Option.bind (Z63_q12  a0.FDefs.l (0 : Int)) fun s3_13 => on (s3_13) fun s3_9 => some (decide ((1000 : Int) < s3_9)))
theorem Z63_eq (a0 : TDoc) : Z63 a0 = Z63_q a0 := by
 unfold Z63 Z63_q
 refine Eq.trans ?_ (Q.some_bind _)
 refine Q.condO ?_ ?_
 ·all_goals rfl
 refine Q.wrapOO fun Kb12 hKb12 => ?_
 refine Z63_l12_qe  Kb12 ?_ _ _ _ ⟨Nat.succ_pos _, by omega⟩
 intro n12 s3_13 s4_14
 refine Eq.trans ?_ (hKb12 _).symm
 refine Q.wrapPO fun Kj8 hKj8 => ?_
 have hj8 : ∀ (s3_9 : Int), Z63_j8  s3_9 = Kj8 s3_9 := by
  intro s3_9
  refine Eq.trans ?_ (hKj8 _).symm
  unfold Z63_j8
  all_goals rfl
 all_goals exact hj8 _
def Z25_q7 (k_rec_78 : TValue → Option Int) : List TValue → Int → Option (Int)
 | [], s3_8 => some s3_8
 | h7 :: r7, s3_8 => on (h7) fun x15 => (k_rec_78 x15).bind fun x16 => (addC s3_8 x16).bind fun x17 => Z25_q7 k_rec_78 (r7) x17
theorem Z25_l7_qe {a0 : TValue} {k_rec_78 : TValue → Option Int}  (Kb7 : (Int) → Option Int) (hend : ∀ (n7 : Nat) (s3_8 : Int) (s4_9 : Nat), Z25_j3   s3_8 = Kb7 s3_8) : ∀ (n7 : Nat) (s3_8 : Int) (s4_9 : Nat), (0 < n7 ∧ a0.FItems.l.length < s4_9 + n7) → Z25_l7 a0 k_rec_78 n7 s3_8 s4_9 = Option.bind (Z25_q7 k_rec_78 (a0.FItems.l.drop s4_9) s3_8) Kb7 := by
 intro n7
 induction n7 with
 | zero => intro s3_8 s4_9 hn; exact absurd hn.1 (by omega)
 | succ n7 ih7 =>
  intro s3_8 s4_9 hn
  rw [Z25_l7]
  by_cases hlt : s4_9 < a0.FItems.l.length
  ·obtain ⟨h7, hh7⟩ : ∃ x, a0.FItems.l[s4_9]? = some x := ⟨_, List.getElem?_eq_getElem hlt⟩
   rw [Q.drop_of hh7, Z25_q7]
   refine Q.condT (Q.ltT hlt) ?_
   refine Q.bindPO hh7 fun x15 hx_x15 => ?_
   refine Q.bindO rfl fun x16 => ?_
   refine Q.bindO rfl fun x17 => ?_
   all_goals exact ih7 _ _ ⟨by omega, by omega⟩
  rw [List.drop_of_length_le (by omega), Z25_q7]
  refine Q.condF (Q.ltF hlt) ?_
  exact hend n7 s3_8 s4_9
def Z25_qn : Nat → TValue → Option Int
 | 0, _ => none
 | n + 1, a0 => Option.bind (Z25_q7 (Z25_qn n) a0.FItems.l (1 : Int)) fun s3_8 => on (s3_8) fun s3_4 => some s3_4
theorem Z25_qall : ∀ n : Nat, Z25_n n = Z25_qn n := by
 intro n
 induction n with
 | zero => exact (by funext a0; first | rfl | (rw [Z25_n, Z25_qn]))
 | succ n ih =>
  funext a0
  refine Eq.trans ?_ (Q.some_bind _)
  rw [Z25_n, Z25_qn]
  try rw [ih]
  refine Q.wrapOO fun Kb7 hKb7 => ?_
  refine Z25_l7_qe  Kb7 ?_ _ _ _ ⟨Nat.succ_pos _, by omega⟩
  intro n7 s3_8 s4_9
  refine Eq.trans ?_ (hKb7 _).symm
  refine Q.wrapPO fun Kj3 hKj3 => ?_
  have hj3 : ∀ (s3_4 : Int), Z25_j3  s3_4 = Kj3 s3_4 := by
   intro s3_4
   refine Eq.trans ?_ (hKj3 _).symm
   unfold Z25_j3
   all_goals rfl
  all_goals exact hj3 _
def Z25_q (a0 : TValue) : Option Int := Z25_qn F0 a0
theorem Z25_eq (a0 : TValue) : Z25 a0 = Z25_q a0 := by
 unfold Z25 Z25_q; rw [(Z25_qall F0)]
def Z56_q29 (a1 : Int) (h7 : TSel) : List TArg → Int → Option (Int)
 | [], s5_30 => some s5_30
 | h29 :: r29, s5_30 => bif (decide (s5_30 ≤ a1)) then (on (h7) fun x38 => on (h29) fun x39 => (Z25_q x39.FValue).bind fun x40 => (addC s5_30 x40).bind fun x41 => Z56_q29 a1 h7 (r29) x41) else (some s5_30)
theorem Z56_l29_qe {a0 : (Sl TSel)} {a1 : Int} {s6_9 : Nat} {k_next_7 : Int → Nat → Option Int} {k_rec_45 : (Sl TSel) → Int → Option Int} {h7 : TSel} (hh7 : a0.l[s6_9]? = some h7) (Kb29 : (Int) → Option Int) (hend : ∀ (n29 : Nat) (s5_30 : Int) (s7_31 : Nat), Z56_j22 a0 a1 s6_9 k_next_7 k_rec_45 s5_30 = Kb29 s5_30) : ∀ (n29 : Nat) (s5_30 : Int) (s7_31 : Nat), (0 < n29 ∧ h7.FArgs.l.length < s7_31 + n29) → Z56_l29 a0 a1 s6_9 k_next_7 k_rec_45 n29 s5_30 s7_31 = Option.bind (Z56_q29 a1 h7 (h7.FArgs.l.drop s7_31) s5_30) Kb29 := by
 intro n29
 induction n29 with
 | zero => intro s5_30 s7_31 hn; exact absurd hn.1 (by omega)
 | succ n29 ih29 =>
  intro s5_30 s7_31 hn
  rw [Z56_l29]
  refine Q.preB hh7 fun x34 hx_x34 => ?_
  subst hx_x34
  by_cases hlt : s7_31 < x34.FArgs.l.length
  ·obtain ⟨h29, hh29⟩ : ∃ x, x34.FArgs.l[s7_31]? = some x := ⟨_, List.getElem?_eq_getElem hlt⟩
   rw [Q.drop_of hh29, Z56_q29]
   refine Q.condAT (Q.ltT hlt) ?_
   refine Q.condO ?_ ?_
   ·refine Q.bindPO hh7 fun x38 hx_x38 => ?_
    refine Q.bindPO (by first | exact hh29 | (simp only [hx_x38]; exact hh29) | (simp only [hx_x38] at hh29 ⊢; exact hh29)) fun x39 hx_x39 => ?_
    refine Q.bindO (Z25_eq _) fun x40 => ?_
    refine Q.bindO rfl fun x41 => ?_
    all_goals exact ih29 _ _ ⟨by omega, by omega⟩
   all_goals exact hend n29 s5_30 s7_31
  rw [List.drop_of_length_le (by omega), Z56_q29]
  refine Q.condAF (Q.ltF hlt) ?_
  exact hend n29 s5_30 s7_31
def Z56_q7 (a1 : Int) (k_rec_45 : (Sl TSel) → Int → Option Int) : List TSel → Int → Option (Int)
 | [], s5_8 => some s5_8
 | h7 :: r7, s5_8 => bif (decide (s5_8 ≤ a1)) then ((addC s5_8 (1 : Int)).bind fun x17 => on (h7) fun x18 => (addC x17 ((x18.FArgs.l.length : Nat) : Int)).bind fun x19 => on (h7) fun x20 => (addC x19 ((x20.FDirs.l.length : Nat) : Int)).bind fun x21 => Option.bind (Z56_q29 a1 h7 h7.FArgs.l x21) fun s5_30 => on (s5_30) fun s5_23 => on (h7) fun x24 => (subC a1 s5_23).bind fun x25 => (k_rec_45 x24.FSels x25).bind fun x26 => (addC s5_23 x26).bind fun x27 => on (x27) fun s5_15 => Z56_q7 a1 k_rec_45 (r7) s5_15) else (some s5_8)
theorem Z56_l7_qe {a0 : (Sl TSel)} {a1 : Int} {k_rec_45 : (Sl TSel) → Int → Option Int}  (Kb7 : (Int) → Option Int) (hend : ∀ (n7 : Nat) (s5_8 : Int) (s6_9 : Nat), Z56_j3   s5_8 = Kb7 s5_8) : ∀ (n7 : Nat) (s5_8 : Int) (s6_9 : Nat), (0 < n7 ∧ a0.l.length < s6_9 + n7) → Z56_l7 a0 a1 k_rec_45 n7 s5_8 s6_9 = Option.bind (Z56_q7 a1 k_rec_45 (a0.l.drop s6_9) s5_8) Kb7 := by
 intro n7
 induction n7 with
 | zero => intro s5_8 s6_9 hn; exact absurd hn.1 (by omega)
 | succ n7 ih7 =>
  intro s5_8 s6_9 hn
  rw [Z56_l7]
  by_cases hlt : s6_9 < a0.l.length
  ·obtain ⟨h7, hh7⟩ : ∃ x, a0.l[s6_9]? = some x := ⟨_, List.getElem?_eq_getElem hlt⟩
   rw [Q.drop_of hh7, Z56_q7]
   refine Q.condAT (Q.ltT hlt) ?_
   refine Q.condO ?_ ?_
   ·refine Q.bindO rfl fun x17 => ?_
    refine Q.bindPO hh7 fun x18 hx_x18 => ?_
    refine Q.bindO rfl fun x19 => ?_
    refine Q.bindPO hh7 fun x20 hx_x20 => ?_
    refine Q.bindO rfl fun x21 => ?_
    refine Q.wrapOO fun Kb29 hKb29 => ?_
    refine Z56_l29_qe hh7 Kb29 ?_ _ _ _ ⟨by rw [hh7]; exact Nat.succ_pos _, by rw [hh7]; simp only [Option.elim]; omega⟩
    intro n29 s5_30 s7_31
    refine Eq.trans ?_ (hKb29 _).symm
    refine Q.wrapPO fun Kj22 hKj22 => ?_
    have hj22 : ∀ (s5_23 : Int), Z56_j22 a0 a1 s6_9 (Z56_l7 a0 a1 k_rec_45 n7) k_rec_45 s5_23 = Kj22 s5_23 := by
     intro s5_23
     refine Eq.trans ?_ (hKj22 _).symm
     unfold Z56_j22
     refine Q.bindPO hh7 fun x24 hx_x24 => ?_
     refine Q.bindO rfl fun x25 => ?_
     refine Q.bindO rfl fun x26 => ?_
     refine Q.bindO rfl fun x27 => ?_
     refine Q.wrapPO fun Kj14 hKj14 => ?_
     have hj14 : ∀ (s5_15 : Int), Z56_j14 s6_9 (Z56_l7 a0 a1 k_rec_45 n7) s5_15 = Kj14 s5_15 := by
      intro s5_15
      refine Eq.trans ?_ (hKj14 _).symm
      unfold Z56_j14
      all_goals exact ih7 _ _ ⟨by omega, by omega⟩
     all_goals exact hj14 _
    all_goals exact hj22 _
   all_goals exact hend n7 s5_8 s6_9
  rw [List.drop_of_length_le (by omega), Z56_q7]
  refine Q.condAF (Q.ltF hlt) ?_
  exact hend n7 s5_8 s6_9
def Z56_qn : Nat → (Sl TSel) → Int → Option Int
 | 0, _, _ => none
 | n + 1, a0, a1 => Option.bind (Z56_q7 a1 (Z56_qn n) a0.l (0 : Int)) fun s5_8 => on (s5_8) fun s5_4 => some s5_4
theorem Z56_qall : ∀ n : Nat, Z56_n n = Z56_qn n := by
 intro n
 induction n with
 | zero => exact (by funext a0 a1; first | rfl | (rw [Z56_n, Z56_qn]))
 | succ n ih =>
  funext a0 a1
  refine Eq.trans ?_ (Q.some_bind _)
  rw [Z56_n, Z56_qn]
  try rw [ih]
  refine Q.wrapOO fun Kb7 hKb7 => ?_
  refine Z56_l7_qe  Kb7 ?_ _ _ _ ⟨Nat.succ_pos _, by omega⟩
  intro n7 s5_8 s6_9
  refine Eq.trans ?_ (hKb7 _).symm
  refine Q.wrapPO fun Kj3 hKj3 => ?_
  have hj3 : ∀ (s5_4 : Int), Z56_j3  s5_4 = Kj3 s5_4 := by
   intro s5_4
   refine Eq.trans ?_ (hKj3 _).symm
   unfold Z56_j3
   all_goals rfl
  all_goals exact hj3 _
def Z56_q (a0 : (Sl TSel)) (a1 : Int) : Option Int := Z56_qn F0 a0 a1
theorem Z56_eq (a0 : (Sl TSel)) (a1 : Int) : Z56 a0 a1 = Z56_q a0 a1 := by
 unfold Z56 Z56_q; rw [(Z56_qall F0)]
def Z48_q24  : List TOp → Int → Option (Int)
 | [], s3_25 => some s3_25
 | h24 :: r24, s3_25 => bif (decide (s3_25 ≤ (600 : Int))) then (on (h24) fun x32 => (addC s3_25 ((x32.FVars.l.length : Nat) : Int)).bind fun x33 => on (h24) fun x34 => (Z56_q x34.FSels (600 : Int)).bind fun x35 => (addC x33 x35).bind fun x36 => Z48_q24  (r24) x36) else (some s3_25)
theorem Z48_l24_qe {a0 : TQuery}  (Kb24 : (Int) → Option Bool) (hend : ∀ (n24 : Nat) (s3_25 : Int) (s4_26 : Nat), Z48_j6 a0  s3_25 = Kb24 s3_25) : ∀ (n24 : Nat) (s3_25 : Int) (s4_26 : Nat), (0 < n24 ∧ a0.FOps.l.length < s4_26 + n24) → Z48_l24 a0 n24 s3_25 s4_26 = Option.bind (Z48_q24  (a0.FOps.l.drop s4_26) s3_25) Kb24 := by
 intro n24
 induction n24 with
 | zero => intro s3_25 s4_26 hn; exact absurd hn.1 (by omega)
 | succ n24 ih24 =>
  intro s3_25 s4_26 hn
  rw [Z48_l24]
  by_cases hlt : s4_26 < a0.FOps.l.length
  ·obtain ⟨h24, hh24⟩ : ∃ x, a0.FOps.l[s4_26]? = some x := ⟨_, List.getElem?_eq_getElem hlt⟩
   rw [Q.drop_of hh24, Z48_q24]
   refine Q.condAT (Q.ltT hlt) ?_
   refine Q.condO ?_ ?_
   ·refine Q.bindPO hh24 fun x32 hx_x32 => ?_
    refine Q.bindO rfl fun x33 => ?_
    refine Q.bindPO hh24 fun x34 hx_x34 => ?_
    refine Q.bindO (Z56_eq _ _) fun x35 => ?_
    refine Q.bindO rfl fun x36 => ?_
    all_goals exact ih24 _ _ ⟨by omega, by omega⟩
   all_goals exact hend n24 s3_25 s4_26
  rw [List.drop_of_length_le (by omega), Z48_q24]
  refine Q.condAF (Q.ltF hlt) ?_
  exact hend n24 s3_25 s4_26
def Z48_q12  : List TFrag → Int → Option (Int)
 | [], s3_13 => some s3_13
 | h12 :: r12, s3_13 => bif (decide (s3_13 ≤ (600 : Int))) then (on (h12) fun x20 => (Z56_q x20.FSels (600 : Int)).bind fun x21 => (addC s3_13 x21).bind fun x22 => Z48_q12  (r12) x22) else (some s3_13)
theorem Z48_l12_qe {a0 : TQuery}  (Kb12 : (Int) → Option Bool) (hend : ∀ (n12 : Nat) (s3_13 : Int) (s5_14 : Nat), Z48_j8   s3_13 = Kb12 s3_13) : ∀ (n12 : Nat) (s3_13 : Int) (s5_14 : Nat), (0 < n12 ∧ a0.FFrags.l.length < s5_14 + n12) → Z48_l12 a0 n12 s3_13 s5_14 = Option.bind (Z48_q12  (a0.FFrags.l.drop s5_14) s3_13) Kb12 := by
 intro n12
 induction n12 with
 | zero => intro s3_13 s5_14 hn; exact absurd hn.1 (by omega)
 | succ n12 ih12 =>
  intro s3_13 s5_14 hn
  rw [Z48_l12]
  by_cases hlt : s5_14 < a0.FFrags.l.length
  ·obtain ⟨h12, hh12⟩ : ∃ x, a0.FFrags.l[s5_14]? = some x := ⟨_, List.getElem?_eq_getElem hlt⟩
   rw [Q.drop_of hh12, Z48_q12]
   refine Q.condAT (Q.ltT hlt) ?_
   refine Q.condO ?_ ?_
   ·refine Q.bindPO hh12 fun x20 hx_x20 => ?_
    refine Q.bindO (Z56_eq _ _) fun x21 => ?_
    refine Q.bindO rfl fun x22 => ?_
    all_goals exact ih12 _ _ ⟨by omega, by omega⟩
   all_goals exact hend n12 s3_13 s5_14
  rw [List.drop_of_length_le (by omega), Z48_q12]
  refine Q.condAF (Q.ltF hlt) ?_
  exact hend n12 s3_13 s5_14
def Z48_q (a0 : TQuery) : Option Bool := (addC ((a0.FOps.l.length : Nat) : Int) ((a0.FFrags.l.length : Nat) : Int)).bind fun x5 => Option.bind (Z48_q24  a0.FOps.l x5) fun s3_25 => on (s3_25) fun s3_7 => Option.bind (Z48_q12  a0.FFrags.l s3_7) fun s3_13 => on (s3_13) fun s3_9 => some (decide ((600 : Int) < s3_9))
theorem Z48_eq (a0 : TQuery) : Z48 a0 = Z48_q a0 := by
 unfold Z48 Z48_q
 refine Eq.trans ?_ (Q.some_bind _)
 refine Q.bindO rfl fun x5 => ?_
 refine Q.wrapOO fun Kb24 hKb24 => ?_
 refine Z48_l24_qe  Kb24 ?_ _ _ _ ⟨Nat.succ_pos _, by omega⟩
 intro n24 s3_25 s4_26
 refine Eq.trans ?_ (hKb24 _).symm
 refine Q.wrapPO fun Kj6 hKj6 => ?_
 have hj6 : ∀ (s3_7 : Int), Z48_j6 a0 s3_7 = Kj6 s3_7 := by
  intro s3_7
  refine Eq.trans ?_ (hKj6 _).symm
  unfold Z48_j6
  refine Q.wrapOO fun Kb12 hKb12 => ?_
  refine Z48_l12_qe  Kb12 ?_ _ _ _ ⟨Nat.succ_pos _, by omega⟩
  intro n12 s3_13 s5_14
  refine Eq.trans ?_ (hKb12 _).symm
  refine Q.wrapPO fun Kj8 hKj8 => ?_
  have hj8 : ∀ (s3_9 : Int), Z48_j8  s3_9 = Kj8 s3_9 := by
   intro s3_9
   refine Eq.trans ?_ (hKj8 _).symm
   unfold Z48_j8
   all_goals rfl
  all_goals exact hj8 _
 all_goals exact hj6 _
def Z22_q (a0 : Int) : Bool := ((((decide ((65 : Int) ≤ a0)) && (decide (a0 ≤ (90 : Int)))) || ((decide ((97 : Int) ≤ a0)) && (decide (a0 ≤ (122 : Int))))) || (decide (a0 = (95 : Int))))
theorem Z22_eq (a0 : Int) : Z22 a0 = some (Z22_q a0) := by
 unfold Z22 Z22_q
 all_goals rfl
def Z21_q (a0 : Int) : Bool := ((decide ((48 : Int) ≤ a0)) && (decide (a0 ≤ (57 : Int))))
theorem Z21_eq (a0 : Int) : Z21 a0 = some (Z21_q a0) := by
 unfold Z21 Z21_q
 all_goals rfl
def Z19_q10  : List UInt8 → Nat → Unit ⊕ Bool
 | [], s3_11 => Sum.inl ()
 | h10 :: r10, s3_11 => on (h10) fun x18 => on (Z22_q ((x18.toNat : Nat) : Int)) fun x19 => on (bif ((!x19) && !(decide (((s3_11 : Nat) : Int) = (0 : Int)))) then h10 else (0 : UInt8)) fun x20 => on (bif ((!x19) && !(decide (((s3_11 : Nat) : Int) = (0 : Int)))) then Z21_q ((x20.toNat : Nat) : Int) else false) fun x21 => bif ((!x19) && ((decide (((s3_11 : Nat) : Int) = (0 : Int))) || (!x21))) then (Sum.inr false) else (Z19_q10  (r10) (s3_11 + 1) )
theorem Z19_l10_qe {a0 : Bs}  (Kb10 : (Unit ⊕ Bool) → Option Bool) (hend : ∀ (n10 : Nat) (s3_11 : Nat), Z19_j7    = Kb10 (Sum.inl ())) (hret : ∀ e : Bool, some e = Kb10 (Sum.inr e)) : ∀ (n10 : Nat) (s3_11 : Nat), (0 < n10 ∧ a0.length < s3_11 + n10) → Z19_l10 a0 n10 s3_11 = Kb10 (Z19_q10  (a0.drop s3_11) s3_11 ) := by
 intro n10
 induction n10 with
 | zero => intro s3_11 hn; exact absurd hn.1 (by omega)
 | succ n10 ih10 =>
  intro s3_11 hn
  rw [Z19_l10]
  by_cases hlt : s3_11 < a0.length
  ·obtain ⟨h10, hh10⟩ : ∃ x, a0[s3_11]? = some x := ⟨_, List.getElem?_eq_getElem hlt⟩
   rw [Q.drop_of hh10, Z19_q10]
   refine Q.condT (Q.ltT hlt) ?_
   refine Q.bindP hh10 fun x18 hx_x18 => ?_
   refine Q.bindP (Z22_eq _) fun x19 hx_x19 => ?_
   refine Q.guardP hh10 fun x20 hx_x20 => ?_
   refine Q.guardP (Z21_eq _) fun x21 hx_x21 => ?_
   refine Q.condP ?_ ?_
   ·all_goals exact hret _
   all_goals exact ih10 _ ⟨by omega, by omega⟩
  rw [List.drop_of_length_le (by omega), Z19_q10]
  refine Q.condF (Q.ltF hlt) ?_
  exact hend n10 s3_11
def Z19_q (a0 : Bs) : Bool := bif ((decide (((a0.length : Nat) : Int) < (1 : Int))) || (decide ((64 : Int) < ((a0.length : Nat) : Int)))) then (false) else (on (Z19_q10  a0 0 ) fun o10 => match o10 with | Sum.inl _ => (on (()) fun _ => true) | Sum.inr e10 => (e10))
theorem Z19_eq (a0 : Bs) : Z19 a0 = some (Z19_q a0) := by
 unfold Z19 Z19_q
 refine Q.condP ?_ ?_
 ·all_goals rfl
 refine Q.wrapPP fun Kb10 hKb10 => ?_
 refine Z19_l10_qe  Kb10 ?_ ?_ _ _ ⟨Nat.succ_pos _, by omega⟩
 ·intro n10 s3_11
  refine Eq.trans ?_ (hKb10 _).symm
  try dsimp only
  refine Q.wrapPP fun Kj7 hKj7 => ?_
  have hj7 : Z19_j7   = Kj7 () := by
   refine Eq.trans ?_ (hKj7 _).symm
   unfold Z19_j7
   all_goals rfl
  all_goals exact hj7
 intro e10
 refine Eq.trans ?_ (hKb10 _).symm
 try dsimp only
 all_goals rfl
def Z23_q8 (k_rec_116 : TValue → Option Int) : List TValue → Int → Option (Int)
 | [], s3_9 => some s3_9
 | h8 :: r8, s3_9 => on (h8) fun x16 => (k_rec_116 x16).bind fun x17 => Z23_q8 k_rec_116 (r8) (if x17 > s3_9 then x17 else s3_9)
theorem Z23_l8_qe {a0 : TValue} {k_rec_116 : TValue → Option Int}  (Kb8 : (Int) → Option Int) (hend : ∀ (n8 : Nat) (s3_9 : Int) (s4_10 : Nat), Z23_j3   s3_9 = Kb8 s3_9) : ∀ (n8 : Nat) (s3_9 : Int) (s4_10 : Nat), (0 < n8 ∧ a0.FItems.l.length < s4_10 + n8) → Z23_l8 a0 k_rec_116 n8 s3_9 s4_10 = Option.bind (Z23_q8 k_rec_116 (a0.FItems.l.drop s4_10) s3_9) Kb8 := by
 intro n8
 induction n8 with
 | zero => intro s3_9 s4_10 hn; exact absurd hn.1 (by omega)
 | succ n8 ih8 =>
  intro s3_9 s4_10 hn
  rw [Z23_l8]
  by_cases hlt : s4_10 < a0.FItems.l.length
  ·obtain ⟨h8, hh8⟩ : ∃ x, a0.FItems.l[s4_10]? = some x := ⟨_, List.getElem?_eq_getElem hlt⟩
   rw [Q.drop_of hh8, Z23_q8]
   refine Q.condT (Q.ltT hlt) ?_
   refine Q.bindPO hh8 fun x16 hx_x16 => ?_
   refine Q.bindO rfl fun x17 => ?_
   all_goals exact ih8 _ _ ⟨by omega, by omega⟩
  rw [List.drop_of_length_le (by omega), Z23_q8]
  refine Q.condF (Q.ltF hlt) ?_
  exact hend n8 s3_9 s4_10
def Z23_qn : Nat → TValue → Option Int
 | 0, _ => none
 | n + 1, a0 => Option.bind (Z23_q8 (Z23_qn n) a0.FItems.l (0 : Int)) fun s3_9 => on (s3_9) fun s3_4 => (addC s3_4 (1 : Int)).bind fun x6 => some x6
theorem Z23_qall : ∀ n : Nat, Z23_n n = Z23_qn n := by
 intro n
 induction n with
 | zero => exact (by funext a0; first | rfl | (rw [Z23_n, Z23_qn]))
 | succ n ih =>
  funext a0
  refine Eq.trans ?_ (Q.some_bind _)
  rw [Z23_n, Z23_qn]
  try rw [ih]
  refine Q.wrapOO fun Kb8 hKb8 => ?_
  refine Z23_l8_qe  Kb8 ?_ _ _ _ ⟨Nat.succ_pos _, by omega⟩
  intro n8 s3_9 s4_10
  refine Eq.trans ?_ (hKb8 _).symm
  refine Q.wrapPO fun Kj3 hKj3 => ?_
  have hj3 : ∀ (s3_4 : Int), Z23_j3  s3_4 = Kj3 s3_4 := by
   intro s3_4
   refine Eq.trans ?_ (hKj3 _).symm
   unfold Z23_j3
   refine Q.bindO rfl fun x6 => ?_
   all_goals rfl
  all_goals exact hj3 _
def Z23_q (a0 : TValue) : Option Int := Z23_qn F0 a0
theorem Z23_eq (a0 : TValue) : Z23 a0 = Z23_q a0 := by
 unfold Z23 Z23_q; rw [(Z23_qall F0)]
def Z27_q13 (a0 : (Sl Bs)) (h5 : Bs) : Nat → Nat → Option (Unit ⊕ Bool)
 | 0, s4_14 => some (Sum.inl ())
 | r13 + 1, s4_14 => on (h5) fun x20 => (a0.l[s4_14]?).bind fun x21 => bif ((x20 == x21)) then (some (Sum.inr true)) else (Z27_q13 a0 h5 (r13) (s4_14 + 1) )
theorem Z27_l13_qe {a0 : (Sl Bs)} {s3_6 : Nat} {k_next_5 : Nat → Option Bool} {h5 : Bs} (hh5 : a0.l[s3_6]? = some h5) (Kb13 : (Unit ⊕ Bool) → Option Bool) (hend : ∀ (n13 : Nat) (s4_14 : Nat), Z27_j11 s3_6 k_next_5  = Kb13 (Sum.inl ())) (hret : ∀ e : Bool, some e = Kb13 (Sum.inr e)) : ∀ (n13 : Nat) (s4_14 : Nat), (0 < n13 ∧ s3_6 < s4_14 + n13) → Z27_l13 a0 s3_6 k_next_5 n13 s4_14 = Option.bind (Z27_q13 a0 h5 (s3_6 - s4_14) s4_14 ) Kb13 := by
 intro n13
 induction n13 with
 | zero => intro s4_14 hn; exact absurd hn.1 (by omega)
 | succ n13 ih13 =>
  intro s4_14 hn
  rw [Z27_l13]
  by_cases hlt : s4_14 < s3_6
  ·rw [show s3_6 - s4_14 = (s3_6 - (s4_14 + 1)) + 1 by omega, Z27_q13]
   refine Q.condT (Q.ltT hlt) ?_
   refine Q.bindPO hh5 fun x20 hx_x20 => ?_
   refine Q.bindO rfl fun x21 => ?_
   refine Q.condO ?_ ?_
   ·all_goals exact hret _
   all_goals exact ih13 _ ⟨by omega, by omega⟩
  rw [show s3_6 - s4_14 = 0 by omega, Z27_q13]
  refine Q.condF (Q.ltF hlt) ?_
  exact hend n13 s4_14
def Z27_q5 (a0 : (Sl Bs)) : List Bs → Nat → Option (Unit ⊕ Bool)
 | [], s3_6 => some (Sum.inl ())
 | h5 :: r5, s3_6 => Option.bind (Z27_q13 a0 h5 s3_6 0 ) fun o13 => match o13 with | Sum.inl _ => (on (()) fun _ => Z27_q5 a0 (r5) (s3_6 + 1) ) | Sum.inr e13 => (some (Sum.inr e13))
theorem Z27_l5_qe {a0 : (Sl Bs)}  (Kb5 : (Unit ⊕ Bool) → Option Bool) (hend : ∀ (n5 : Nat) (s3_6 : Nat), Z27_j2    = Kb5 (Sum.inl ())) (hret : ∀ e : Bool, some e = Kb5 (Sum.inr e)) : ∀ (n5 : Nat) (s3_6 : Nat), (0 < n5 ∧ a0.l.length < s3_6 + n5) → Z27_l5 a0 n5 s3_6 = Option.bind (Z27_q5 a0 (a0.l.drop s3_6) s3_6 ) Kb5 := by
 intro n5
 induction n5 with
 | zero => intro s3_6 hn; exact absurd hn.1 (by omega)
 | succ n5 ih5 =>
  intro s3_6 hn
  rw [Z27_l5]
  by_cases hlt : s3_6 < a0.l.length
  ·obtain ⟨h5, hh5⟩ : ∃ x, a0.l[s3_6]? = some x := ⟨_, List.getElem?_eq_getElem hlt⟩
   rw [Q.drop_of hh5, Z27_q5]
   refine Q.condT (Q.ltT hlt) ?_
   refine Q.wrapOO fun Kb13 hKb13 => ?_
   refine Z27_l13_qe hh5 Kb13 ?_ ?_ _ _ ⟨Nat.succ_pos _, by omega⟩
   ·intro n13 s4_14
    refine Eq.trans ?_ (hKb13 _).symm
    try dsimp only
    refine Q.wrapPO fun Kj11 hKj11 => ?_
    have hj11 : Z27_j11 s3_6 (Z27_l5 a0 n5)  = Kj11 () := by
     refine Eq.trans ?_ (hKj11 _).symm
     unfold Z27_j11
     all_goals exact ih5 _ ⟨by omega, by omega⟩
    all_goals exact hj11
   intro e13
   refine Eq.trans ?_ (hKb13 _).symm
   try dsimp only
   all_goals exact hret _
  rw [List.drop_of_length_le (by omega), Z27_q5]
  refine Q.condF (Q.ltF hlt) ?_
  exact hend n5 s3_6
def Z27_q (a0 : (Sl Bs)) : Option Bool := Option.bind (Z27_q5 a0 a0.l 0 ) fun o5 => match o5 with | Sum.inl _ => (on (()) fun _ => some false) | Sum.inr e5 => (some e5)
theorem Z27_eq (a0 : (Sl Bs)) : Z27 a0 = Z27_q a0 := by
 unfold Z27 Z27_q
 refine Eq.trans ?_ (Q.some_bind _)
 refine Q.wrapOO fun Kb5 hKb5 => ?_
 refine Z27_l5_qe  Kb5 ?_ ?_ _ _ ⟨Nat.succ_pos _, by omega⟩
 ·intro n5 s3_6
  refine Eq.trans ?_ (hKb5 _).symm
  try dsimp only
  refine Q.wrapPO fun Kj2 hKj2 => ?_
  have hj2 : Z27_j2   = Kj2 () := by
   refine Eq.trans ?_ (hKj2 _).symm
   unfold Z27_j2
   all_goals rfl
  all_goals exact hj2
 intro e5
 refine Eq.trans ?_ (hKb5 _).symm
 try dsimp only
 all_goals rfl
def Z26_q (a0 : TValue) (a1 : Bool) : Option Bool := bif (decide (a0.FKind = (0 : Int))) then (some ((((decide (a0.FInt = (0 : Int))) && ((a0.FText == ([] : Bs)))) && (decide (((a0.FItems.l.length : Nat) : Int) = (0 : Int)))) && (decide (((a0.FKeys.l.length : Nat) : Int) = (0 : Int))))) else (bif (decide (a0.FKind = (1 : Int))) then (some (((((decide (a0.FInt = (0 : Int))) || (decide (a0.FInt = (1 : Int)))) && ((a0.FText == ([] : Bs)))) && (decide (((a0.FItems.l.length : Nat) : Int) = (0 : Int)))) && (decide (((a0.FKeys.l.length : Nat) : Int) = (0 : Int))))) else (bif (decide (a0.FKind = (2 : Int))) then (some ((((a0.FText == ([] : Bs))) && (decide (((a0.FItems.l.length : Nat) : Int) = (0 : Int)))) && (decide (((a0.FKeys.l.length : Nat) : Int) = (0 : Int))))) else (bif (decide (a0.FKind = (3 : Int))) then (some (((decide (a0.FInt = (0 : Int))) && (decide (((a0.FItems.l.length : Nat) : Int) = (0 : Int)))) && (decide (((a0.FKeys.l.length : Nat) : Int) = (0 : Int))))) else (bif (decide (a0.FKind = (4 : Int))) then (on (bif (((decide (a0.FInt = (0 : Int))) && (decide (((a0.FItems.l.length : Nat) : Int) = (0 : Int)))) && (decide (((a0.FKeys.l.length : Nat) : Int) = (0 : Int)))) then Z19_q a0.FText else false) fun x19 => some (((((((decide (a0.FInt = (0 : Int))) && (decide (((a0.FItems.l.length : Nat) : Int) = (0 : Int)))) && (decide (((a0.FKeys.l.length : Nat) : Int) = (0 : Int)))) && x19) && (!(a0.FText == ([116, 114, 117, 101] : Bs)))) && (!(a0.FText == ([102, 97, 108, 115, 101] : Bs)))) && (!(a0.FText == ([110, 117, 108, 108] : Bs))))) else (bif (decide (a0.FKind = (5 : Int))) then (some (((decide (a0.FInt = (0 : Int))) && ((a0.FText == ([] : Bs)))) && (decide (((a0.FKeys.l.length : Nat) : Int) = (0 : Int))))) else (bif (decide (a0.FKind = (6 : Int))) then (guardO ((((decide (a0.FInt = (0 : Int))) && ((a0.FText == ([] : Bs)))) && (decide (((a0.FKeys.l.length : Nat) : Int) = ((a0.FItems.l.length : Nat) : Int))))) (Z27_q a0.FKeys) false fun x26 => some ((((decide (a0.FInt = (0 : Int))) && ((a0.FText == ([] : Bs)))) && (decide (((a0.FKeys.l.length : Nat) : Int) = ((a0.FItems.l.length : Nat) : Int)))) && (!x26))) else (bif (decide (a0.FKind = (7 : Int))) then (on (bif (((a1 && (decide (a0.FInt = (0 : Int)))) && (decide (((a0.FItems.l.length : Nat) : Int) = (0 : Int)))) && (decide (((a0.FKeys.l.length : Nat) : Int) = (0 : Int)))) then Z19_q a0.FText else false) fun x30 => some ((((a1 && (decide (a0.FInt = (0 : Int)))) && (decide (((a0.FItems.l.length : Nat) : Int) = (0 : Int)))) && (decide (((a0.FKeys.l.length : Nat) : Int) = (0 : Int)))) && x30)) else (some false))))))))
theorem Z26_eq (a0 : TValue) (a1 : Bool) : Z26 a0 a1 = Z26_q a0 a1 := by
 unfold Z26 Z26_q
 refine Eq.trans ?_ (Q.some_bind _)
 refine Q.condO ?_ ?_
 ·all_goals rfl
 refine Q.condO ?_ ?_
 ·all_goals rfl
 refine Q.condO ?_ ?_
 ·all_goals rfl
 refine Q.condO ?_ ?_
 ·all_goals rfl
 refine Q.condO ?_ ?_
 ·refine Q.guardPO (Z19_eq _) fun x19 hx_x19 => ?_
  all_goals rfl
 refine Q.condO ?_ ?_
 ·all_goals rfl
 refine Q.condO ?_ ?_
 ·refine Q.guardOO (Z27_eq _) fun x26 => ?_
  all_goals rfl
 refine Q.condO ?_ ?_
 ·refine Q.guardPO (Z19_eq _) fun x30 hx_x30 => ?_
  all_goals rfl
 all_goals rfl
def Z28_q24 (a1 : Bool) : List Bs → Unit ⊕ Bool
 | [] => Sum.inl ()
 | h24 :: r24 => on (bif a1 then h24 else ([] : Bs)) fun x32 => on (bif a1 then Z19_q x32 else false) fun x33 => bif (a1 && (!x33)) then (Sum.inr false) else (Z28_q24 a1 (r24) )
theorem Z28_l24_qe {a0 : TValue} {a1 : Bool} {k_rec_117 : TValue → Bool → Option Bool}  (Kb24 : (Unit ⊕ Bool) → Option Bool) (hend : ∀ (n24 : Nat) (s5_25 : Nat), Z28_j7 a0 a1 k_rec_117  = Kb24 (Sum.inl ())) (hret : ∀ e : Bool, some e = Kb24 (Sum.inr e)) : ∀ (n24 : Nat) (s5_25 : Nat), (0 < n24 ∧ a0.FKeys.l.length < s5_25 + n24) → Z28_l24 a0 a1 k_rec_117 n24 s5_25 = Kb24 (Z28_q24 a1 (a0.FKeys.l.drop s5_25) ) := by
 intro n24
 induction n24 with
 | zero => intro s5_25 hn; exact absurd hn.1 (by omega)
 | succ n24 ih24 =>
  intro s5_25 hn
  rw [Z28_l24]
  by_cases hlt : s5_25 < a0.FKeys.l.length
  ·obtain ⟨h24, hh24⟩ : ∃ x, a0.FKeys.l[s5_25]? = some x := ⟨_, List.getElem?_eq_getElem hlt⟩
   rw [Q.drop_of hh24, Z28_q24]
   refine Q.condT (Q.ltT hlt) ?_
   refine Q.guardP hh24 fun x32 hx_x32 => ?_
   refine Q.guardP (Z19_eq _) fun x33 hx_x33 => ?_
   refine Q.condP ?_ ?_
   ·all_goals exact hret _
   all_goals exact ih24 _ ⟨by omega, by omega⟩
  rw [List.drop_of_length_le (by omega), Z28_q24]
  refine Q.condF (Q.ltF hlt) ?_
  exact hend n24 s5_25
def Z28_q11 (a1 : Bool) (k_rec_117 : TValue → Bool → Option Bool) : List TValue → Option (Unit ⊕ Bool)
 | [] => some (Sum.inl ())
 | h11 :: r11 => on (h11) fun x19 => (k_rec_117 x19 a1).bind fun x20 => bif (!x20) then (some (Sum.inr false)) else (Z28_q11 a1 k_rec_117 (r11) )
theorem Z28_l11_qe {a0 : TValue} {a1 : Bool} {k_rec_117 : TValue → Bool → Option Bool}  (Kb11 : (Unit ⊕ Bool) → Option Bool) (hend : ∀ (n11 : Nat) (s6_12 : Nat), Z28_j8    = Kb11 (Sum.inl ())) (hret : ∀ e : Bool, some e = Kb11 (Sum.inr e)) : ∀ (n11 : Nat) (s6_12 : Nat), (0 < n11 ∧ a0.FItems.l.length < s6_12 + n11) → Z28_l11 a0 a1 k_rec_117 n11 s6_12 = Option.bind (Z28_q11 a1 k_rec_117 (a0.FItems.l.drop s6_12) ) Kb11 := by
 intro n11
 induction n11 with
 | zero => intro s6_12 hn; exact absurd hn.1 (by omega)
 | succ n11 ih11 =>
  intro s6_12 hn
  rw [Z28_l11]
  by_cases hlt : s6_12 < a0.FItems.l.length
  ·obtain ⟨h11, hh11⟩ : ∃ x, a0.FItems.l[s6_12]? = some x := ⟨_, List.getElem?_eq_getElem hlt⟩
   rw [Q.drop_of hh11, Z28_q11]
   refine Q.condT (Q.ltT hlt) ?_
   refine Q.bindPO hh11 fun x19 hx_x19 => ?_
   refine Q.bindO rfl fun x20 => ?_
   refine Q.condO ?_ ?_
   ·all_goals exact hret _
   all_goals exact ih11 _ ⟨by omega, by omega⟩
  rw [List.drop_of_length_le (by omega), Z28_q11]
  refine Q.condF (Q.ltF hlt) ?_
  exact hend n11 s6_12
def Z28_qn : Nat → TValue → Bool → Option Bool
 | 0, _, _ => none
 | n + 1, a0, a1 => (Z26_q a0 a1).bind fun x4 => bif (!x4) then (some false) else (on (Z28_q24 a1 a0.FKeys.l ) fun o24 => match o24 with | Sum.inl _ => (on (()) fun _ => Option.bind (Z28_q11 a1 (Z28_qn n) a0.FItems.l ) fun o11 => match o11 with | Sum.inl _ => (on (()) fun _ => some true) | Sum.inr e11 => (some e11)) | Sum.inr e24 => (some e24))
theorem Z28_qall : ∀ n : Nat, Z28_n n = Z28_qn n := by
 intro n
 induction n with
 | zero => exact (by funext a0 a1; first | rfl | (rw [Z28_n, Z28_qn]))
 | succ n ih =>
  funext a0 a1
  refine Eq.trans ?_ (Q.some_bind _)
  rw [Z28_n, Z28_qn]
  try rw [ih]
  refine Q.bindO (Z26_eq _ _) fun x4 => ?_
  refine Q.condO ?_ ?_
  ·all_goals rfl
  refine Q.wrapPO fun Kb24 hKb24 => ?_
  refine Z28_l24_qe  Kb24 ?_ ?_ _ _ ⟨Nat.succ_pos _, by omega⟩
  ·intro n24 s5_25
   refine Eq.trans ?_ (hKb24 _).symm
   try dsimp only
   refine Q.wrapPO fun Kj7 hKj7 => ?_
   have hj7 : Z28_j7 a0 a1 (Z28_qn n)  = Kj7 () := by
    refine Eq.trans ?_ (hKj7 _).symm
    unfold Z28_j7
    refine Q.wrapOO fun Kb11 hKb11 => ?_
    refine Z28_l11_qe  Kb11 ?_ ?_ _ _ ⟨Nat.succ_pos _, by omega⟩
    ·intro n11 s6_12
     refine Eq.trans ?_ (hKb11 _).symm
     try dsimp only
     refine Q.wrapPO fun Kj8 hKj8 => ?_
     have hj8 : Z28_j8   = Kj8 () := by
      refine Eq.trans ?_ (hKj8 _).symm
      unfold Z28_j8
      all_goals rfl
     all_goals exact hj8
    intro e11
    refine Eq.trans ?_ (hKb11 _).symm
    try dsimp only
    all_goals rfl
   all_goals exact hj7
  intro e24
  refine Eq.trans ?_ (hKb24 _).symm
  try dsimp only
  all_goals rfl
def Z28_q (a0 : TValue) (a1 : Bool) : Option Bool := Z28_qn F0 a0 a1
theorem Z28_eq (a0 : TValue) (a1 : Bool) : Z28 a0 a1 = Z28_q a0 a1 := by
 unfold Z28 Z28_q; rw [(Z28_qall F0)]
def Z24_q (a0 : TValue) : Option Bool := (Z25_q a0).bind fun x3 => guardO ((decide (x3 ≤ (4096 : Int)))) (Z23_q a0) (0 : Int) fun x4 => guardO (((decide (x3 ≤ (4096 : Int))) && (decide (x4 ≤ (24 : Int))))) (Z28_q a0 true) false fun x5 => some (((decide (x3 ≤ (4096 : Int))) && (decide (x4 ≤ (24 : Int)))) && x5)
theorem Z24_eq (a0 : TValue) : Z24 a0 = Z24_q a0 := by
 unfold Z24 Z24_q
 refine Eq.trans ?_ (Q.some_bind _)
 refine Q.bindO (Z25_eq _) fun x3 => ?_
 refine Q.guardOO (Z23_eq _) fun x4 => ?_
 refine Q.guardOO (Z28_eq _ _) fun x5 => ?_
 all_goals rfl
def Z41_q5 (k_rec_114 : TValue → Option Bool) : List TValue → Option (Unit ⊕ Bool)
 | [] => some (Sum.inl ())
 | h5 :: r5 => on (h5) fun x13 => (k_rec_114 x13).bind fun x14 => bif (!x14) then (some (Sum.inr false)) else (Z41_q5 k_rec_114 (r5) )
theorem Z41_l5_qe {a0 : TValue} {k_rec_114 : TValue → Option Bool}  (Kb5 : (Unit ⊕ Bool) → Option Bool) (hend : ∀ (n5 : Nat) (s3_6 : Nat), Z41_j2 a0   = Kb5 (Sum.inl ())) (hret : ∀ e : Bool, some e = Kb5 (Sum.inr e)) : ∀ (n5 : Nat) (s3_6 : Nat), (0 < n5 ∧ a0.FItems.l.length < s3_6 + n5) → Z41_l5 a0 k_rec_114 n5 s3_6 = Option.bind (Z41_q5 k_rec_114 (a0.FItems.l.drop s3_6) ) Kb5 := by
 intro n5
 induction n5 with
 | zero => intro s3_6 hn; exact absurd hn.1 (by omega)
 | succ n5 ih5 =>
  intro s3_6 hn
  rw [Z41_l5]
  by_cases hlt : s3_6 < a0.FItems.l.length
  ·obtain ⟨h5, hh5⟩ : ∃ x, a0.FItems.l[s3_6]? = some x := ⟨_, List.getElem?_eq_getElem hlt⟩
   rw [Q.drop_of hh5, Z41_q5]
   refine Q.condT (Q.ltT hlt) ?_
   refine Q.bindPO hh5 fun x13 hx_x13 => ?_
   refine Q.bindO rfl fun x14 => ?_
   refine Q.condO ?_ ?_
   ·all_goals exact hret _
   all_goals exact ih5 _ ⟨by omega, by omega⟩
  rw [List.drop_of_length_le (by omega), Z41_q5]
  refine Q.condF (Q.ltF hlt) ?_
  exact hend n5 s3_6
def Z41_qn : Nat → TValue → Option Bool
 | 0, _ => none
 | n + 1, a0 => Option.bind (Z41_q5 (Z41_qn n) a0.FItems.l ) fun o5 => match o5 with | Sum.inl _ => (on (()) fun _ => some (!decide (a0.FKind = (7 : Int)))) | Sum.inr e5 => (some e5)
theorem Z41_qall : ∀ n : Nat, Z41_n n = Z41_qn n := by
 intro n
 induction n with
 | zero => exact (by funext a0; first | rfl | (rw [Z41_n, Z41_qn]))
 | succ n ih =>
  funext a0
  refine Eq.trans ?_ (Q.some_bind _)
  rw [Z41_n, Z41_qn]
  try rw [ih]
  refine Q.wrapOO fun Kb5 hKb5 => ?_
  refine Z41_l5_qe  Kb5 ?_ ?_ _ _ ⟨Nat.succ_pos _, by omega⟩
  ·intro n5 s3_6
   refine Eq.trans ?_ (hKb5 _).symm
   try dsimp only
   refine Q.wrapPO fun Kj2 hKj2 => ?_
   have hj2 : Z41_j2 a0  = Kj2 () := by
    refine Eq.trans ?_ (hKj2 _).symm
    unfold Z41_j2
    all_goals rfl
   all_goals exact hj2
  intro e5
  refine Eq.trans ?_ (hKb5 _).symm
  try dsimp only
  all_goals rfl
def Z41_q (a0 : TValue) : Option Bool := Z41_qn F0 a0
theorem Z41_eq (a0 : TValue) : Z41 a0 = Z41_q a0 := by
 unfold Z41 Z41_q; rw [(Z41_qall F0)]
def Z43_q25 (h10 : TDir) : List TArg → Option (Unit ⊕ Bool)
 | [] => some (Sum.inl ())
 | h25 :: r25 => on (h10) fun x34 => on (h25) fun x35 => on (Z19_q x35.FName) fun x37 => guardO (!(!x37)) (Z24_q x35.FValue) false fun x38 => guardO (!((!x37) || (!x38))) (Z41_q x35.FValue) false fun x39 => bif (((!x37) || (!x38)) || (!x39)) then (some (Sum.inr false)) else (Z43_q25 h10 (r25) )
theorem Z43_l25_qe {a0 : (Sl TDir)} {s3_11 : Nat} {k_next_10 : Nat → Option Bool} {h10 : TDir} (hh10 : a0.l[s3_11]? = some h10) (Kb25 : (Unit ⊕ Bool) → Option Bool) (hend : ∀ (n25 : Nat) (s4_26 : Nat), Z43_j16 s3_11 k_next_10  = Kb25 (Sum.inl ())) (hret : ∀ e : Bool, some e = Kb25 (Sum.inr e)) : ∀ (n25 : Nat) (s4_26 : Nat), (0 < n25 ∧ h10.FArgs.l.length < s4_26 + n25) → Z43_l25 a0 s3_11 k_next_10 n25 s4_26 = Option.bind (Z43_q25 h10 (h10.FArgs.l.drop s4_26) ) Kb25 := by
 intro n25
 induction n25 with
 | zero => intro s4_26 hn; exact absurd hn.1 (by omega)
 | succ n25 ih25 =>
  intro s4_26 hn
  rw [Z43_l25]
  refine Q.preB hh10 fun x29 hx_x29 => ?_
  subst hx_x29
  by_cases hlt : s4_26 < x29.FArgs.l.length
  ·obtain ⟨h25, hh25⟩ : ∃ x, x29.FArgs.l[s4_26]? = some x := ⟨_, List.getElem?_eq_getElem hlt⟩
   rw [Q.drop_of hh25, Z43_q25]
   refine Q.condT (Q.ltT hlt) ?_
   refine Q.bindPO hh10 fun x34 hx_x34 => ?_
   refine Q.bindPO (by first | exact hh25 | (simp only [hx_x34]; exact hh25) | (simp only [hx_x34] at hh25 ⊢; exact hh25)) fun x35 hx_x35 => ?_
   refine Q.bindPO (Z19_eq _) fun x37 hx_x37 => ?_
   refine Q.guardOO (Z24_eq _) fun x38 => ?_
   refine Q.guardOO (Z41_eq _) fun x39 => ?_
   refine Q.condO ?_ ?_
   ·all_goals exact hret _
   all_goals exact ih25 _ ⟨by omega, by omega⟩
  rw [List.drop_of_length_le (by omega), Z43_q25]
  refine Q.condF (Q.ltF hlt) ?_
  exact hend n25 s4_26
def Z43_q10  : List TDir → Option (Unit ⊕ Bool)
 | [] => some (Sum.inl ())
 | h10 :: r10 => on (h10) fun x19 => on (Z19_q x19.FName) fun x20 => on (bif !(!x20) then h10 else TDir.zero) fun x21 => bif ((!x20) || (decide ((16 : Int) < ((x21.FArgs.l.length : Nat) : Int)))) then (some (Sum.inr false)) else (Option.bind (Z43_q25 h10 h10.FArgs.l ) fun o25 => match o25 with | Sum.inl _ => (on (()) fun _ => Z43_q10  (r10) ) | Sum.inr e25 => (some (Sum.inr e25)))
theorem Z43_l10_qe {a0 : (Sl TDir)}  (Kb10 : (Unit ⊕ Bool) → Option Bool) (hend : ∀ (n10 : Nat) (s3_11 : Nat), Z43_j7    = Kb10 (Sum.inl ())) (hret : ∀ e : Bool, some e = Kb10 (Sum.inr e)) : ∀ (n10 : Nat) (s3_11 : Nat), (0 < n10 ∧ a0.l.length < s3_11 + n10) → Z43_l10 a0 n10 s3_11 = Option.bind (Z43_q10  (a0.l.drop s3_11) ) Kb10 := by
 intro n10
 induction n10 with
 | zero => intro s3_11 hn; exact absurd hn.1 (by omega)
 | succ n10 ih10 =>
  intro s3_11 hn
  rw [Z43_l10]
  by_cases hlt : s3_11 < a0.l.length
  ·obtain ⟨h10, hh10⟩ : ∃ x, a0.l[s3_11]? = some x := ⟨_, List.getElem?_eq_getElem hlt⟩
   rw [Q.drop_of hh10, Z43_q10]
   refine Q.condT (Q.ltT hlt) ?_
   refine Q.bindPO hh10 fun x19 hx_x19 => ?_
   refine Q.bindPO (Z19_eq _) fun x20 hx_x20 => ?_
   refine Q.guardPO hh10 fun x21 hx_x21 => ?_
   refine Q.condO ?_ ?_
   ·all_goals exact hret _
   refine Q.wrapOO fun Kb25 hKb25 => ?_
   refine Z43_l25_qe hh10 Kb25 ?_ ?_ _ _ ⟨by rw [hh10]; exact Nat.succ_pos _, by rw [hh10]; simp only [Option.elim]; omega⟩
   ·intro n25 s4_26
    refine Eq.trans ?_ (hKb25 _).symm
    try dsimp only
    refine Q.wrapPO fun Kj16 hKj16 => ?_
    have hj16 : Z43_j16 s3_11 (Z43_l10 a0 n10)  = Kj16 () := by
     refine Eq.trans ?_ (hKj16 _).symm
     unfold Z43_j16
     all_goals exact ih10 _ ⟨by omega, by omega⟩
    all_goals exact hj16
   intro e25
   refine Eq.trans ?_ (hKb25 _).symm
   try dsimp only
   all_goals exact hret _
  rw [List.drop_of_length_le (by omega), Z43_q10]
  refine Q.condF (Q.ltF hlt) ?_
  exact hend n10 s3_11
def Z43_q (a0 : (Sl TDir)) : Option Bool := bif (decide ((16 : Int) < ((a0.l.length : Nat) : Int))) then (some false) else (Option.bind (Z43_q10  a0.l ) fun o10 => match o10 with | Sum.inl _ => (on (()) fun _ => some true) | Sum.inr e10 => (some e10))
theorem Z43_eq (a0 : (Sl TDir)) : Z43 a0 = Z43_q a0 := by
 unfold Z43 Z43_q
 refine Eq.trans ?_ (Q.some_bind _)
 refine Q.condO ?_ ?_
 ·all_goals rfl
 refine Q.wrapOO fun Kb10 hKb10 => ?_
 refine Z43_l10_qe  Kb10 ?_ ?_ _ _ ⟨Nat.succ_pos _, by omega⟩
 ·intro n10 s3_11
  refine Eq.trans ?_ (hKb10 _).symm
  try dsimp only
  refine Q.wrapPO fun Kj7 hKj7 => ?_
  have hj7 : Z43_j7   = Kj7 () := by
   refine Eq.trans ?_ (hKj7 _).symm
   unfold Z43_j7
   all_goals rfl
  all_goals exact hj7
 intro e10
 refine Eq.trans ?_ (hKb10 _).symm
 try dsimp only
 all_goals rfl
def Z35_q10 (a0 : TRef) : List Int → Nat → Option (Unit ⊕ Bool)
 | [], s3_11 => some (Sum.inl ())
 | h10 :: r10, s3_11 => on (h10) fun x19 => on (bif (!decide (x19 = (1 : Int))) then h10 else (0 : Int)) fun x20 => bif ((!decide (x19 = (1 : Int))) && (!decide (x20 = (2 : Int)))) then (some (Sum.inr false)) else (on (bif (decide ((0 : Int) < ((s3_11 : Nat) : Int))) then h10 else (0 : Int)) fun x24 => guardO (((decide ((0 : Int) < ((s3_11 : Nat) : Int))) && (decide (x24 = (1 : Int))))) (subC ((s3_11 : Nat) : Int) (1 : Int)) (0 : Int) fun x25 => guardO (((decide ((0 : Int) < ((s3_11 : Nat) : Int))) && (decide (x24 = (1 : Int))))) (idxC a0.FWraps.l x25) (0 : Int) fun x26 => bif (((decide ((0 : Int) < ((s3_11 : Nat) : Int))) && (decide (x24 = (1 : Int)))) && (decide (x26 = (1 : Int)))) then (some (Sum.inr false)) else (Z35_q10 a0 (r10) (s3_11 + 1) ))
theorem Z35_l10_qe {a0 : TRef}  (Kb10 : (Unit ⊕ Bool) → Option Bool) (hend : ∀ (n10 : Nat) (s3_11 : Nat), Z35_j7    = Kb10 (Sum.inl ())) (hret : ∀ e : Bool, some e = Kb10 (Sum.inr e)) : ∀ (n10 : Nat) (s3_11 : Nat), (0 < n10 ∧ a0.FWraps.l.length < s3_11 + n10) → Z35_l10 a0 n10 s3_11 = Option.bind (Z35_q10 a0 (a0.FWraps.l.drop s3_11) s3_11 ) Kb10 := by
 intro n10
 induction n10 with
 | zero => intro s3_11 hn; exact absurd hn.1 (by omega)
 | succ n10 ih10 =>
  intro s3_11 hn
  rw [Z35_l10]
  by_cases hlt : s3_11 < a0.FWraps.l.length
  ·obtain ⟨h10, hh10⟩ : ∃ x, a0.FWraps.l[s3_11]? = some x := ⟨_, List.getElem?_eq_getElem hlt⟩
   rw [Q.drop_of hh10, Z35_q10]
   refine Q.condT (Q.ltT hlt) ?_
   refine Q.bindPO hh10 fun x19 hx_x19 => ?_
   refine Q.guardPO hh10 fun x20 hx_x20 => ?_
   refine Q.condO ?_ ?_
   ·all_goals exact hret _
   refine Q.guardPO hh10 fun x24 hx_x24 => ?_
   refine Q.guardOO rfl fun x25 => ?_
   refine Q.guardOO rfl fun x26 => ?_
   refine Q.condO ?_ ?_
   ·all_goals exact hret _
   all_goals exact ih10 _ ⟨by omega, by omega⟩
  rw [List.drop_of_length_le (by omega), Z35_q10]
  refine Q.condF (Q.ltF hlt) ?_
  exact hend n10 s3_11
def Z35_q (a0 : TRef) : Option Bool := on (Z19_q a0.FName) fun x4 => bif ((!x4) || (decide ((24 : Int) < ((a0.FWraps.l.length : Nat) : Int)))) then (some false) else (Option.bind (Z35_q10 a0 a0.FWraps.l 0 ) fun o10 => match o10 with | Sum.inl _ => (on (()) fun _ => some true) | Sum.inr e10 => (some e10))
theorem Z35_eq (a0 : TRef) : Z35 a0 = Z35_q a0 := by
 unfold Z35 Z35_q
 refine Eq.trans ?_ (Q.some_bind _)
 refine Q.bindPO (Z19_eq _) fun x4 hx_x4 => ?_
 refine Q.condO ?_ ?_
 ·all_goals rfl
 refine Q.wrapOO fun Kb10 hKb10 => ?_
 refine Z35_l10_qe  Kb10 ?_ ?_ _ _ ⟨Nat.succ_pos _, by omega⟩
 ·intro n10 s3_11
  refine Eq.trans ?_ (hKb10 _).symm
  try dsimp only
  refine Q.wrapPO fun Kj7 hKj7 => ?_
  have hj7 : Z35_j7   = Kj7 () := by
   refine Eq.trans ?_ (hKj7 _).symm
   unfold Z35_j7
   all_goals rfl
  all_goals exact hj7
 intro e10
 refine Eq.trans ?_ (hKb10 _).symm
 try dsimp only
 all_goals rfl
def Z47_q (a0 : TValue) : Bool := (((((decide (a0.FKind = (0 : Int))) && (decide (a0.FInt = (0 : Int)))) && ((a0.FText == ([] : Bs)))) && (decide (((a0.FItems.l.length : Nat) : Int) = (0 : Int)))) && (decide (((a0.FKeys.l.length : Nat) : Int) = (0 : Int))))
theorem Z47_eq (a0 : TValue) : Z47 a0 = some (Z47_q a0) := by
 unfold Z47 Z47_q
 all_goals rfl
def Z45_q10  : List TInput → Option (Unit ⊕ Bool)
 | [] => some (Sum.inl ())
 | h10 :: r10 => on (h10) fun x18 => on (Z19_q x18.FName) fun x21 => guardO (!(!x21)) (Z35_q x18.FType) false fun x22 => guardO (!((!x21) || (!x22))) (Z43_q x18.FDirs) false fun x23 => bif (((!x21) || (!x22)) || (!x23)) then (some (Sum.inr false)) else (guardO (x18.FHas) (Z24_q x18.FDefault) false fun x27 => guardO ((x18.FHas && !(!x27))) (Z41_q x18.FDefault) false fun x28 => on (bif (!(x18.FHas && ((!x27) || (!x28))) && (!x18.FHas)) then Z47_q x18.FDefault else false) fun x29 => bif ((x18.FHas && ((!x27) || (!x28))) || ((!x18.FHas) && (!x29))) then (some (Sum.inr false)) else (Z45_q10  (r10) ))
theorem Z45_l10_qe {a0 : (Sl TInput)}  (Kb10 : (Unit ⊕ Bool) → Option Bool) (hend : ∀ (n10 : Nat) (s3_11 : Nat), Z45_j7    = Kb10 (Sum.inl ())) (hret : ∀ e : Bool, some e = Kb10 (Sum.inr e)) : ∀ (n10 : Nat) (s3_11 : Nat), (0 < n10 ∧ a0.l.length < s3_11 + n10) → Z45_l10 a0 n10 s3_11 = Option.bind (Z45_q10  (a0.l.drop s3_11) ) Kb10 := by
 intro n10
 induction n10 with
 | zero => intro s3_11 hn; exact absurd hn.1 (by omega)
 | succ n10 ih10 =>
  intro s3_11 hn
  rw [Z45_l10]
  by_cases hlt : s3_11 < a0.l.length
  ·obtain ⟨h10, hh10⟩ : ∃ x, a0.l[s3_11]? = some x := ⟨_, List.getElem?_eq_getElem hlt⟩
   rw [Q.drop_of hh10, Z45_q10]
   refine Q.condT (Q.ltT hlt) ?_
   refine Q.bindPO hh10 fun x18 hx_x18 => ?_
   refine Q.bindPO (Z19_eq _) fun x21 hx_x21 => ?_
   refine Q.guardOO (Z35_eq _) fun x22 => ?_
   refine Q.guardOO (Z43_eq _) fun x23 => ?_
   refine Q.condO ?_ ?_
   ·all_goals exact hret _
   refine Q.guardOO (Z24_eq _) fun x27 => ?_
   refine Q.guardOO (Z41_eq _) fun x28 => ?_
   refine Q.guardPO (Z47_eq _) fun x29 hx_x29 => ?_
   refine Q.condO ?_ ?_
   ·all_goals exact hret _
   all_goals exact ih10 _ ⟨by omega, by omega⟩
  rw [List.drop_of_length_le (by omega), Z45_q10]
  refine Q.condF (Q.ltF hlt) ?_
  exact hend n10 s3_11
def Z45_q (a0 : (Sl TInput)) : Option Bool := bif (decide ((16 : Int) < ((a0.l.length : Nat) : Int))) then (some false) else (Option.bind (Z45_q10  a0.l ) fun o10 => match o10 with | Sum.inl _ => (on (()) fun _ => some true) | Sum.inr e10 => (some e10))
theorem Z45_eq (a0 : (Sl TInput)) : Z45 a0 = Z45_q a0 := by
 unfold Z45 Z45_q
 refine Eq.trans ?_ (Q.some_bind _)
 refine Q.condO ?_ ?_
 ·all_goals rfl
 refine Q.wrapOO fun Kb10 hKb10 => ?_
 refine Z45_l10_qe  Kb10 ?_ ?_ _ _ ⟨Nat.succ_pos _, by omega⟩
 ·intro n10 s3_11
  refine Eq.trans ?_ (hKb10 _).symm
  try dsimp only
  refine Q.wrapPO fun Kj7 hKj7 => ?_
  have hj7 : Z45_j7   = Kj7 () := by
   refine Eq.trans ?_ (hKj7 _).symm
   unfold Z45_j7
   all_goals rfl
  all_goals exact hj7
 intro e10
 refine Eq.trans ?_ (hKb10 _).symm
 try dsimp only
 all_goals rfl
def Z44_q10  : List TField → Option (Unit ⊕ Bool)
 | [] => some (Sum.inl ())
 | h10 :: r10 => on (h10) fun x18 => on (Z19_q x18.FName) fun x19 => on (bif !(!x19) then h10 else TField.zero) fun x20 => guardO (!(!x19)) (Z45_q x20.FArgs) false fun x21 => on (bif !((!x19) || (!x21)) then h10 else TField.zero) fun x22 => guardO (!((!x19) || (!x21))) (Z35_q x22.FType) false fun x23 => on (bif !(((!x19) || (!x21)) || (!x23)) then h10 else TField.zero) fun x24 => guardO (!(((!x19) || (!x21)) || (!x23))) (Z43_q x24.FDirs) false fun x25 => bif ((((!x19) || (!x21)) || (!x23)) || (!x25)) then (some (Sum.inr false)) else (Z44_q10  (r10) )
theorem Z44_l10_qe {a0 : (Sl TField)}  (Kb10 : (Unit ⊕ Bool) → Option Bool) (hend : ∀ (n10 : Nat) (s3_11 : Nat), Z44_j7    = Kb10 (Sum.inl ())) (hret : ∀ e : Bool, some e = Kb10 (Sum.inr e)) : ∀ (n10 : Nat) (s3_11 : Nat), (0 < n10 ∧ a0.l.length < s3_11 + n10) → Z44_l10 a0 n10 s3_11 = Option.bind (Z44_q10  (a0.l.drop s3_11) ) Kb10 := by
 intro n10
 induction n10 with
 | zero => intro s3_11 hn; exact absurd hn.1 (by omega)
 | succ n10 ih10 =>
  intro s3_11 hn
  rw [Z44_l10]
  by_cases hlt : s3_11 < a0.l.length
  ·obtain ⟨h10, hh10⟩ : ∃ x, a0.l[s3_11]? = some x := ⟨_, List.getElem?_eq_getElem hlt⟩
   rw [Q.drop_of hh10, Z44_q10]
   refine Q.condT (Q.ltT hlt) ?_
   refine Q.bindPO hh10 fun x18 hx_x18 => ?_
   refine Q.bindPO (Z19_eq _) fun x19 hx_x19 => ?_
   refine Q.guardPO hh10 fun x20 hx_x20 => ?_
   refine Q.guardOO (Z45_eq _) fun x21 => ?_
   refine Q.guardPO hh10 fun x22 hx_x22 => ?_
   refine Q.guardOO (Z35_eq _) fun x23 => ?_
   refine Q.guardPO hh10 fun x24 hx_x24 => ?_
   refine Q.guardOO (Z43_eq _) fun x25 => ?_
   refine Q.condO ?_ ?_
   ·all_goals exact hret _
   all_goals exact ih10 _ ⟨by omega, by omega⟩
  rw [List.drop_of_length_le (by omega), Z44_q10]
  refine Q.condF (Q.ltF hlt) ?_
  exact hend n10 s3_11
def Z44_q (a0 : (Sl TField)) : Option Bool := bif ((decide (((a0.l.length : Nat) : Int) < (1 : Int))) || (decide ((64 : Int) < ((a0.l.length : Nat) : Int)))) then (some false) else (Option.bind (Z44_q10  a0.l ) fun o10 => match o10 with | Sum.inl _ => (on (()) fun _ => some true) | Sum.inr e10 => (some e10))
theorem Z44_eq (a0 : (Sl TField)) : Z44 a0 = Z44_q a0 := by
 unfold Z44 Z44_q
 refine Eq.trans ?_ (Q.some_bind _)
 refine Q.condO ?_ ?_
 ·all_goals rfl
 refine Q.wrapOO fun Kb10 hKb10 => ?_
 refine Z44_l10_qe  Kb10 ?_ ?_ _ _ ⟨Nat.succ_pos _, by omega⟩
 ·intro n10 s3_11
  refine Eq.trans ?_ (hKb10 _).symm
  try dsimp only
  refine Q.wrapPO fun Kj7 hKj7 => ?_
  have hj7 : Z44_j7   = Kj7 () := by
   refine Eq.trans ?_ (hKj7 _).symm
   unfold Z44_j7
   all_goals rfl
  all_goals exact hj7
 intro e10
 refine Eq.trans ?_ (hKb10 _).symm
 try dsimp only
 all_goals rfl
def Z46_q10 (a1 : Bool) : List TMember → Option (Unit ⊕ Bool)
 | [] => some (Sum.inl ())
 | h10 :: r10 => on (h10) fun x18 => on (Z19_q x18.FName) fun x19 => on (bif !(!x19) then h10 else TMember.zero) fun x20 => guardO (!(!x19)) (Z43_q x20.FDirs) false fun x21 => on (bif (!((!x19) || (!x21)) && a1) then h10 else TMember.zero) fun x22 => bif (((!x19) || (!x21)) || (a1 && (decide ((0 : Int) < ((x22.FDirs.l.length : Nat) : Int))))) then (some (Sum.inr false)) else (Z46_q10 a1 (r10) )
theorem Z46_l10_qe {a0 : (Sl TMember)} {a1 : Bool}  (Kb10 : (Unit ⊕ Bool) → Option Bool) (hend : ∀ (n10 : Nat) (s5_11 : Nat), Z46_j7    = Kb10 (Sum.inl ())) (hret : ∀ e : Bool, some e = Kb10 (Sum.inr e)) : ∀ (n10 : Nat) (s5_11 : Nat), (0 < n10 ∧ a0.l.length < s5_11 + n10) → Z46_l10 a0 a1 n10 s5_11 = Option.bind (Z46_q10 a1 (a0.l.drop s5_11) ) Kb10 := by
 intro n10
 induction n10 with
 | zero => intro s5_11 hn; exact absurd hn.1 (by omega)
 | succ n10 ih10 =>
  intro s5_11 hn
  rw [Z46_l10]
  by_cases hlt : s5_11 < a0.l.length
  ·obtain ⟨h10, hh10⟩ : ∃ x, a0.l[s5_11]? = some x := ⟨_, List.getElem?_eq_getElem hlt⟩
   rw [Q.drop_of hh10, Z46_q10]
   refine Q.condT (Q.ltT hlt) ?_
   refine Q.bindPO hh10 fun x18 hx_x18 => ?_
   refine Q.bindPO (Z19_eq _) fun x19 hx_x19 => ?_
   refine Q.guardPO hh10 fun x20 hx_x20 => ?_
   refine Q.guardOO (Z43_eq _) fun x21 => ?_
   refine Q.guardPO hh10 fun x22 hx_x22 => ?_
   refine Q.condO ?_ ?_
   ·all_goals exact hret _
   all_goals exact ih10 _ ⟨by omega, by omega⟩
  rw [List.drop_of_length_le (by omega), Z46_q10]
  refine Q.condF (Q.ltF hlt) ?_
  exact hend n10 s5_11
def Z46_q (a0 : (Sl TMember)) (a1 : Bool) : Option Bool := bif ((decide (((a0.l.length : Nat) : Int) < (1 : Int))) || (decide ((64 : Int) < ((a0.l.length : Nat) : Int)))) then (some false) else (Option.bind (Z46_q10 a1 a0.l ) fun o10 => match o10 with | Sum.inl _ => (on (()) fun _ => some true) | Sum.inr e10 => (some e10))
theorem Z46_eq (a0 : (Sl TMember)) (a1 : Bool) : Z46 a0 a1 = Z46_q a0 a1 := by
 unfold Z46 Z46_q
 refine Eq.trans ?_ (Q.some_bind _)
 refine Q.condO ?_ ?_
 ·all_goals rfl
 refine Q.wrapOO fun Kb10 hKb10 => ?_
 refine Z46_l10_qe  Kb10 ?_ ?_ _ _ ⟨Nat.succ_pos _, by omega⟩
 ·intro n10 s5_11
  refine Eq.trans ?_ (hKb10 _).symm
  try dsimp only
  refine Q.wrapPO fun Kj7 hKj7 => ?_
  have hj7 : Z46_j7   = Kj7 () := by
   refine Eq.trans ?_ (hKj7 _).symm
   unfold Z46_j7
   all_goals rfl
  all_goals exact hj7
 intro e10
 refine Eq.trans ?_ (hKb10 _).symm
 try dsimp only
 all_goals rfl
end Go.Proofs

namespace Go.Proofs
open Go Go.Ab
def Z42_q34  : List Bs → Unit ⊕ Bool
 | [] => Sum.inl ()
 | h34 :: r34 => on (h34) fun x42 => on (Z19_q x42) fun x43 => bif (!x43) then (Sum.inr false) else (Z42_q34  (r34) )
theorem Z42_l34_qe {a0 : TDef}  (Kb34 : (Unit ⊕ Bool) → Option Bool) (hend : ∀ (n34 : Nat) (s3_35 : Nat), Z42_j8 a0   = Kb34 (Sum.inl ())) (hret : ∀ e : Bool, some e = Kb34 (Sum.inr e)) : ∀ (n34 : Nat) (s3_35 : Nat), (0 < n34 ∧ a0.FImplements.l.length < s3_35 + n34) → Z42_l34 a0 n34 s3_35 = Kb34 (Z42_q34  (a0.FImplements.l.drop s3_35) ) := by
 intro n34
 induction n34 with
 | zero => intro s3_35 hn; exact absurd hn.1 (by omega)
 | succ n34 ih34 =>
  intro s3_35 hn
  rw [Z42_l34]
  by_cases hlt : s3_35 < a0.FImplements.l.length
  ·obtain ⟨h34, hh34⟩ : ∃ x, a0.FImplements.l[s3_35]? = some x := ⟨_, List.getElem?_eq_getElem hlt⟩
   rw [Q.drop_of hh34, Z42_q34]
   refine Q.condT (Q.ltT hlt) ?_
   refine Q.bindP hh34 fun x42 hx_x42 => ?_
   refine Q.bindP (Z19_eq _) fun x43 hx_x43 => ?_
   refine Q.condP ?_ ?_
   ·all_goals exact hret _
   all_goals exact ih34 _ ⟨by omega, by omega⟩
  rw [List.drop_of_length_le (by omega), Z42_q34]
  refine Q.condF (Q.ltF hlt) ?_
  exact hend n34 s3_35
def Z42_q (a0 : TDef) : Option Bool := on (Z19_q a0.FName) fun x4 => guardO (!(!x4)) (Z43_q a0.FDirs) false fun x5 => bif (((!x4) || (!x5)) || (decide ((64 : Int) < ((a0.FImplements.l.length : Nat) : Int)))) then (some false) else (on (Z42_q34  a0.FImplements.l ) fun o34 => match o34 with | Sum.inl _ => (on (()) fun _ => bif (decide (a0.FKind = (1 : Int))) then ((Z44_q a0.FFields).bind fun x15 => some ((x15 && (decide (((a0.FMembers.l.length : Nat) : Int) = (0 : Int)))) && (decide (((a0.FInputs.l.length : Nat) : Int) = (0 : Int))))) else (bif (decide (a0.FKind = (2 : Int))) then (guardO ((decide (((a0.FImplements.l.length : Nat) : Int) = (0 : Int)))) (Z44_q a0.FFields) false fun x19 => some ((((decide (((a0.FImplements.l.length : Nat) : Int) = (0 : Int))) && x19) && (decide (((a0.FMembers.l.length : Nat) : Int) = (0 : Int)))) && (decide (((a0.FInputs.l.length : Nat) : Int) = (0 : Int))))) else (bif (decide (a0.FKind = (3 : Int))) then (guardO (((decide (((a0.FImplements.l.length : Nat) : Int) = (0 : Int))) && (decide (((a0.FFields.l.length : Nat) : Int) = (0 : Int))))) (Z46_q a0.FMembers true) false fun x23 => some ((((decide (((a0.FImplements.l.length : Nat) : Int) = (0 : Int))) && (decide (((a0.FFields.l.length : Nat) : Int) = (0 : Int)))) && x23) && (decide (((a0.FInputs.l.length : Nat) : Int) = (0 : Int))))) else (bif (decide (a0.FKind = (4 : Int))) then (guardO (((decide (((a0.FImplements.l.length : Nat) : Int) = (0 : Int))) && (decide (((a0.FFields.l.length : Nat) : Int) = (0 : Int))))) (Z46_q a0.FMembers false) false fun x27 => some ((((decide (((a0.FImplements.l.length : Nat) : Int) = (0 : Int))) && (decide (((a0.FFields.l.length : Nat) : Int) = (0 : Int)))) && x27) && (decide (((a0.FInputs.l.length : Nat) : Int) = (0 : Int))))) else (bif (decide (a0.FKind = (5 : Int))) then (guardO (((((decide (((a0.FImplements.l.length : Nat) : Int) = (0 : Int))) && (decide (((a0.FFields.l.length : Nat) : Int) = (0 : Int)))) && (decide (((a0.FMembers.l.length : Nat) : Int) = (0 : Int)))) && (decide ((0 : Int) < ((a0.FInputs.l.length : Nat) : Int))))) (Z45_q a0.FInputs) false fun x31 => some (((((decide (((a0.FImplements.l.length : Nat) : Int) = (0 : Int))) && (decide (((a0.FFields.l.length : Nat) : Int) = (0 : Int)))) && (decide (((a0.FMembers.l.length : Nat) : Int) = (0 : Int)))) && (decide ((0 : Int) < ((a0.FInputs.l.length : Nat) : Int)))) && x31)) else (some false)))))) | Sum.inr e34 => (some e34))
theorem Z42_eq (a0 : TDef) : Z42 a0 = Z42_q a0 := by
 unfold Z42 Z42_q
 refine Eq.trans ?_ (Q.some_bind _)
 refine Q.bindPO (Z19_eq _) fun x4 hx_x4 => ?_
 refine Q.guardOO (Z43_eq _) fun x5 => ?_
 refine Q.condO ?_ ?_
 ·all_goals rfl
 refine Q.wrapPO fun Kb34 hKb34 => ?_
 refine Z42_l34_qe  Kb34 ?_ ?_ _ _ ⟨Nat.succ_pos _, by omega⟩
 ·intro n34 s3_35
  refine Eq.trans ?_ (hKb34 _).symm
  try dsimp only
  refine Q.wrapPO fun Kj8 hKj8 => ?_
  have hj8 : Z42_j8 a0  = Kj8 () := by
   refine Eq.trans ?_ (hKj8 _).symm
   unfold Z42_j8
   refine Q.condO ?_ ?_
   ·refine Q.bindO (Z44_eq _) fun x15 => ?_
    all_goals rfl
   refine Q.condO ?_ ?_
   ·refine Q.guardOO (Z44_eq _) fun x19 => ?_
    all_goals rfl
   refine Q.condO ?_ ?_
   ·refine Q.guardOO (Z46_eq _ _) fun x23 => ?_
    all_goals rfl
   refine Q.condO ?_ ?_
   ·refine Q.guardOO (Z46_eq _ _) fun x27 => ?_
    all_goals rfl
   refine Q.condO ?_ ?_
   ·refine Q.guardOO (Z45_eq _) fun x31 => ?_
    all_goals rfl
   all_goals rfl
  all_goals exact hj8
 intro e34
 refine Eq.trans ?_ (hKb34 _).symm
 try dsimp only
 all_goals rfl
def Z40_q10  : List TDef → Option (Unit ⊕ Bool)
 | [] => some (Sum.inl ())
 | h10 :: r10 => on (h10) fun x18 => (Z42_q x18).bind fun x19 => bif (!x19) then (some (Sum.inr false)) else (Z40_q10  (r10) )
theorem Z40_l10_qe {a0 : TDoc}  (Kb10 : (Unit ⊕ Bool) → Option Bool) (hend : ∀ (n10 : Nat) (s3_11 : Nat), Z40_j7    = Kb10 (Sum.inl ())) (hret : ∀ e : Bool, some e = Kb10 (Sum.inr e)) : ∀ (n10 : Nat) (s3_11 : Nat), (0 < n10 ∧ a0.FDefs.l.length < s3_11 + n10) → Z40_l10 a0 n10 s3_11 = Option.bind (Z40_q10  (a0.FDefs.l.drop s3_11) ) Kb10 := by
 intro n10
 induction n10 with
 | zero => intro s3_11 hn; exact absurd hn.1 (by omega)
 | succ n10 ih10 =>
  intro s3_11 hn
  rw [Z40_l10]
  by_cases hlt : s3_11 < a0.FDefs.l.length
  ·obtain ⟨h10, hh10⟩ : ∃ x, a0.FDefs.l[s3_11]? = some x := ⟨_, List.getElem?_eq_getElem hlt⟩
   rw [Q.drop_of hh10, Z40_q10]
   refine Q.condT (Q.ltT hlt) ?_
   refine Q.bindPO hh10 fun x18 hx_x18 => ?_
   refine Q.bindO (Z42_eq _) fun x19 => ?_
   refine Q.condO ?_ ?_
   ·all_goals exact hret _
   all_goals exact ih10 _ ⟨by omega, by omega⟩
  rw [List.drop_of_length_le (by omega), Z40_q10]
  refine Q.condF (Q.ltF hlt) ?_
  exact hend n10 s3_11
def Z40_q (a0 : TDoc) : Option Bool := bif ((decide (((a0.FDefs.l.length : Nat) : Int) < (1 : Int))) || (decide ((64 : Int) < ((a0.FDefs.l.length : Nat) : Int)))) then (some false) else (Option.bind (Z40_q10  a0.FDefs.l ) fun o10 => match o10 with | Sum.inl _ => (on (()) fun _ => some true) | Sum.inr e10 => (some e10))
theorem Z40_eq (a0 : TDoc) : Z40 a0 = Z40_q a0 := by
 unfold Z40 Z40_q
 refine Eq.trans ?_ (Q.some_bind _)
 refine Q.condO ?_ ?_
 ·all_goals rfl
 refine Q.wrapOO fun Kb10 hKb10 => ?_
 refine Z40_l10_qe  Kb10 ?_ ?_ _ _ ⟨Nat.succ_pos _, by omega⟩
 ·intro n10 s3_11
  refine Eq.trans ?_ (hKb10 _).symm
  try dsimp only
  refine Q.wrapPO fun Kj7 hKj7 => ?_
  have hj7 : Z40_j7   = Kj7 () := by
   refine Eq.trans ?_ (hKj7 _).symm
   unfold Z40_j7
   all_goals rfl
  all_goals exact hj7
 intro e10
 refine Eq.trans ?_ (hKb10 _).symm
 try dsimp only
 all_goals rfl
def Z51_q5 (k_rec_87 : TValue → Option Bool) : List TValue → Option (Unit ⊕ Bool)
 | [] => some (Sum.inl ())
 | h5 :: r5 => on (h5) fun x13 => (k_rec_87 x13).bind fun x14 => bif (!x14) then (some (Sum.inr false)) else (Z51_q5 k_rec_87 (r5) )
theorem Z51_l5_qe {a0 : TValue} {k_rec_87 : TValue → Option Bool}  (Kb5 : (Unit ⊕ Bool) → Option Bool) (hend : ∀ (n5 : Nat) (s3_6 : Nat), Z51_j2 a0   = Kb5 (Sum.inl ())) (hret : ∀ e : Bool, some e = Kb5 (Sum.inr e)) : ∀ (n5 : Nat) (s3_6 : Nat), (0 < n5 ∧ a0.FItems.l.length < s3_6 + n5) → Z51_l5 a0 k_rec_87 n5 s3_6 = Option.bind (Z51_q5 k_rec_87 (a0.FItems.l.drop s3_6) ) Kb5 := by
 intro n5
 induction n5 with
 | zero => intro s3_6 hn; exact absurd hn.1 (by omega)
 | succ n5 ih5 =>
  intro s3_6 hn
  rw [Z51_l5]
  by_cases hlt : s3_6 < a0.FItems.l.length
  ·obtain ⟨h5, hh5⟩ : ∃ x, a0.FItems.l[s3_6]? = some x := ⟨_, List.getElem?_eq_getElem hlt⟩
   rw [Q.drop_of hh5, Z51_q5]
   refine Q.condT (Q.ltT hlt) ?_
   refine Q.bindPO hh5 fun x13 hx_x13 => ?_
   refine Q.bindO rfl fun x14 => ?_
   refine Q.condO ?_ ?_
   ·all_goals exact hret _
   all_goals exact ih5 _ ⟨by omega, by omega⟩
  rw [List.drop_of_length_le (by omega), Z51_q5]
  refine Q.condF (Q.ltF hlt) ?_
  exact hend n5 s3_6
def Z51_qn : Nat → TValue → Option Bool
 | 0, _ => none
 | n + 1, a0 => Option.bind (Z51_q5 (Z51_qn n) a0.FItems.l ) fun o5 => match o5 with | Sum.inl _ => (on (()) fun _ => some (!decide (a0.FKind = (7 : Int)))) | Sum.inr e5 => (some e5)
theorem Z51_qall : ∀ n : Nat, Z51_n n = Z51_qn n := by
 intro n
 induction n with
 | zero => exact (by funext a0; first | rfl | (rw [Z51_n, Z51_qn]))
 | succ n ih =>
  funext a0
  refine Eq.trans ?_ (Q.some_bind _)
  rw [Z51_n, Z51_qn]
  try rw [ih]
  refine Q.wrapOO fun Kb5 hKb5 => ?_
  refine Z51_l5_qe  Kb5 ?_ ?_ _ _ ⟨Nat.succ_pos _, by omega⟩
  ·intro n5 s3_6
   refine Eq.trans ?_ (hKb5 _).symm
   try dsimp only
   refine Q.wrapPO fun Kj2 hKj2 => ?_
   have hj2 : Z51_j2 a0  = Kj2 () := by
    refine Eq.trans ?_ (hKj2 _).symm
    unfold Z51_j2
    all_goals rfl
   all_goals exact hj2
  intro e5
  refine Eq.trans ?_ (hKb5 _).symm
  try dsimp only
  all_goals rfl
def Z51_q (a0 : TValue) : Option Bool := Z51_qn F0 a0
theorem Z51_eq (a0 : TValue) : Z51 a0 = Z51_q a0 := by
 unfold Z51 Z51_q; rw [(Z51_qall F0)]
def Z55_q6  : List TVar → Option (Unit ⊕ Bool)
 | [] => some (Sum.inl ())
 | h6 :: r6 => on (h6) fun x14 => on (Z19_q x14.FName) fun x17 => guardO (!(!x17)) (Z35_q x14.FType) false fun x18 => guardO (!((!x17) || (!x18))) (Z24_q x14.FDefault) false fun x19 => guardO (!(((!x17) || (!x18)) || (!x19))) (Z51_q x14.FDefault) false fun x20 => bif ((((!x17) || (!x18)) || (!x19)) || (!x20)) then (some (Sum.inr false)) else (bif ((!x14.FHas) && (!decide (x14.FDefault.FKind = (0 : Int)))) then (some (Sum.inr false)) else (Z55_q6  (r6) ))
theorem Z55_l6_qe {a0 : (Sl TVar)}  (Kb6 : (Unit ⊕ Bool) → Option Bool) (hend : ∀ (n6 : Nat) (s3_7 : Nat), Z55_j2 a0   = Kb6 (Sum.inl ())) (hret : ∀ e : Bool, some e = Kb6 (Sum.inr e)) : ∀ (n6 : Nat) (s3_7 : Nat), (0 < n6 ∧ a0.l.length < s3_7 + n6) → Z55_l6 a0 n6 s3_7 = Option.bind (Z55_q6  (a0.l.drop s3_7) ) Kb6 := by
 intro n6
 induction n6 with
 | zero => intro s3_7 hn; exact absurd hn.1 (by omega)
 | succ n6 ih6 =>
  intro s3_7 hn
  rw [Z55_l6]
  by_cases hlt : s3_7 < a0.l.length
  ·obtain ⟨h6, hh6⟩ : ∃ x, a0.l[s3_7]? = some x := ⟨_, List.getElem?_eq_getElem hlt⟩
   rw [Q.drop_of hh6, Z55_q6]
   refine Q.condT (Q.ltT hlt) ?_
   refine Q.bindPO hh6 fun x14 hx_x14 => ?_
   refine Q.bindPO (Z19_eq _) fun x17 hx_x17 => ?_
   refine Q.guardOO (Z35_eq _) fun x18 => ?_
   refine Q.guardOO (Z24_eq _) fun x19 => ?_
   refine Q.guardOO (Z51_eq _) fun x20 => ?_
   refine Q.condO ?_ ?_
   ·all_goals exact hret _
   refine Q.condO ?_ ?_
   ·all_goals exact hret _
   all_goals exact ih6 _ ⟨by omega, by omega⟩
  rw [List.drop_of_length_le (by omega), Z55_q6]
  refine Q.condF (Q.ltF hlt) ?_
  exact hend n6 s3_7
def Z55_q (a0 : (Sl TVar)) : Option Bool := Option.bind (Z55_q6  a0.l ) fun o6 => match o6 with | Sum.inl _ => (on (()) fun _ => some (decide (((a0.l.length : Nat) : Int) ≤ (16 : Int)))) | Sum.inr e6 => (some e6)
theorem Z55_eq (a0 : (Sl TVar)) : Z55 a0 = Z55_q a0 := by
 unfold Z55 Z55_q
 refine Eq.trans ?_ (Q.some_bind _)
 refine Q.wrapOO fun Kb6 hKb6 => ?_
 refine Z55_l6_qe  Kb6 ?_ ?_ _ _ ⟨Nat.succ_pos _, by omega⟩
 ·intro n6 s3_7
  refine Eq.trans ?_ (hKb6 _).symm
  try dsimp only
  refine Q.wrapPO fun Kj2 hKj2 => ?_
  have hj2 : Z55_j2 a0  = Kj2 () := by
   refine Eq.trans ?_ (hKj2 _).symm
   unfold Z55_j2
   all_goals rfl
  all_goals exact hj2
 intro e6
 refine Eq.trans ?_ (hKb6 _).symm
 try dsimp only
 all_goals rfl
def Z54_q (a0 : Bs) : Bool := on (Z19_q a0) fun x3 => (x3 && (!(a0 == ([111, 110] : Bs))))
theorem Z54_eq (a0 : Bs) : Z54 a0 = some (Z54_q a0) := by
 unfold Z54 Z54_q
 refine Q.bindP (Z19_eq _) fun x3 hx_x3 => ?_
 all_goals rfl
def Z50_q6  : List TArg → Option (Unit ⊕ Bool)
 | [] => some (Sum.inl ())
 | h6 :: r6 => on (h6) fun x14 => on (Z19_q x14.FName) fun x15 => on (bif !(!x15) then h6 else TArg.zero) fun x16 => guardO (!(!x15)) (Z24_q x16.FValue) false fun x17 => bif ((!x15) || (!x17)) then (some (Sum.inr false)) else (Z50_q6  (r6) )
theorem Z50_l6_qe {a0 : (Sl TArg)}  (Kb6 : (Unit ⊕ Bool) → Option Bool) (hend : ∀ (n6 : Nat) (s3_7 : Nat), Z50_j2 a0   = Kb6 (Sum.inl ())) (hret : ∀ e : Bool, some e = Kb6 (Sum.inr e)) : ∀ (n6 : Nat) (s3_7 : Nat), (0 < n6 ∧ a0.l.length < s3_7 + n6) → Z50_l6 a0 n6 s3_7 = Option.bind (Z50_q6  (a0.l.drop s3_7) ) Kb6 := by
 intro n6
 induction n6 with
 | zero => intro s3_7 hn; exact absurd hn.1 (by omega)
 | succ n6 ih6 =>
  intro s3_7 hn
  rw [Z50_l6]
  by_cases hlt : s3_7 < a0.l.length
  ·obtain ⟨h6, hh6⟩ : ∃ x, a0.l[s3_7]? = some x := ⟨_, List.getElem?_eq_getElem hlt⟩
   rw [Q.drop_of hh6, Z50_q6]
   refine Q.condT (Q.ltT hlt) ?_
   refine Q.bindPO hh6 fun x14 hx_x14 => ?_
   refine Q.bindPO (Z19_eq _) fun x15 hx_x15 => ?_
   refine Q.guardPO hh6 fun x16 hx_x16 => ?_
   refine Q.guardOO (Z24_eq _) fun x17 => ?_
   refine Q.condO ?_ ?_
   ·all_goals exact hret _
   all_goals exact ih6 _ ⟨by omega, by omega⟩
  rw [List.drop_of_length_le (by omega), Z50_q6]
  refine Q.condF (Q.ltF hlt) ?_
  exact hend n6 s3_7
def Z50_q (a0 : (Sl TArg)) : Option Bool := Option.bind (Z50_q6  a0.l ) fun o6 => match o6 with | Sum.inl _ => (on (()) fun _ => some (decide (((a0.l.length : Nat) : Int) ≤ (16 : Int)))) | Sum.inr e6 => (some e6)
theorem Z50_eq (a0 : (Sl TArg)) : Z50 a0 = Z50_q a0 := by
 unfold Z50 Z50_q
 refine Eq.trans ?_ (Q.some_bind _)
 refine Q.wrapOO fun Kb6 hKb6 => ?_
 refine Z50_l6_qe  Kb6 ?_ ?_ _ _ ⟨Nat.succ_pos _, by omega⟩
 ·intro n6 s3_7
  refine Eq.trans ?_ (hKb6 _).symm
  try dsimp only
  refine Q.wrapPO fun Kj2 hKj2 => ?_
  have hj2 : Z50_j2 a0  = Kj2 () := by
   refine Eq.trans ?_ (hKj2 _).symm
   unfold Z50_j2
   all_goals rfl
  all_goals exact hj2
 intro e6
 refine Eq.trans ?_ (hKb6 _).symm
 try dsimp only
 all_goals rfl
def Z52_q6  : List TDir → Option (Unit ⊕ Bool)
 | [] => some (Sum.inl ())
 | h6 :: r6 => on (h6) fun x14 => on (Z19_q x14.FName) fun x15 => on (bif !(!x15) then h6 else TDir.zero) fun x16 => guardO (!(!x15)) (Z50_q x16.FArgs) false fun x17 => bif ((!x15) || (!x17)) then (some (Sum.inr false)) else (Z52_q6  (r6) )
theorem Z52_l6_qe {a0 : (Sl TDir)}  (Kb6 : (Unit ⊕ Bool) → Option Bool) (hend : ∀ (n6 : Nat) (s3_7 : Nat), Z52_j2 a0   = Kb6 (Sum.inl ())) (hret : ∀ e : Bool, some e = Kb6 (Sum.inr e)) : ∀ (n6 : Nat) (s3_7 : Nat), (0 < n6 ∧ a0.l.length < s3_7 + n6) → Z52_l6 a0 n6 s3_7 = Option.bind (Z52_q6  (a0.l.drop s3_7) ) Kb6 := by
 intro n6
 induction n6 with
 | zero => intro s3_7 hn; exact absurd hn.1 (by omega)
 | succ n6 ih6 =>
  intro s3_7 hn
  rw [Z52_l6]
  by_cases hlt : s3_7 < a0.l.length
  ·obtain ⟨h6, hh6⟩ : ∃ x, a0.l[s3_7]? = some x := ⟨_, List.getElem?_eq_getElem hlt⟩
   rw [Q.drop_of hh6, Z52_q6]
   refine Q.condT (Q.ltT hlt) ?_
   refine Q.bindPO hh6 fun x14 hx_x14 => ?_
   refine Q.bindPO (Z19_eq _) fun x15 hx_x15 => ?_
   refine Q.guardPO hh6 fun x16 hx_x16 => ?_
   refine Q.guardOO (Z50_eq _) fun x17 => ?_
   refine Q.condO ?_ ?_
   ·all_goals exact hret _
   all_goals exact ih6 _ ⟨by omega, by omega⟩
  rw [List.drop_of_length_le (by omega), Z52_q6]
  refine Q.condF (Q.ltF hlt) ?_
  exact hend n6 s3_7
def Z52_q (a0 : (Sl TDir)) : Option Bool := Option.bind (Z52_q6  a0.l ) fun o6 => match o6 with | Sum.inl _ => (on (()) fun _ => some (decide (((a0.l.length : Nat) : Int) ≤ (16 : Int)))) | Sum.inr e6 => (some e6)
theorem Z52_eq (a0 : (Sl TDir)) : Z52 a0 = Z52_q a0 := by
 unfold Z52 Z52_q
 refine Eq.trans ?_ (Q.some_bind _)
 refine Q.wrapOO fun Kb6 hKb6 => ?_
 refine Z52_l6_qe  Kb6 ?_ ?_ _ _ ⟨Nat.succ_pos _, by omega⟩
 ·intro n6 s3_7
  refine Eq.trans ?_ (hKb6 _).symm
  try dsimp only
  refine Q.wrapPO fun Kj2 hKj2 => ?_
  have hj2 : Z52_j2 a0  = Kj2 () := by
   refine Eq.trans ?_ (hKj2 _).symm
   unfold Z52_j2
   all_goals rfl
  all_goals exact hj2
 intro e6
 refine Eq.trans ?_ (hKb6 _).symm
 try dsimp only
 all_goals rfl
def r08_selsRight_q10 (a1 : Int) (k_rec_88 : TSel → Int → Option Bool) : List TSel → Option (Unit ⊕ Bool)
 | [] => some (Sum.inl ())
 | h10 :: r10 => on (h10) fun x18 => (k_rec_88 x18 a1).bind fun x19 => bif (!x19) then (some (Sum.inr false)) else (r08_selsRight_q10 a1 k_rec_88 (r10) )
theorem r08_selsRight_l10_qe {a0 : (Sl TSel)} {a1 : Int} {k_rec_88 : TSel → Int → Option Bool}  (Kb10 : (Unit ⊕ Bool) → Option Bool) (hend : ∀ (n10 : Nat) (s5_11 : Nat), r08_selsRight_j7    = Kb10 (Sum.inl ())) (hret : ∀ e : Bool, some e = Kb10 (Sum.inr e)) : ∀ (n10 : Nat) (s5_11 : Nat), (0 < n10 ∧ a0.l.length < s5_11 + n10) → r08_selsRight_l10 a0 a1 k_rec_88 n10 s5_11 = Option.bind (r08_selsRight_q10 a1 k_rec_88 (a0.l.drop s5_11) ) Kb10 := by
 intro n10
 induction n10 with
 | zero => intro s5_11 hn; exact absurd hn.1 (by omega)
 | succ n10 ih10 =>
  intro s5_11 hn
  rw [r08_selsRight_l10]
  by_cases hlt : s5_11 < a0.l.length
  ·obtain ⟨h10, hh10⟩ : ∃ x, a0.l[s5_11]? = some x := ⟨_, List.getElem?_eq_getElem hlt⟩
   rw [Q.drop_of hh10, r08_selsRight_q10]
   refine Q.condT (Q.ltT hlt) ?_
   refine Q.bindPO hh10 fun x18 hx_x18 => ?_
   refine Q.bindO rfl fun x19 => ?_
   refine Q.condO ?_ ?_
   ·all_goals exact hret _
   all_goals exact ih10 _ ⟨by omega, by omega⟩
  rw [List.drop_of_length_le (by omega), r08_selsRight_q10]
  refine Q.condF (Q.ltF hlt) ?_
  exact hend n10 s5_11
mutual
def r08_selsRight_qn : Nat → (Sl TSel) → Int → Option Bool
 | 0, _, _ => none
 | n + 1, a0, a1 => bif (((decide (((a0.l.length : Nat) : Int) = (0 : Int))) || (decide ((64 : Int) < ((a0.l.length : Nat) : Int)))) || (decide ((24 : Int) < a1))) then (some false) else (Option.bind (r08_selsRight_q10 a1 (Z53_qn n) a0.l ) fun o10 => match o10 with | Sum.inl _ => (on (()) fun _ => some true) | Sum.inr e10 => (some e10))
def Z53_qn : Nat → TSel → Int → Option Bool
 | 0, _, _ => none
 | n + 1, a0, a1 => (Z52_q a0.FDirs).bind fun x4 => guardO (!(!x4)) (Z50_q a0.FArgs) false fun x5 => bif ((!x4) || (!x5)) then (some false) else (bif (decide (a0.FKind = (1 : Int))) then (on (Z19_q a0.FName) fun x13 => on (bif (x13 && !((a0.FAlias == ([] : Bs)))) then Z19_q a0.FAlias else false) fun x14 => guardO ((((x13 && (((a0.FAlias == ([] : Bs))) || x14)) && ((a0.FOn == ([] : Bs)))) && !(decide (((a0.FSels.l.length : Nat) : Int) = (0 : Int))))) (addC a1 (1 : Int)) (0 : Int) fun x15 => guardO ((((x13 && (((a0.FAlias == ([] : Bs))) || x14)) && ((a0.FOn == ([] : Bs)))) && !(decide (((a0.FSels.l.length : Nat) : Int) = (0 : Int))))) ((r08_selsRight_qn n) a0.FSels x15) false fun x16 => some (((x13 && (((a0.FAlias == ([] : Bs))) || x14)) && ((a0.FOn == ([] : Bs)))) && ((decide (((a0.FSels.l.length : Nat) : Int) = (0 : Int))) || x16))) else (bif (decide (a0.FKind = (2 : Int))) then (on (Z54_q a0.FName) fun x20 => some ((((x20 && ((a0.FAlias == ([] : Bs)))) && ((a0.FOn == ([] : Bs)))) && (decide (((a0.FArgs.l.length : Nat) : Int) = (0 : Int)))) && (decide (((a0.FSels.l.length : Nat) : Int) = (0 : Int))))) else (bif (decide (a0.FKind = (3 : Int))) then (on (bif ((((a0.FName == ([] : Bs))) && ((a0.FAlias == ([] : Bs)))) && !((a0.FOn == ([] : Bs)))) then Z19_q a0.FOn else false) fun x24 => guardO ((((((a0.FName == ([] : Bs))) && ((a0.FAlias == ([] : Bs)))) && (((a0.FOn == ([] : Bs))) || x24)) && (decide (((a0.FArgs.l.length : Nat) : Int) = (0 : Int))))) (addC a1 (1 : Int)) (0 : Int) fun x25 => guardO ((((((a0.FName == ([] : Bs))) && ((a0.FAlias == ([] : Bs)))) && (((a0.FOn == ([] : Bs))) || x24)) && (decide (((a0.FArgs.l.length : Nat) : Int) = (0 : Int))))) ((r08_selsRight_qn n) a0.FSels x25) false fun x26 => some ((((((a0.FName == ([] : Bs))) && ((a0.FAlias == ([] : Bs)))) && (((a0.FOn == ([] : Bs))) || x24)) && (decide (((a0.FArgs.l.length : Nat) : Int) = (0 : Int)))) && x26)) else (some false))))
end
theorem r08_selsRight_qall : ∀ n : Nat, r08_selsRight_n n = r08_selsRight_qn n ∧ Z53_n n = Z53_qn n := by
 intro n
 induction n with
 | zero => exact ⟨(by funext a0 a1; first | rfl | (rw [r08_selsRight_n, r08_selsRight_qn])), (by funext a0 a1; first | rfl | (rw [Z53_n, Z53_qn]))⟩
 | succ n ih =>
  refine ⟨?_, ?_⟩
  ·funext a0 a1
   refine Eq.trans ?_ (Q.some_bind _)
   rw [r08_selsRight_n, r08_selsRight_qn]
   try rw [ih.1]
   try rw [ih.2]
   refine Q.condO ?_ ?_
   ·all_goals rfl
   refine Q.wrapOO fun Kb10 hKb10 => ?_
   refine r08_selsRight_l10_qe  Kb10 ?_ ?_ _ _ ⟨Nat.succ_pos _, by omega⟩
   ·intro n10 s5_11
    refine Eq.trans ?_ (hKb10 _).symm
    try dsimp only
    refine Q.wrapPO fun Kj7 hKj7 => ?_
    have hj7 : r08_selsRight_j7   = Kj7 () := by
     refine Eq.trans ?_ (hKj7 _).symm
     unfold r08_selsRight_j7
     all_goals rfl
    all_goals exact hj7
   intro e10
   refine Eq.trans ?_ (hKb10 _).symm
   try dsimp only
   all_goals rfl
  funext a0 a1
  refine Eq.trans ?_ (Q.some_bind _)
  rw [Z53_n, Z53_qn]
  try rw [ih.1]
  try rw [ih.2]
  refine Q.bindO (Z52_eq _) fun x4 => ?_
  refine Q.guardOO (Z50_eq _) fun x5 => ?_
  refine Q.condO ?_ ?_
  ·all_goals rfl
  refine Q.condO ?_ ?_
  ·refine Q.bindPO (Z19_eq _) fun x13 hx_x13 => ?_
   refine Q.guardPO (Z19_eq _) fun x14 hx_x14 => ?_
   refine Q.guardOO rfl fun x15 => ?_
   refine Q.guardOO rfl fun x16 => ?_
   all_goals rfl
  refine Q.condO ?_ ?_
  ·refine Q.bindPO (Z54_eq _) fun x20 hx_x20 => ?_
   all_goals rfl
  refine Q.condO ?_ ?_
  ·refine Q.guardPO (Z19_eq _) fun x24 hx_x24 => ?_
   refine Q.guardOO rfl fun x25 => ?_
   refine Q.guardOO rfl fun x26 => ?_
   all_goals rfl
  all_goals rfl
def r08_selsRight_q (a0 : (Sl TSel)) (a1 : Int) : Option Bool := r08_selsRight_qn F0 a0 a1
theorem r08_selsRight_eq (a0 : (Sl TSel)) (a1 : Int) : r08_selsRight a0 a1 = r08_selsRight_q a0 a1 := by
 unfold r08_selsRight r08_selsRight_q; rw [(r08_selsRight_qall F0).1]
def Z49_q30  : List TOp → Option (Unit ⊕ Bool)
 | [] => some (Sum.inl ())
 | h30 :: r30 => on (h30) fun x38 => on (bif (!((decide (x38.FKind < (1 : Int))) || (decide ((3 : Int) < x38.FKind))) && (!(x38.FName == ([] : Bs)))) then Z19_q x38.FName else false) fun x40 => guardO (!(((decide (x38.FKind < (1 : Int))) || (decide ((3 : Int) < x38.FKind))) || ((!(x38.FName == ([] : Bs))) && (!x40)))) (Z55_q x38.FVars) false fun x41 => guardO (!((((decide (x38.FKind < (1 : Int))) || (decide ((3 : Int) < x38.FKind))) || ((!(x38.FName == ([] : Bs))) && (!x40))) || (!x41))) (r08_selsRight_q x38.FSels (1 : Int)) false fun x42 => bif (((((decide (x38.FKind < (1 : Int))) || (decide ((3 : Int) < x38.FKind))) || ((!(x38.FName == ([] : Bs))) && (!x40))) || (!x41)) || (!x42)) then (some (Sum.inr false)) else (Z49_q30  (r30) )
theorem Z49_l30_qe {a0 : TQuery}  (Kb30 : (Unit ⊕ Bool) → Option Bool) (hend : ∀ (n30 : Nat) (s4_31 : Nat), Z49_j10 a0   = Kb30 (Sum.inl ())) (hret : ∀ e : Bool, some e = Kb30 (Sum.inr e)) : ∀ (n30 : Nat) (s4_31 : Nat), (0 < n30 ∧ a0.FOps.l.length < s4_31 + n30) → Z49_l30 a0 n30 s4_31 = Option.bind (Z49_q30  (a0.FOps.l.drop s4_31) ) Kb30 := by
 intro n30
 induction n30 with
 | zero => intro s4_31 hn; exact absurd hn.1 (by omega)
 | succ n30 ih30 =>
  intro s4_31 hn
  rw [Z49_l30]
  by_cases hlt : s4_31 < a0.FOps.l.length
  ·obtain ⟨h30, hh30⟩ : ∃ x, a0.FOps.l[s4_31]? = some x := ⟨_, List.getElem?_eq_getElem hlt⟩
   rw [Q.drop_of hh30, Z49_q30]
   refine Q.condT (Q.ltT hlt) ?_
   refine Q.bindPO hh30 fun x38 hx_x38 => ?_
   refine Q.guardPO (Z19_eq _) fun x40 hx_x40 => ?_
   refine Q.guardOO (Z55_eq _) fun x41 => ?_
   refine Q.guardOO (r08_selsRight_eq _ _) fun x42 => ?_
   refine Q.condO ?_ ?_
   ·all_goals exact hret _
   all_goals exact ih30 _ ⟨by omega, by omega⟩
  rw [List.drop_of_length_le (by omega), Z49_q30]
  refine Q.condF (Q.ltF hlt) ?_
  exact hend n30 s4_31
def Z49_q14  : List TFrag → Option (Unit ⊕ Bool)
 | [] => some (Sum.inl ())
 | h14 :: r14 => on (h14) fun x22 => on (Z54_q x22.FName) fun x24 => on (bif !(!x24) then Z19_q x22.FOn else false) fun x25 => guardO (!((!x24) || (!x25))) (r08_selsRight_q x22.FSels (1 : Int)) false fun x26 => bif (((!x24) || (!x25)) || (!x26)) then (some (Sum.inr false)) else (Z49_q14  (r14) )
theorem Z49_l14_qe {a0 : TQuery}  (Kb14 : (Unit ⊕ Bool) → Option Bool) (hend : ∀ (n14 : Nat) (s6_15 : Nat), Z49_j11    = Kb14 (Sum.inl ())) (hret : ∀ e : Bool, some e = Kb14 (Sum.inr e)) : ∀ (n14 : Nat) (s6_15 : Nat), (0 < n14 ∧ a0.FFrags.l.length < s6_15 + n14) → Z49_l14 a0 n14 s6_15 = Option.bind (Z49_q14  (a0.FFrags.l.drop s6_15) ) Kb14 := by
 intro n14
 induction n14 with
 | zero => intro s6_15 hn; exact absurd hn.1 (by omega)
 | succ n14 ih14 =>
  intro s6_15 hn
  rw [Z49_l14]
  by_cases hlt : s6_15 < a0.FFrags.l.length
  ·obtain ⟨h14, hh14⟩ : ∃ x, a0.FFrags.l[s6_15]? = some x := ⟨_, List.getElem?_eq_getElem hlt⟩
   rw [Q.drop_of hh14, Z49_q14]
   refine Q.condT (Q.ltT hlt) ?_
   refine Q.bindPO hh14 fun x22 hx_x22 => ?_
   refine Q.bindPO (Z54_eq _) fun x24 hx_x24 => ?_
   refine Q.guardPO (Z19_eq _) fun x25 hx_x25 => ?_
   refine Q.guardOO (r08_selsRight_eq _ _) fun x26 => ?_
   refine Q.condO ?_ ?_
   ·all_goals exact hret _
   all_goals exact ih14 _ ⟨by omega, by omega⟩
  rw [List.drop_of_length_le (by omega), Z49_q14]
  refine Q.condF (Q.ltF hlt) ?_
  exact hend n14 s6_15
def Z49_q (a0 : TQuery) : Option Bool := (addC ((a0.FOps.l.length : Nat) : Int) ((a0.FFrags.l.length : Nat) : Int)).bind fun x5 => bif ((decide (x5 < (1 : Int))) || (decide ((64 : Int) < x5))) then (some false) else (Option.bind (Z49_q30  a0.FOps.l ) fun o30 => match o30 with | Sum.inl _ => (on (()) fun _ => Option.bind (Z49_q14  a0.FFrags.l ) fun o14 => match o14 with | Sum.inl _ => (on (()) fun _ => some true) | Sum.inr e14 => (some e14)) | Sum.inr e30 => (some e30))
theorem Z49_eq (a0 : TQuery) : Z49 a0 = Z49_q a0 := by
 unfold Z49 Z49_q
 refine Eq.trans ?_ (Q.some_bind _)
 refine Q.bindO rfl fun x5 => ?_
 refine Q.condO ?_ ?_
 ·all_goals rfl
 refine Q.wrapOO fun Kb30 hKb30 => ?_
 refine Z49_l30_qe  Kb30 ?_ ?_ _ _ ⟨Nat.succ_pos _, by omega⟩
 ·intro n30 s4_31
  refine Eq.trans ?_ (hKb30 _).symm
  try dsimp only
  refine Q.wrapPO fun Kj10 hKj10 => ?_
  have hj10 : Z49_j10 a0  = Kj10 () := by
   refine Eq.trans ?_ (hKj10 _).symm
   unfold Z49_j10
   refine Q.wrapOO fun Kb14 hKb14 => ?_
   refine Z49_l14_qe  Kb14 ?_ ?_ _ _ ⟨Nat.succ_pos _, by omega⟩
   ·intro n14 s6_15
    refine Eq.trans ?_ (hKb14 _).symm
    try dsimp only
    refine Q.wrapPO fun Kj11 hKj11 => ?_
    have hj11 : Z49_j11   = Kj11 () := by
     refine Eq.trans ?_ (hKj11 _).symm
     unfold Z49_j11
     all_goals rfl
    all_goals exact hj11
   intro e14
   refine Eq.trans ?_ (hKb14 _).symm
   try dsimp only
   all_goals rfl
  all_goals exact hj10
 intro e30
 refine Eq.trans ?_ (hKb30 _).symm
 try dsimp only
 all_goals rfl
def Z17_q (a0 : TDoc) (a1 : TQuery) : Option Bool := (Z63_q a0).bind fun x3 => guardO ((!x3)) (Z48_q a1) false fun x4 => guardO (((!x3) && (!x4))) (Z40_q a0) false fun x5 => guardO ((((!x3) && (!x4)) && x5)) (Z49_q a1) false fun x6 => some ((((!x3) && (!x4)) && x5) && x6)
theorem Z17_eq (a0 : TDoc) (a1 : TQuery) : Z17 a0 a1 = Z17_q a0 a1 := by
 unfold Z17 Z17_q
 refine Eq.trans ?_ (Q.some_bind _)
 refine Q.bindO (Z63_eq _) fun x3 => ?_
 refine Q.guardOO (Z48_eq _) fun x4 => ?_
 refine Q.guardOO (Z40_eq _) fun x5 => ?_
 refine Q.guardOO (Z49_eq _) fun x6 => ?_
 all_goals rfl
def Z58_q11 (a1 : (Sl TFault)) : List TFault → Nat → Option (Unit ⊕ Bool)
 | [], s5_12 => some (Sum.inl ())
 | h11 :: r11, s5_12 => on (h11) fun x19 => (a1.l[s5_12]?).bind fun x20 => bif (!(decide (x19.FErr = x20.FErr) && ((x19.FAt == x20.FAt) && true))) then (some (Sum.inr false)) else (Z58_q11 a1 (r11) (s5_12 + 1) )
theorem Z58_l11_qe {a0 : (Sl TFault)} {a1 : (Sl TFault)}  (Kb11 : (Unit ⊕ Bool) → Option Bool) (hend : ∀ (n11 : Nat) (s5_12 : Nat), Z58_j8    = Kb11 (Sum.inl ())) (hret : ∀ e : Bool, some e = Kb11 (Sum.inr e)) : ∀ (n11 : Nat) (s5_12 : Nat), (0 < n11 ∧ a0.l.length < s5_12 + n11) → Z58_l11 a0 a1 n11 s5_12 = Option.bind (Z58_q11 a1 (a0.l.drop s5_12) s5_12 ) Kb11 := by
 intro n11
 induction n11 with
 | zero => intro s5_12 hn; exact absurd hn.1 (by omega)
 | succ n11 ih11 =>
  intro s5_12 hn
  rw [Z58_l11]
  by_cases hlt : s5_12 < a0.l.length
  ·obtain ⟨h11, hh11⟩ : ∃ x, a0.l[s5_12]? = some x := ⟨_, List.getElem?_eq_getElem hlt⟩
   rw [Q.drop_of hh11, Z58_q11]
   refine Q.condT (Q.ltT hlt) ?_
   refine Q.bindPO hh11 fun x19 hx_x19 => ?_
   refine Q.bindO rfl fun x20 => ?_
   refine Q.condO ?_ ?_
   ·all_goals exact hret _
   all_goals exact ih11 _ ⟨by omega, by omega⟩
  rw [List.drop_of_length_le (by omega), Z58_q11]
  refine Q.condF (Q.ltF hlt) ?_
  exact hend n11 s5_12
def Z58_q (a0 : (Sl TFault)) (a1 : (Sl TFault)) : Option Bool := bif (!decide (((a0.l.length : Nat) : Int) = ((a1.l.length : Nat) : Int))) then (some false) else (Option.bind (Z58_q11 a1 a0.l 0 ) fun o11 => match o11 with | Sum.inl _ => (on (()) fun _ => some true) | Sum.inr e11 => (some e11))
theorem Z58_eq (a0 : (Sl TFault)) (a1 : (Sl TFault)) : Z58 a0 a1 = Z58_q a0 a1 := by
 unfold Z58 Z58_q
 refine Eq.trans ?_ (Q.some_bind _)
 refine Q.condO ?_ ?_
 ·all_goals rfl
 refine Q.wrapOO fun Kb11 hKb11 => ?_
 refine Z58_l11_qe  Kb11 ?_ ?_ _ _ ⟨Nat.succ_pos _, by omega⟩
 ·intro n11 s5_12
  refine Eq.trans ?_ (hKb11 _).symm
  try dsimp only
  refine Q.wrapPO fun Kj8 hKj8 => ?_
  have hj8 : Z58_j8   = Kj8 () := by
   refine Eq.trans ?_ (hKj8 _).symm
   unfold Z58_j8
   all_goals rfl
  all_goals exact hj8
 intro e11
 refine Eq.trans ?_ (hKb11 _).symm
 try dsimp only
 all_goals rfl
def Z88_q (a0 : Int) : Bs := bif (decide (a0 = (1 : Int))) then (([81, 117, 101, 114, 121] : Bs)) else (bif (decide (a0 = (2 : Int))) then (([77, 117, 116, 97, 116, 105, 111, 110] : Bs)) else (bif (decide (a0 = (3 : Int))) then (([83, 117, 98, 115, 99, 114, 105, 112, 116, 105, 111, 110] : Bs)) else (([] : Bs))))
theorem Z88_eq (a0 : Int) : Z88 a0 = some (Z88_q a0) := by
 unfold Z88 Z88_q
 refine Q.condP ?_ ?_
 ·all_goals rfl
 refine Q.condP ?_ ?_
 ·all_goals rfl
 refine Q.condP ?_ ?_
 ·all_goals rfl
 all_goals rfl
def Z84_q7 (a1 : Bs) : List TDef → Unit ⊕ ((TDef × Bool))
 | [] => Sum.inl ()
 | h7 :: r7 => on (h7) fun x15 => bif ((x15.FName == a1)) then (Sum.inr (x15, true)) else (Z84_q7 a1 (r7) )
theorem Z84_l7_qe {a0 : TDoc} {a1 : Bs}  (Kb7 : (Unit ⊕ ((TDef × Bool))) → Option (TDef × Bool)) (hend : ∀ (n7 : Nat) (s11_8 : Nat) (y9_l0 : TDef), Z84_j2   y9_l0 = Kb7 (Sum.inl ())) (hret : ∀ e : (TDef × Bool), some e = Kb7 (Sum.inr e)) : ∀ (n7 : Nat) (s11_8 : Nat) (y9_l0 : TDef), (0 < n7 ∧ a0.FDefs.l.length < s11_8 + n7) → Z84_l7 a0 a1 n7 s11_8 y9_l0 = Kb7 (Z84_q7 a1 (a0.FDefs.l.drop s11_8) ) := by
 intro n7
 induction n7 with
 | zero => intro s11_8 y9_l0 hn; exact absurd hn.1 (by omega)
 | succ n7 ih7 =>
  intro s11_8 y9_l0 hn
  rw [Z84_l7]
  by_cases hlt : s11_8 < a0.FDefs.l.length
  ·obtain ⟨h7, hh7⟩ : ∃ x, a0.FDefs.l[s11_8]? = some x := ⟨_, List.getElem?_eq_getElem hlt⟩
   rw [Q.drop_of hh7, Z84_q7]
   refine Q.condT (Q.ltT hlt) ?_
   refine Q.bindP hh7 fun x15 hx_x15 => ?_
   refine Q.condP ?_ ?_
   ·all_goals exact hret _
   all_goals exact ih7 _ _ ⟨by omega, by omega⟩
  rw [List.drop_of_length_le (by omega), Z84_q7]
  refine Q.condF (Q.ltF hlt) ?_
  exact hend n7 s11_8 y9_l0
def Z84_q (a0 : TDoc) (a1 : Bs) : (TDef × Bool) := on (Z84_q7 a1 a0.FDefs.l ) fun o7 => match o7 with | Sum.inl _ => (on (()) fun _ => ((TDef.mk (0 : Int) ([] : Bs) (Sl.nil : Sl Bs) (Sl.nil : Sl TDir) (Sl.nil : Sl TField) (Sl.nil : Sl TMember) (Sl.nil : Sl TInput)), false)) | Sum.inr e7 => (e7)
theorem Z84_eq (a0 : TDoc) (a1 : Bs) : Z84 a0 a1 = some (Z84_q a0 a1) := by
 unfold Z84 Z84_q
 refine Q.wrapPP fun Kb7 hKb7 => ?_
 refine Z84_l7_qe  Kb7 ?_ ?_ _ _ _ ⟨Nat.succ_pos _, by omega⟩
 ·intro n7 s11_8 y9_l0
  refine Eq.trans ?_ (hKb7 _).symm
  try dsimp only
  refine Q.wrapPP fun Kj2 hKj2 => ?_
  have hj2 : ∀ (y3_l0 : TDef), Z84_j2  y3_l0 = Kj2 () := by
   intro y3_l0
   refine Eq.trans ?_ (hKj2 _).symm
   unfold Z84_j2
   all_goals rfl
  all_goals exact hj2 _
 intro e7
 refine Eq.trans ?_ (hKb7 _).symm
 try dsimp only
 all_goals rfl
def Z8_q23 (a0 : Fields_checker) (x14 : TSel) (k_rec_25 : Fields_checker → (Sl TSel) → (List Bs) → (List Bs) → Option ((List Bs) × (List Bs))) : List TFrag → (List Bs) → (List Bs) → Option (((List Bs) × (List Bs)))
 | [], y25_c2, y26_c3 => some (y25_c2, y26_c3)
 | h23 :: r23, y25_c2, y26_c3 => on (h23) fun x34 => Option.bind (bif (((x34.FName == x14.FName)) && (!(y26_c3.contains x14.FName))) then ((k_rec_25 a0 x34.FSels y25_c2 (insS y26_c3 x14.FName)).bind fun x38 => some (x38.1, x38.2)) else (some (y25_c2, y26_c3))) fun z30 => Z8_q23 a0 x14 k_rec_25 (r23) z30.1 z30.2
theorem Z8_l23_qe {a0 : Fields_checker} {s14_4 : Nat} {x14 : TSel} {k_next_3 : Nat → (List Bs) → (List Bs) → Option ((List Bs) × (List Bs))} {k_rec_25 : Fields_checker → (Sl TSel) → (List Bs) → (List Bs) → Option ((List Bs) × (List Bs))}  (Kb23 : (((List Bs) × (List Bs))) → Option ((List Bs) × (List Bs))) (hend : ∀ (n23 : Nat) (s45_24 : Nat) (y25_c2 : (List Bs)) (y26_c3 : (List Bs)), Z8_j10 s14_4 k_next_3 y25_c2 y26_c3 = Kb23 (y25_c2, y26_c3)) : ∀ (n23 : Nat) (s45_24 : Nat) (y25_c2 : (List Bs)) (y26_c3 : (List Bs)), (0 < n23 ∧ a0.Fq.FFrags.l.length < s45_24 + n23) → Z8_l23 a0 s14_4 x14 k_next_3 k_rec_25 n23 s45_24 y25_c2 y26_c3 = Option.bind (Z8_q23 a0 x14 k_rec_25 (a0.Fq.FFrags.l.drop s45_24) y25_c2 y26_c3) Kb23 := by
 intro n23
 induction n23 with
 | zero => intro s45_24 y25_c2 y26_c3 hn; exact absurd hn.1 (by omega)
 | succ n23 ih23 =>
  intro s45_24 y25_c2 y26_c3 hn
  rw [Z8_l23]
  by_cases hlt : s45_24 < a0.Fq.FFrags.l.length
  ·obtain ⟨h23, hh23⟩ : ∃ x, a0.Fq.FFrags.l[s45_24]? = some x := ⟨_, List.getElem?_eq_getElem hlt⟩
   rw [Q.drop_of hh23, Z8_q23]
   refine Q.condT (Q.ltT hlt) ?_
   refine Q.bindPO hh23 fun x34 hx_x34 => ?_
   refine Q.wrapOO fun Kj30 hKj30 => ?_
   have hj30 : ∀ (y31_c2 : (List Bs)) (y32_c3 : (List Bs)), Z8_j30 s45_24 (Z8_l23 a0 s14_4 x14 k_next_3 k_rec_25 n23) y31_c2 y32_c3 = Kj30 (y31_c2, y32_c3) := by
    intro y31_c2 y32_c3
    refine Eq.trans ?_ (hKj30 _).symm
    try dsimp only
    unfold Z8_j30
    all_goals exact ih23 _ _ _ ⟨by omega, by omega⟩
   refine Q.condO ?_ ?_
   ·refine Q.bindO rfl fun x38 => ?_
    all_goals exact hj30 _ _
   all_goals exact hj30 _ _
  rw [List.drop_of_length_le (by omega), Z8_q23]
  refine Q.condF (Q.ltF hlt) ?_
  exact hend n23 s45_24 y25_c2 y26_c3
def Z8_q3 (a0 : Fields_checker) (k_rec_25 : Fields_checker → (Sl TSel) → (List Bs) → (List Bs) → Option ((List Bs) × (List Bs))) : List TSel → (List Bs) → (List Bs) → Option (((List Bs) × (List Bs)))
 | [], y5_c2, y6_c3 => some (y5_c2, y6_c3)
 | h3 :: r3, y5_c2, y6_c3 => on (h3) fun x14 => Option.bind (bif (decide (x14.FKind = (3 : Int))) then ((k_rec_25 a0 x14.FSels y5_c2 y6_c3).bind fun x18 => some (x18.1, x18.2)) else (bif (decide (x14.FKind = (2 : Int))) then (Option.bind (Z8_q23 a0 x14 k_rec_25 a0.Fq.FFrags.l y5_c2 y6_c3) fun z23 => some (z23.1, z23.2)) else (bif (!(x14.FAlias == ([] : Bs))) then (some ((insS y5_c2 x14.FAlias), y6_c3)) else (some ((insS y5_c2 x14.FName), y6_c3))))) fun z10 => Z8_q3 a0 k_rec_25 (r3) z10.1 z10.2
theorem Z8_l3_qe {a0 : Fields_checker} {a1 : (Sl TSel)} {k_rec_25 : Fields_checker → (Sl TSel) → (List Bs) → (List Bs) → Option ((List Bs) × (List Bs))}  (Kb3 : (((List Bs) × (List Bs))) → Option ((List Bs) × (List Bs))) (hend : ∀ (n3 : Nat) (s14_4 : Nat) (y5_c2 : (List Bs)) (y6_c3 : (List Bs)), some (y5_c2, y6_c3) = Kb3 (y5_c2, y6_c3)) : ∀ (n3 : Nat) (s14_4 : Nat) (y5_c2 : (List Bs)) (y6_c3 : (List Bs)), (0 < n3 ∧ a1.l.length < s14_4 + n3) → Z8_l3 a0 a1 k_rec_25 n3 s14_4 y5_c2 y6_c3 = Option.bind (Z8_q3 a0 k_rec_25 (a1.l.drop s14_4) y5_c2 y6_c3) Kb3 := by
 intro n3
 induction n3 with
 | zero => intro s14_4 y5_c2 y6_c3 hn; exact absurd hn.1 (by omega)
 | succ n3 ih3 =>
  intro s14_4 y5_c2 y6_c3 hn
  rw [Z8_l3]
  by_cases hlt : s14_4 < a1.l.length
  ·obtain ⟨h3, hh3⟩ : ∃ x, a1.l[s14_4]? = some x := ⟨_, List.getElem?_eq_getElem hlt⟩
   rw [Q.drop_of hh3, Z8_q3]
   refine Q.condT (Q.ltT hlt) ?_
   refine Q.bindPO hh3 fun x14 hx_x14 => ?_
   refine Q.wrapOO fun Kj10 hKj10 => ?_
   have hj10 : ∀ (y11_c2 : (List Bs)) (y12_c3 : (List Bs)), Z8_j10 s14_4 (Z8_l3 a0 a1 k_rec_25 n3) y11_c2 y12_c3 = Kj10 (y11_c2, y12_c3) := by
    intro y11_c2 y12_c3
    refine Eq.trans ?_ (hKj10 _).symm
    try dsimp only
    unfold Z8_j10
    all_goals exact ih3 _ _ _ ⟨by omega, by omega⟩
   refine Q.condO ?_ ?_
   ·refine Q.bindO rfl fun x18 => ?_
    all_goals exact hj10 _ _
   refine Q.condO ?_ ?_
   ·refine Q.wrapOO fun Kb23 hKb23 => ?_
    refine Z8_l23_qe  Kb23 ?_ _ _ _ _ ⟨Nat.succ_pos _, by omega⟩
    intro n23 s45_24 y25_c2 y26_c3
    refine Eq.trans ?_ (hKb23 _).symm
    try dsimp only
    all_goals exact hj10 _ _
   refine Q.condO ?_ ?_
   ·all_goals exact hj10 _ _
   all_goals exact hj10 _ _
  rw [List.drop_of_length_le (by omega), Z8_q3]
  refine Q.condF (Q.ltF hlt) ?_
  exact hend n3 s14_4 y5_c2 y6_c3
def Z8_qn : Nat → Fields_checker → (Sl TSel) → (List Bs) → (List Bs) → Option ((List Bs) × (List Bs))
 | 0, _, _, _, _ => none
 | n + 1, a0, a1, a2, a3 => Option.bind (Z8_q3 a0 (Z8_qn n) a1.l a2 a3) fun z3 => some (z3.1, z3.2)
theorem Z8_qall : ∀ n : Nat, Z8_n n = Z8_qn n := by
 intro n
 induction n with
 | zero => exact (by funext a0 a1 a2 a3; first | rfl | (rw [Z8_n, Z8_qn]))
 | succ n ih =>
  funext a0 a1 a2 a3
  refine Eq.trans ?_ (Q.some_bind _)
  rw [Z8_n, Z8_qn]
  try rw [ih]
  refine Q.wrapOO fun Kb3 hKb3 => ?_
  refine Z8_l3_qe  Kb3 ?_ _ _ _ _ ⟨Nat.succ_pos _, by omega⟩
  intro n3 s14_4 y5_c2 y6_c3
  refine Eq.trans ?_ (hKb3 _).symm
  try dsimp only
  all_goals rfl
def Z8_q (a0 : Fields_checker) (a1 : (Sl TSel)) (a2 : (List Bs)) (a3 : (List Bs)) : Option ((List Bs) × (List Bs)) := Z8_qn F0 a0 a1 a2 a3
theorem Z8_eq (a0 : Fields_checker) (a1 : (Sl TSel)) (a2 : (List Bs)) (a3 : (List Bs)) : Z8 a0 a1 a2 a3 = Z8_q a0 a1 a2 a3 := by
 unfold Z8 Z8_q; rw [(Z8_qall F0)]
def Z3_q (a0 : Fields_checker) (a1 : Bool) (a2 : Int) (a3 : Bs) : Option Fields_checker := bif a1 then ((appC 24 a0.Fout (⟨false, [(TFault.mk a2 a3)]⟩ : Sl TFault)).bind fun x3 => some (Fields_checker.mk a0.Fd a0.Fq x3)) else (some a0)
theorem Z3_eq (a0 : Fields_checker) (a1 : Bool) (a2 : Int) (a3 : Bs) : Z3 a0 a1 a2 a3 = Z3_q a0 a1 a2 a3 := by
 unfold Z3 Z3_q
 refine Eq.trans ?_ (Q.some_bind _)
 refine Q.condO ?_ ?_
 ·refine Q.bindO rfl fun x3 => ?_
  all_goals rfl
 all_goals rfl
def Z91_q (a0 : (Sl Int)) : Option (Sl Int) := bif a0.nl then (some (Sl.nil : Sl Int)) else ((appC 8 (⟨false, []⟩ : Sl Int) a0).bind fun x7 => some x7)
theorem Z91_eq (a0 : (Sl Int)) : Z91 a0 = Z91_q a0 := by
 unfold Z91 Z91_q
 refine Eq.trans ?_ (Q.some_bind _)
 refine Q.condO ?_ ?_
 ·all_goals rfl
 refine Q.bindO rfl fun x7 => ?_
 all_goals rfl
def Z106_q (a0 : TRef) : Bool := on (bif (decide ((0 : Int) < ((a0.FWraps.l.length : Nat) : Int))) then ((a0.FWraps.l)[0]?.getD (0 : Int)) else (0 : Int)) fun x4 => ((decide ((0 : Int) < ((a0.FWraps.l.length : Nat) : Int))) && (decide (x4 = (1 : Int))))
theorem Z106_eq (a0 : TRef) : Z106 a0 = some (Z106_q a0) := by
 unfold Z106 Z106_q
 refine Q.guardT (fun hc => Q.getD_some (by simp at hc; omega)) fun x4 hx_x4 => ?_
 all_goals rfl
def Z108_q (a0 : TRef) : Option TRef := on (Z106_q a0) fun x4 => bif x4 then ((Z91_q a0.FWraps).bind fun x7 => some (TRef.mk a0.FName x7)) else ((appC 8 (⟨false, [(1 : Int)]⟩ : Sl Int) a0.FWraps).bind fun x9 => some (TRef.mk a0.FName x9))
theorem Z108_eq (a0 : TRef) : Z108 a0 = Z108_q a0 := by
 unfold Z108 Z108_q
 refine Eq.trans ?_ (Q.some_bind _)
 refine Q.bindPO (Z106_eq _) fun x4 hx_x4 => ?_
 refine Q.condO ?_ ?_
 ·refine Q.bindO (Z91_eq _) fun x7 => ?_
  all_goals rfl
 refine Q.bindO rfl fun x9 => ?_
 all_goals rfl
def Z107_q (a0 : Bs) : TRef := (TRef.mk a0 (Sl.nil : Sl Int))
theorem Z107_eq (a0 : Bs) : Z107 a0 = some (Z107_q a0) := by
 unfold Z107 Z107_q
 all_goals rfl
def Z11_q (a0 : Bs) (a1 : Bs) : Option TInput := on (Z107_q a1) fun x3 => (Z108_q x3).bind fun x4 => some (TInput.mk a0 x4 false TValue.zero (Sl.nil : Sl TDir))
theorem Z11_eq (a0 : Bs) (a1 : Bs) : Z11 a0 a1 = Z11_q a0 a1 := by
 unfold Z11 Z11_q
 refine Eq.trans ?_ (Q.some_bind _)
 refine Q.bindPO (Z107_eq _) fun x3 hx_x3 => ?_
 refine Q.bindO (Z108_eq _) fun x4 => ?_
 all_goals rfl
def Z2_q (a0 : Bs) (a1 : Bool) : Option (Sl TInput) := bif (((a0 == ([115, 107, 105, 112] : Bs))) || ((a0 == ([105, 110, 99, 108, 117, 100, 101] : Bs)))) then ((Z11_q ([105, 102] : Bs) ([66, 111, 111, 108, 101, 97, 110] : Bs)).bind fun x6 => some (⟨false, [x6]⟩ : Sl TInput)) else (bif (((a0 == ([100, 101, 102, 101, 114] : Bs))) && (!a1)) then ((Z11_q ([108, 97, 98, 101, 108] : Bs) ([83, 116, 114, 105, 110, 103] : Bs)).bind fun x10 => some (⟨false, [x10]⟩ : Sl TInput)) else (bif (((a0 == ([115, 116, 114, 101, 97, 109] : Bs))) && a1) then ((Z11_q ([108, 97, 98, 101, 108] : Bs) ([83, 116, 114, 105, 110, 103] : Bs)).bind fun x14 => (Z11_q ([105, 110, 105, 116, 105, 97, 108, 67, 111, 117, 110, 116] : Bs) ([73, 110, 116] : Bs)).bind fun x15 => some (⟨false, [x14, x15]⟩ : Sl TInput)) else (some (Sl.nil : Sl TInput))))
theorem Z2_eq (a0 : Bs) (a1 : Bool) : Z2 a0 a1 = Z2_q a0 a1 := by
 unfold Z2 Z2_q
 refine Eq.trans ?_ (Q.some_bind _)
 refine Q.condO ?_ ?_
 ·refine Q.bindO (Z11_eq _ _) fun x6 => ?_
  all_goals rfl
 refine Q.condO ?_ ?_
 ·refine Q.bindO (Z11_eq _ _) fun x10 => ?_
  all_goals rfl
 refine Q.condO ?_ ?_
 ·refine Q.bindO (Z11_eq _ _) fun x14 => ?_
  refine Q.bindO (Z11_eq _ _) fun x15 => ?_
  all_goals rfl
 all_goals rfl
def Z109_q (a0 : TRef) : Option TRef := on (Z106_q a0) fun x8 => Option.bind (bif x8 then ((partC a0.FWraps (some (1 : Int)) none).bind fun x10 => some x10) else (some a0.FWraps)) fun s3_4 => (Z91_q s3_4).bind fun x6 => some (TRef.mk a0.FName x6)
theorem Z109_eq (a0 : TRef) : Z109 a0 = Z109_q a0 := by
 unfold Z109 Z109_q
 refine Eq.trans ?_ (Q.some_bind _)
 refine Q.bindPO (Z106_eq _) fun x8 hx_x8 => ?_
 refine Q.wrapOO fun Kj3 hKj3 => ?_
 have hj3 : ∀ (s3_4 : (Sl Int)), Z109_j3 a0 s3_4 = Kj3 s3_4 := by
  intro s3_4
  refine Eq.trans ?_ (hKj3 _).symm
  unfold Z109_j3
  refine Q.bindO (Z91_eq _) fun x6 => ?_
  all_goals rfl
 refine Q.condO ?_ ?_
 ·refine Q.bindO rfl fun x10 => ?_
  all_goals exact hj3 _
 all_goals exact hj3 _
def Z105_q (a0 : TRef) : Option Bool := (Z109_q a0).bind fun x3 => on (bif (decide ((0 : Int) < ((x3.FWraps.l.length : Nat) : Int))) then ((x3.FWraps.l)[0]?.getD (0 : Int)) else (0 : Int)) fun x6 => some ((decide ((0 : Int) < ((x3.FWraps.l.length : Nat) : Int))) && (decide (x6 = (2 : Int))))
theorem Z105_eq (a0 : TRef) : Z105 a0 = Z105_q a0 := by
 unfold Z105 Z105_q
 refine Eq.trans ?_ (Q.some_bind _)
 refine Q.bindO (Z109_eq _) fun x3 => ?_
 refine Q.guardTO (fun hc => Q.getD_some (by simp at hc; omega)) fun x6 hx_x6 => ?_
 all_goals rfl
def Z98_q6 (a1 : (TDir → Bool)) : List TDir → Nat → Unit ⊕ Int
 | [], s8_7 => Sum.inl ()
 | h6 :: r6, s8_7 => on (h6) fun x14 => on (a1 x14) fun x15 => bif x15 then (Sum.inr ((s8_7 : Nat) : Int)) else (Z98_q6 a1 (r6) (s8_7 + 1) )
theorem Z98_l6_qe {a0 : (Sl TDir)} {a1 : (TDir → Bool)}  (Kb6 : (Unit ⊕ Int) → Option Int) (hend : ∀ (n6 : Nat) (s8_7 : Nat), Z98_j2    = Kb6 (Sum.inl ())) (hret : ∀ e : Int, some e = Kb6 (Sum.inr e)) : ∀ (n6 : Nat) (s8_7 : Nat), (0 < n6 ∧ a0.l.length < s8_7 + n6) → Z98_l6 a0 (fun y0 => some (a1 y0)) n6 s8_7 = Kb6 (Z98_q6 a1 (a0.l.drop s8_7) s8_7 ) := by
 intro n6
 induction n6 with
 | zero => intro s8_7 hn; exact absurd hn.1 (by omega)
 | succ n6 ih6 =>
  intro s8_7 hn
  rw [Z98_l6]
  by_cases hlt : s8_7 < a0.l.length
  ·obtain ⟨h6, hh6⟩ : ∃ x, a0.l[s8_7]? = some x := ⟨_, List.getElem?_eq_getElem hlt⟩
   rw [Q.drop_of hh6, Z98_q6]
   refine Q.condT (Q.ltT hlt) ?_
   refine Q.bindP hh6 fun x14 hx_x14 => ?_
   refine Q.bindP rfl fun x15 hx_x15 => ?_
   refine Q.condP ?_ ?_
   ·all_goals exact hret _
   all_goals exact ih6 _ ⟨by omega, by omega⟩
  rw [List.drop_of_length_le (by omega), Z98_q6]
  refine Q.condF (Q.ltF hlt) ?_
  exact hend n6 s8_7
def Z98_q (a0 : (Sl TDir)) (a1 : (TDir → Bool)) : Int := on (Z98_q6 a1 a0.l 0 ) fun o6 => match o6 with | Sum.inl _ => (on (()) fun _ => (-1 : Int)) | Sum.inr e6 => (e6)
theorem Z98_eq (a0 : (Sl TDir)) (a1 : (TDir → Bool)) : Z98 a0 (fun y0 => some (a1 y0)) = some (Z98_q a0 a1) := by
 unfold Z98 Z98_q
 refine Q.wrapPP fun Kb6 hKb6 => ?_
 refine Z98_l6_qe  Kb6 ?_ ?_ _ _ ⟨Nat.succ_pos _, by omega⟩
 ·intro n6 s8_7
  refine Eq.trans ?_ (hKb6 _).symm
  try dsimp only
  refine Q.wrapPP fun Kj2 hKj2 => ?_
  have hj2 : Z98_j2   = Kj2 () := by
   refine Eq.trans ?_ (hKj2 _).symm
   unfold Z98_j2
   all_goals rfl
  all_goals exact hj2
 intro e6
 refine Eq.trans ?_ (hKb6 _).symm
 try dsimp only
 all_goals rfl
def Z93_q (a0 : (Sl TDir)) (a1 : (TDir → Bool)) : Bool := on (Z98_q a0 a1) fun x3 => (decide ((0 : Int) ≤ x3))
theorem Z93_eq (a0 : (Sl TDir)) (a1 : (TDir → Bool)) : Z93 a0 (fun y0 => some (a1 y0)) = some (Z93_q a0 a1) := by
 unfold Z93 Z93_q
 refine Q.bindP (Z98_eq _ _) fun x3 hx_x3 => ?_
 all_goals rfl
def Z5_q (a0 : TDir) (a1 : TDir) : Bool := ((a0.FName == a1.FName))
theorem Z5_eq (a0 : TDir) (a1 : TDir) : Z5 a0 a1 = some (Z5_q a0 a1) := by
 unfold Z5 Z5_q
 all_goals rfl
def Z10_q7 (a1 : Bs) : List TArg → Unit ⊕ ((TValue × Bool))
 | [] => Sum.inl ()
 | h7 :: r7 => on (h7) fun x15 => bif ((x15.FName == a1)) then (Sum.inr (x15.FValue, true)) else (Z10_q7 a1 (r7) )
theorem Z10_l7_qe {a0 : (Sl TArg)} {a1 : Bs}  (Kb7 : (Unit ⊕ ((TValue × Bool))) → Option (TValue × Bool)) (hend : ∀ (n7 : Nat) (s10_8 : Nat) (y9_l0 : TValue), Z10_j2   y9_l0 = Kb7 (Sum.inl ())) (hret : ∀ e : (TValue × Bool), some e = Kb7 (Sum.inr e)) : ∀ (n7 : Nat) (s10_8 : Nat) (y9_l0 : TValue), (0 < n7 ∧ a0.l.length < s10_8 + n7) → Z10_l7 a0 a1 n7 s10_8 y9_l0 = Kb7 (Z10_q7 a1 (a0.l.drop s10_8) ) := by
 intro n7
 induction n7 with
 | zero => intro s10_8 y9_l0 hn; exact absurd hn.1 (by omega)
 | succ n7 ih7 =>
  intro s10_8 y9_l0 hn
  rw [Z10_l7]
  by_cases hlt : s10_8 < a0.l.length
  ·obtain ⟨h7, hh7⟩ : ∃ x, a0.l[s10_8]? = some x := ⟨_, List.getElem?_eq_getElem hlt⟩
   rw [Q.drop_of hh7, Z10_q7]
   refine Q.condT (Q.ltT hlt) ?_
   refine Q.bindP hh7 fun x15 hx_x15 => ?_
   refine Q.condP ?_ ?_
   ·all_goals exact hret _
   all_goals exact ih7 _ _ ⟨by omega, by omega⟩
  rw [List.drop_of_length_le (by omega), Z10_q7]
  refine Q.condF (Q.ltF hlt) ?_
  exact hend n7 s10_8 y9_l0
def Z10_q (a0 : (Sl TArg)) (a1 : Bs) : (TValue × Bool) := on (Z10_q7 a1 a0.l ) fun o7 => match o7 with | Sum.inl _ => (on (()) fun _ => ((TValue.mk (0 : Int) (0 : Int) ([] : Bs) true ([]) (Sl.nil : Sl Bs)), false)) | Sum.inr e7 => (e7)
theorem Z10_eq (a0 : (Sl TArg)) (a1 : Bs) : Z10 a0 a1 = some (Z10_q a0 a1) := by
 unfold Z10 Z10_q
 refine Q.wrapPP fun Kb7 hKb7 => ?_
 refine Z10_l7_qe  Kb7 ?_ ?_ _ _ _ ⟨Nat.succ_pos _, by omega⟩
 ·intro n7 s10_8 y9_l0
  refine Eq.trans ?_ (hKb7 _).symm
  try dsimp only
  refine Q.wrapPP fun Kj2 hKj2 => ?_
  have hj2 : ∀ (y3_l0 : TValue), Z10_j2  y3_l0 = Kj2 () := by
   intro y3_l0
   refine Eq.trans ?_ (hKj2 _).symm
   unfold Z10_j2
   all_goals rfl
  all_goals exact hj2 _
 intro e7
 refine Eq.trans ?_ (hKb7 _).symm
 try dsimp only
 all_goals rfl
def Z85_q7 (a1 : Bs) : List TInput → Unit ⊕ ((TInput × Bool))
 | [] => Sum.inl ()
 | h7 :: r7 => on (h7) fun x15 => bif ((x15.FName == a1)) then (Sum.inr (x15, true)) else (Z85_q7 a1 (r7) )
theorem Z85_l7_qe {a0 : (Sl TInput)} {a1 : Bs}  (Kb7 : (Unit ⊕ ((TInput × Bool))) → Option (TInput × Bool)) (hend : ∀ (n7 : Nat) (s10_8 : Nat) (y9_l0 : TInput), Z85_j2   y9_l0 = Kb7 (Sum.inl ())) (hret : ∀ e : (TInput × Bool), some e = Kb7 (Sum.inr e)) : ∀ (n7 : Nat) (s10_8 : Nat) (y9_l0 : TInput), (0 < n7 ∧ a0.l.length < s10_8 + n7) → Z85_l7 a0 a1 n7 s10_8 y9_l0 = Kb7 (Z85_q7 a1 (a0.l.drop s10_8) ) := by
 intro n7
 induction n7 with
 | zero => intro s10_8 y9_l0 hn; exact absurd hn.1 (by omega)
 | succ n7 ih7 =>
  intro s10_8 y9_l0 hn
  rw [Z85_l7]
  by_cases hlt : s10_8 < a0.l.length
  ·obtain ⟨h7, hh7⟩ : ∃ x, a0.l[s10_8]? = some x := ⟨_, List.getElem?_eq_getElem hlt⟩
   rw [Q.drop_of hh7, Z85_q7]
   refine Q.condT (Q.ltT hlt) ?_
   refine Q.bindP hh7 fun x15 hx_x15 => ?_
   refine Q.condP ?_ ?_
   ·all_goals exact hret _
   all_goals exact ih7 _ _ ⟨by omega, by omega⟩
  rw [List.drop_of_length_le (by omega), Z85_q7]
  refine Q.condF (Q.ltF hlt) ?_
  exact hend n7 s10_8 y9_l0
def Z85_q (a0 : (Sl TInput)) (a1 : Bs) : (TInput × Bool) := on (Z85_q7 a1 a0.l ) fun o7 => match o7 with | Sum.inl _ => (on (()) fun _ => ((TInput.mk ([] : Bs) TRef.zero false TValue.zero (Sl.nil : Sl TDir)), false)) | Sum.inr e7 => (e7)
theorem Z85_eq (a0 : (Sl TInput)) (a1 : Bs) : Z85 a0 a1 = some (Z85_q a0 a1) := by
 unfold Z85 Z85_q
 refine Q.wrapPP fun Kb7 hKb7 => ?_
 refine Z85_l7_qe  Kb7 ?_ ?_ _ _ _ ⟨Nat.succ_pos _, by omega⟩
 ·intro n7 s10_8 y9_l0
  refine Eq.trans ?_ (hKb7 _).symm
  try dsimp only
  refine Q.wrapPP fun Kj2 hKj2 => ?_
  have hj2 : ∀ (y3_l0 : TInput), Z85_j2  y3_l0 = Kj2 () := by
   intro y3_l0
   refine Eq.trans ?_ (hKj2 _).symm
   unfold Z85_j2
   all_goals rfl
  all_goals exact hj2 _
 intro e7
 refine Eq.trans ?_ (hKb7 _).symm
 try dsimp only
 all_goals rfl
end Go.Proofs
