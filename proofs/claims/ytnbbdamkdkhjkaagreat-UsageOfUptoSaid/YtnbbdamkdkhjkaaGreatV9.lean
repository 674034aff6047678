import Derived.Test.YtnbbdamkdkhjkaaGreatV8
set_option maxRecDepth 100000
set_option maxHeartbeats 2000000
set_option linter.unusedVariables false
set_option linter.unusedSimpArgs false
namespace Go.Proofs
open Go Go.Ab
def Z51_q36  : List TField → Int → Option (Int)
 | [], s3_37 => some s3_37
 | h36 :: r36, s3_37 => on (h36) fun x44 => on (h36) fun x45 => (addC ((x44.FArgs.l.length : Nat) : Int) ((x45.FDirs.l.length : Nat) : Int)).bind fun x46 => (addC s3_37 x46).bind fun x47 => Z51_q36  (r36) x47
theorem Z51_l36_qe {s4_14 : Nat} {x22 : TDef} {k_next_12 : Int → Nat → Option Bool}  (Kb36 : (Int) → Option Bool) (hend : ∀ (n36 : Nat) (s3_37 : Int) (s6_38 : Nat), Z51_j19 s4_14 k_next_12 s3_37 = Kb36 s3_37) : ∀ (n36 : Nat) (s3_37 : Int) (s6_38 : Nat), (0 < n36 ∧ x22.FFields.l.length < s6_38 + n36) → Z51_l36 s4_14 x22 k_next_12 n36 s3_37 s6_38 = Option.bind (Z51_q36  (x22.FFields.l.drop s6_38) s3_37) Kb36 := by
 intro n36
 induction n36 with
 | zero => intro s3_37 s6_38 hn; exact absurd hn.1 (by omega)
 | succ n36 ih36 =>
  intro s3_37 s6_38 hn
  rw [Z51_l36]
  by_cases hlt : s6_38 < x22.FFields.l.length
  ·obtain ⟨h36, hh36⟩ : ∃ x, x22.FFields.l[s6_38]? = some x := ⟨_, List.getElem?_eq_getElem hlt⟩
   rw [Q.drop_of hh36, Z51_q36]
   refine Q.condT (Q.ltT hlt) ?_
   refine Q.bindPO hh36 fun x44 hx_x44 => ?_
   refine Q.bindPO hh36 fun x45 hx_x45 => ?_
   refine Q.bindO rfl fun x46 => ?_
   refine Q.bindO rfl fun x47 => ?_
   all_goals exact ih36 _ _ ⟨by omega, by omega⟩
  rw [List.drop_of_length_le (by omega), Z51_q36]
  refine Q.condF (Q.ltF hlt) ?_
  exact hend n36 s3_37 s6_38
def Z51_q12  : List TDef → Int → Option (Int)
 | [], s3_13 => some s3_13
 | h12 :: r12, s3_13 => on (h12) fun x22 => (addC (1 : Int) ((x22.FFields.l.length : Nat) : Int)).bind fun x25 => (addC x25 ((x22.FMembers.l.length : Nat) : Int)).bind fun x27 => (addC x27 ((x22.FInputs.l.length : Nat) : Int)).bind fun x29 => (addC x29 ((x22.FDirs.l.length : Nat) : Int)).bind fun x31 => (addC x31 ((x22.FImplements.l.length : Nat) : Int)).bind fun x33 => (addC s3_13 x33).bind fun x34 => Option.bind (Z51_q36  x22.FFields.l x34) fun s3_37 => on (s3_37) fun s3_20 => Z51_q12  (r12) s3_20
theorem Z51_l12_qe {a0 : TDoc}  (Kb12 : (Int) → Option Bool) (hend : ∀ (n12 : Nat) (s3_13 : Int) (s4_14 : Nat), Z51_j8   s3_13 = Kb12 s3_13) : ∀ (n12 : Nat) (s3_13 : Int) (s4_14 : Nat), (0 < n12 ∧ a0.FDefs.l.length < s4_14 + n12) → Z51_l12 a0 n12 s3_13 s4_14 = Option.bind (Z51_q12  (a0.FDefs.l.drop s4_14) s3_13) Kb12 := by
 intro n12
 induction n12 with
 | zero => intro s3_13 s4_14 hn; exact absurd hn.1 (by omega)
 | succ n12 ih12 =>
  intro s3_13 s4_14 hn
  rw [Z51_l12]
  by_cases hlt : s4_14 < a0.FDefs.l.length
  ·obtain ⟨h12, hh12⟩ : ∃ x, a0.FDefs.l[s4_14]? = some x := ⟨_, List.getElem?_eq_getElem hlt⟩
   rw [Q.drop_of hh12, Z51_q12]
   refine Q.condT (Q.ltT hlt) ?_
   refine Q.bindPO hh12 fun x22 hx_x22 => ?_
   refine Q.bindO rfl fun x25 => ?_
   refine Q.bindO rfl fun x27 => ?_
   refine Q.bindO rfl fun x29 => ?_
   refine Q.bindO rfl fun x31 => ?_
   refine Q.bindO rfl fun x33 => ?_
   refine Q.bindO rfl fun x34 => ?_
   refine Q.wrapOO fun Kb36 hKb36 => ?_
   refine Z51_l36_qe  Kb36 ?_ _ _ _ ⟨Nat.succ_pos _, by omega⟩
   intro n36 s3_37 s6_38
   refine Eq.trans ?_ (hKb36 _).symm
   refine Q.wrapPO fun Kj19 hKj19 => ?_
   have hj19 : ∀ (s3_20 : Int), Z51_j19 s4_14 (Z51_l12 a0 n12) s3_20 = Kj19 s3_20 := by
    intro s3_20
    refine Eq.trans ?_ (hKj19 _).symm
    unfold Z51_j19
    all_goals exact ih12 _ _ ⟨by omega, by omega⟩
   all_goals exact hj19 _
  rw [List.drop_of_length_le (by omega), Z51_q12]
  refine Q.condF (Q.ltF hlt) ?_
  exact hend n12 s3_13 s4_14
def Z51_q (a0 : TDoc) : Option Bool := bif (decide ((70 : Int) < ((a0.FDefs.l.length : Nat) : Int))) then (some true) else (Option.bind (Z51_q12  a0.FDefs.l (0 : Int)) fun s3_13 => on (s3_13) fun s3_9 => some (decide ((1000 : Int) < s3_9)))
theorem Z51_eq (a0 : TDoc) : Z51 a0 = Z51_q a0 := by
 unfold Z51 Z51_q
 refine Eq.trans ?_ (Q.some_bind _)
 refine Q.condO ?_ ?_
 ·all_goals rfl
 refine Q.wrapOO fun Kb12 hKb12 => ?_
 refine Z51_l12_qe  Kb12 ?_ _ _ _ ⟨Nat.succ_pos _, by omega⟩
 intro n12 s3_13 s4_14
 refine Eq.trans ?_ (hKb12 _).symm
 refine Q.wrapPO fun Kj8 hKj8 => ?_
 have hj8 : ∀ (s3_9 : Int), Z51_j8  s3_9 = Kj8 s3_9 := by
  intro s3_9
  refine Eq.trans ?_ (hKj8 _).symm
  unfold Z51_j8
  all_goals rfl
 all_goals exact hj8 _
def Z17_q7 (k_rec_90 : TValue → Option Int) : List TValue → Int → Option (Int)
 | [], s3_8 => some s3_8
 | h7 :: r7, s3_8 => on (h7) fun x15 => (k_rec_90 x15).bind fun x16 => (addC s3_8 x16).bind fun x17 => Z17_q7 k_rec_90 (r7) x17
theorem Z17_l7_qe {a0 : TValue} {k_rec_90 : TValue → Option Int}  (Kb7 : (Int) → Option Int) (hend : ∀ (n7 : Nat) (s3_8 : Int) (s4_9 : Nat), Z17_j3   s3_8 = Kb7 s3_8) : ∀ (n7 : Nat) (s3_8 : Int) (s4_9 : Nat), (0 < n7 ∧ a0.FItems.l.length < s4_9 + n7) → Z17_l7 a0 k_rec_90 n7 s3_8 s4_9 = Option.bind (Z17_q7 k_rec_90 (a0.FItems.l.drop s4_9) s3_8) Kb7 := by
 intro n7
 induction n7 with
 | zero => intro s3_8 s4_9 hn; exact absurd hn.1 (by omega)
 | succ n7 ih7 =>
  intro s3_8 s4_9 hn
  rw [Z17_l7]
  by_cases hlt : s4_9 < a0.FItems.l.length
  ·obtain ⟨h7, hh7⟩ : ∃ x, a0.FItems.l[s4_9]? = some x := ⟨_, List.getElem?_eq_getElem hlt⟩
   rw [Q.drop_of hh7, Z17_q7]
   refine Q.condT (Q.ltT hlt) ?_
   refine Q.bindPO hh7 fun x15 hx_x15 => ?_
   refine Q.bindO rfl fun x16 => ?_
   refine Q.bindO rfl fun x17 => ?_
   all_goals exact ih7 _ _ ⟨by omega, by omega⟩
  rw [List.drop_of_length_le (by omega), Z17_q7]
  refine Q.condF (Q.ltF hlt) ?_
  exact hend n7 s3_8 s4_9
def Z17_qn : Nat → TValue → Option Int
 | 0, _ => none
 | n + 1, a0 => Option.bind (Z17_q7 (Z17_qn n) a0.FItems.l (1 : Int)) fun s3_8 => on (s3_8) fun s3_4 => some s3_4
theorem Z17_qall : ∀ n : Nat, Z17_n n = Z17_qn n := by
 intro n
 induction n with
 | zero => exact (by funext a0; first | rfl | (rw [Z17_n, Z17_qn]))
 | succ n ih =>
  funext a0
  refine Eq.trans ?_ (Q.some_bind _)
  rw [Z17_n, Z17_qn]
  try rw [ih]
  refine Q.wrapOO fun Kb7 hKb7 => ?_
  refine Z17_l7_qe  Kb7 ?_ _ _ _ ⟨Nat.succ_pos _, by omega⟩
  intro n7 s3_8 s4_9
  refine Eq.trans ?_ (hKb7 _).symm
  refine Q.wrapPO fun Kj3 hKj3 => ?_
  have hj3 : ∀ (s3_4 : Int), Z17_j3  s3_4 = Kj3 s3_4 := by
   intro s3_4
   refine Eq.trans ?_ (hKj3 _).symm
   unfold Z17_j3
   all_goals rfl
  all_goals exact hj3 _
def Z17_q (a0 : TValue) : Option Int := Z17_qn F0 a0
theorem Z17_eq (a0 : TValue) : Z17 a0 = Z17_q a0 := by
 unfold Z17 Z17_q; rw [(Z17_qall F0)]
def Z46_q29 (a1 : Int) (h7 : TSel) : List TArg → Int → Option (Int)
 | [], s5_30 => some s5_30
 | h29 :: r29, s5_30 => bif (decide (s5_30 ≤ a1)) then (on (h7) fun x38 => on (h29) fun x39 => (Z17_q x39.FValue).bind fun x40 => (addC s5_30 x40).bind fun x41 => Z46_q29 a1 h7 (r29) x41) else (some s5_30)
theorem Z46_l29_qe {a0 : (Sl TSel)} {a1 : Int} {s6_9 : Nat} {k_next_7 : Int → Nat → Option Int} {k_rec_48 : (Sl TSel) → Int → Option Int} {h7 : TSel} (hh7 : a0.l[s6_9]? = some h7) (Kb29 : (Int) → Option Int) (hend : ∀ (n29 : Nat) (s5_30 : Int) (s7_31 : Nat), Z46_j22 a0 a1 s6_9 k_next_7 k_rec_48 s5_30 = Kb29 s5_30) : ∀ (n29 : Nat) (s5_30 : Int) (s7_31 : Nat), (0 < n29 ∧ h7.FArgs.l.length < s7_31 + n29) → Z46_l29 a0 a1 s6_9 k_next_7 k_rec_48 n29 s5_30 s7_31 = Option.bind (Z46_q29 a1 h7 (h7.FArgs.l.drop s7_31) s5_30) Kb29 := by
 intro n29
 induction n29 with
 | zero => intro s5_30 s7_31 hn; exact absurd hn.1 (by omega)
 | succ n29 ih29 =>
  intro s5_30 s7_31 hn
  rw [Z46_l29]
  refine Q.preB hh7 fun x34 hx_x34 => ?_
  subst hx_x34
  by_cases hlt : s7_31 < x34.FArgs.l.length
  ·obtain ⟨h29, hh29⟩ : ∃ x, x34.FArgs.l[s7_31]? = some x := ⟨_, List.getElem?_eq_getElem hlt⟩
   rw [Q.drop_of hh29, Z46_q29]
   refine Q.condAT (Q.ltT hlt) ?_
   refine Q.condO ?_ ?_
   ·refine Q.bindPO hh7 fun x38 hx_x38 => ?_
    refine Q.bindPO (by first | exact hh29 | (simp only [hx_x38]; exact hh29) | (simp only [hx_x38] at hh29 ⊢; exact hh29)) fun x39 hx_x39 => ?_
    refine Q.bindO (Z17_eq _) fun x40 => ?_
    refine Q.bindO rfl fun x41 => ?_
    all_goals exact ih29 _ _ ⟨by omega, by omega⟩
   all_goals exact hend n29 s5_30 s7_31
  rw [List.drop_of_length_le (by omega), Z46_q29]
  refine Q.condAF (Q.ltF hlt) ?_
  exact hend n29 s5_30 s7_31
def Z46_q7 (a1 : Int) (k_rec_48 : (Sl TSel) → Int → Option Int) : List TSel → Int → Option (Int)
 | [], s5_8 => some s5_8
 | h7 :: r7, s5_8 => bif (decide (s5_8 ≤ a1)) then ((addC s5_8 (1 : Int)).bind fun x17 => on (h7) fun x18 => (addC x17 ((x18.FArgs.l.length : Nat) : Int)).bind fun x19 => on (h7) fun x20 => (addC x19 ((x20.FDirs.l.length : Nat) : Int)).bind fun x21 => Option.bind (Z46_q29 a1 h7 h7.FArgs.l x21) fun s5_30 => on (s5_30) fun s5_23 => on (h7) fun x24 => (subC a1 s5_23).bind fun x25 => (k_rec_48 x24.FSels x25).bind fun x26 => (addC s5_23 x26).bind fun x27 => on (x27) fun s5_15 => Z46_q7 a1 k_rec_48 (r7) s5_15) else (some s5_8)
theorem Z46_l7_qe {a0 : (Sl TSel)} {a1 : Int} {k_rec_48 : (Sl TSel) → Int → Option Int}  (Kb7 : (Int) → Option Int) (hend : ∀ (n7 : Nat) (s5_8 : Int) (s6_9 : Nat), Z46_j3   s5_8 = Kb7 s5_8) : ∀ (n7 : Nat) (s5_8 : Int) (s6_9 : Nat), (0 < n7 ∧ a0.l.length < s6_9 + n7) → Z46_l7 a0 a1 k_rec_48 n7 s5_8 s6_9 = Option.bind (Z46_q7 a1 k_rec_48 (a0.l.drop s6_9) s5_8) Kb7 := by
 intro n7
 induction n7 with
 | zero => intro s5_8 s6_9 hn; exact absurd hn.1 (by omega)
 | succ n7 ih7 =>
  intro s5_8 s6_9 hn
  rw [Z46_l7]
  by_cases hlt : s6_9 < a0.l.length
  ·obtain ⟨h7, hh7⟩ : ∃ x, a0.l[s6_9]? = some x := ⟨_, List.getElem?_eq_getElem hlt⟩
   rw [Q.drop_of hh7, Z46_q7]
   refine Q.condAT (Q.ltT hlt) ?_
   refine Q.condO ?_ ?_
   ·refine Q.bindO rfl fun x17 => ?_
    refine Q.bindPO hh7 fun x18 hx_x18 => ?_
    refine Q.bindO rfl fun x19 => ?_
    refine Q.bindPO hh7 fun x20 hx_x20 => ?_
    refine Q.bindO rfl fun x21 => ?_
    refine Q.wrapOO fun Kb29 hKb29 => ?_
    refine Z46_l29_qe hh7 Kb29 ?_ _ _ _ ⟨by rw [hh7]; exact Nat.succ_pos _, by rw [hh7]; simp only [Option.elim]; omega⟩
    intro n29 s5_30 s7_31
    refine Eq.trans ?_ (hKb29 _).symm
    refine Q.wrapPO fun Kj22 hKj22 => ?_
    have hj22 : ∀ (s5_23 : Int), Z46_j22 a0 a1 s6_9 (Z46_l7 a0 a1 k_rec_48 n7) k_rec_48 s5_23 = Kj22 s5_23 := by
     intro s5_23
     refine Eq.trans ?_ (hKj22 _).symm
     unfold Z46_j22
     refine Q.bindPO hh7 fun x24 hx_x24 => ?_
     refine Q.bindO rfl fun x25 => ?_
     refine Q.bindO rfl fun x26 => ?_
     refine Q.bindO rfl fun x27 => ?_
     refine Q.wrapPO fun Kj14 hKj14 => ?_
     have hj14 : ∀ (s5_15 : Int), Z46_j14 s6_9 (Z46_l7 a0 a1 k_rec_48 n7) s5_15 = Kj14 s5_15 := by
      intro s5_15
      refine Eq.trans ?_ (hKj14 _).symm
      unfold Z46_j14
      all_goals exact ih7 _ _ ⟨by omega, by omega⟩
     all_goals exact hj14 _
    all_goals exact hj22 _
   all_goals exact hend n7 s5_8 s6_9
  rw [List.drop_of_length_le (by omega), Z46_q7]
  refine Q.condAF (Q.ltF hlt) ?_
  exact hend n7 s5_8 s6_9
def Z46_qn : Nat → (Sl TSel) → Int → Option Int
 | 0, _, _ => none
 | n + 1, a0, a1 => Option.bind (Z46_q7 a1 (Z46_qn n) a0.l (0 : Int)) fun s5_8 => on (s5_8) fun s5_4 => some s5_4
theorem Z46_qall : ∀ n : Nat, Z46_n n = Z46_qn n := by
 intro n
 induction n with
 | zero => exact (by funext a0 a1; first | rfl | (rw [Z46_n, Z46_qn]))
 | succ n ih =>
  funext a0 a1
  refine Eq.trans ?_ (Q.some_bind _)
  rw [Z46_n, Z46_qn]
  try rw [ih]
  refine Q.wrapOO fun Kb7 hKb7 => ?_
  refine Z46_l7_qe  Kb7 ?_ _ _ _ ⟨Nat.succ_pos _, by omega⟩
  intro n7 s5_8 s6_9
  refine Eq.trans ?_ (hKb7 _).symm
  refine Q.wrapPO fun Kj3 hKj3 => ?_
  have hj3 : ∀ (s5_4 : Int), Z46_j3  s5_4 = Kj3 s5_4 := by
   intro s5_4
   refine Eq.trans ?_ (hKj3 _).symm
   unfold Z46_j3
   all_goals rfl
  all_goals exact hj3 _
def Z46_q (a0 : (Sl TSel)) (a1 : Int) : Option Int := Z46_qn F0 a0 a1
theorem Z46_eq (a0 : (Sl TSel)) (a1 : Int) : Z46 a0 a1 = Z46_q a0 a1 := by
 unfold Z46 Z46_q; rw [(Z46_qall F0)]
def Z38_q24  : List TOp → Int → Option (Int)
 | [], s3_25 => some s3_25
 | h24 :: r24, s3_25 => bif (decide (s3_25 ≤ (600 : Int))) then (on (h24) fun x32 => (addC s3_25 ((x32.FVars.l.length : Nat) : Int)).bind fun x33 => on (h24) fun x34 => (Z46_q x34.FSels (600 : Int)).bind fun x35 => (addC x33 x35).bind fun x36 => Z38_q24  (r24) x36) else (some s3_25)
theorem Z38_l24_qe {a0 : TQuery}  (Kb24 : (Int) → Option Bool) (hend : ∀ (n24 : Nat) (s3_25 : Int) (s4_26 : Nat), Z38_j6 a0  s3_25 = Kb24 s3_25) : ∀ (n24 : Nat) (s3_25 : Int) (s4_26 : Nat), (0 < n24 ∧ a0.FOps.l.length < s4_26 + n24) → Z38_l24 a0 n24 s3_25 s4_26 = Option.bind (Z38_q24  (a0.FOps.l.drop s4_26) s3_25) Kb24 := by
 intro n24
 induction n24 with
 | zero => intro s3_25 s4_26 hn; exact absurd hn.1 (by omega)
 | succ n24 ih24 =>
  intro s3_25 s4_26 hn
  rw [Z38_l24]
  by_cases hlt : s4_26 < a0.FOps.l.length
  ·obtain ⟨h24, hh24⟩ : ∃ x, a0.FOps.l[s4_26]? = some x := ⟨_, List.getElem?_eq_getElem hlt⟩
   rw [Q.drop_of hh24, Z38_q24]
   refine Q.condAT (Q.ltT hlt) ?_
   refine Q.condO ?_ ?_
   ·refine Q.bindPO hh24 fun x32 hx_x32 => ?_
    refine Q.bindO rfl fun x33 => ?_
    refine Q.bindPO hh24 fun x34 hx_x34 => ?_
    refine Q.bindO (Z46_eq _ _) fun x35 => ?_
    refine Q.bindO rfl fun x36 => ?_
    all_goals exact ih24 _ _ ⟨by omega, by omega⟩
   all_goals exact hend n24 s3_25 s4_26
  rw [List.drop_of_length_le (by omega), Z38_q24]
  refine Q.condAF (Q.ltF hlt) ?_
  exact hend n24 s3_25 s4_26
def Z38_q12  : List TFrag → Int → Option (Int)
 | [], s3_13 => some s3_13
 | h12 :: r12, s3_13 => bif (decide (s3_13 ≤ (600 : Int))) then (on (h12) fun x20 => (Z46_q x20.FSels (600 : Int)).bind fun x21 => (addC s3_13 x21).bind fun x22 => Z38_q12  (r12) x22) else (some s3_13)
theorem Z38_l12_qe {a0 : TQuery}  (Kb12 : (Int) → Option Bool) (hend : ∀ (n12 : Nat) (s3_13 : Int) (s5_14 : Nat), Z38_j8   s3_13 = Kb12 s3_13) : ∀ (n12 : Nat) (s3_13 : Int) (s5_14 : Nat), (0 < n12 ∧ a0.FFrags.l.length < s5_14 + n12) → Z38_l12 a0 n12 s3_13 s5_14 = Option.bind (Z38_q12  (a0.FFrags.l.drop s5_14) s3_13) Kb12 := by
 intro n12
 induction n12 with
 | zero => intro s3_13 s5_14 hn; exact absurd hn.1 (by omega)
 | succ n12 ih12 =>
  intro s3_13 s5_14 hn
  rw [Z38_l12]
  by_cases hlt : s5_14 < a0.FFrags.l.length
  ·obtain ⟨h12, hh12⟩ : ∃ x, a0.FFrags.l[s5_14]? = some x := ⟨_, List.getElem?_eq_getElem hlt⟩
   rw [Q.drop_of hh12, Z38_q12]
   refine Q.condAT (Q.ltT hlt) ?_
   refine Q.condO ?_ ?_
   ·refine Q.bindPO hh12 fun x20 hx_x20 => ?_
    refine Q.bindO (Z46_eq _ _) fun x21 => ?_
    refine Q.bindO rfl fun x22 => ?_
    all_goals exact ih12 _ _ ⟨by omega, by omega⟩
   all_goals exact hend n12 s3_13 s5_14
  rw [List.drop_of_length_le (by omega), Z38_q12]
  refine Q.condAF (Q.ltF hlt) ?_
  exact hend n12 s3_13 s5_14
def Z38_q (a0 : TQuery) : Option Bool := (addC ((a0.FOps.l.length : Nat) : Int) ((a0.FFrags.l.length : Nat) : Int)).bind fun x5 => Option.bind (Z38_q24  a0.FOps.l x5) fun s3_25 => on (s3_25) fun s3_7 => Option.bind (Z38_q12  a0.FFrags.l s3_7) fun s3_13 => on (s3_13) fun s3_9 => some (decide ((600 : Int) < s3_9))
theorem Z38_eq (a0 : TQuery) : Z38 a0 = Z38_q a0 := by
 unfold Z38 Z38_q
 refine Eq.trans ?_ (Q.some_bind _)
 refine Q.bindO rfl fun x5 => ?_
 refine Q.wrapOO fun Kb24 hKb24 => ?_
 refine Z38_l24_qe  Kb24 ?_ _ _ _ ⟨Nat.succ_pos _, by omega⟩
 intro n24 s3_25 s4_26
 refine Eq.trans ?_ (hKb24 _).symm
 refine Q.wrapPO fun Kj6 hKj6 => ?_
 have hj6 : ∀ (s3_7 : Int), Z38_j6 a0 s3_7 = Kj6 s3_7 := by
  intro s3_7
  refine Eq.trans ?_ (hKj6 _).symm
  unfold Z38_j6
  refine Q.wrapOO fun Kb12 hKb12 => ?_
  refine Z38_l12_qe  Kb12 ?_ _ _ _ ⟨Nat.succ_pos _, by omega⟩
  intro n12 s3_13 s5_14
  refine Eq.trans ?_ (hKb12 _).symm
  refine Q.wrapPO fun Kj8 hKj8 => ?_
  have hj8 : ∀ (s3_9 : Int), Z38_j8  s3_9 = Kj8 s3_9 := by
   intro s3_9
   refine Eq.trans ?_ (hKj8 _).symm
   unfold Z38_j8
   all_goals rfl
  all_goals exact hj8 _
 all_goals exact hj6 _
def Z14_q (a0 : Int) : Bool := ((((decide ((65 : Int) ≤ a0)) && (decide (a0 ≤ (90 : Int)))) || ((decide ((97 : Int) ≤ a0)) && (decide (a0 ≤ (122 : Int))))) || (decide (a0 = (95 : Int))))
theorem Z14_eq (a0 : Int) : Z14 a0 = some (Z14_q a0) := by
 unfold Z14 Z14_q
 all_goals rfl
def Z13_q (a0 : Int) : Bool := ((decide ((48 : Int) ≤ a0)) && (decide (a0 ≤ (57 : Int))))
theorem Z13_eq (a0 : Int) : Z13 a0 = some (Z13_q a0) := by
 unfold Z13 Z13_q
 all_goals rfl
def Z12_q10  : List UInt8 → Nat → Unit ⊕ Bool
 | [], s3_11 => Sum.inl ()
 | h10 :: r10, s3_11 => on (h10) fun x18 => on (Z14_q ((x18.toNat : Nat) : Int)) fun x19 => on (bif ((!x19) && !(decide (((s3_11 : Nat) : Int) = (0 : Int)))) then h10 else (0 : UInt8)) fun x20 => on (bif ((!x19) && !(decide (((s3_11 : Nat) : Int) = (0 : Int)))) then Z13_q ((x20.toNat : Nat) : Int) else false) fun x21 => bif ((!x19) && ((decide (((s3_11 : Nat) : Int) = (0 : Int))) || (!x21))) then (Sum.inr false) else (Z12_q10  (r10) (s3_11 + 1) )
theorem Z12_l10_qe {a0 : Bs}  (Kb10 : (Unit ⊕ Bool) → Option Bool) (hend : ∀ (n10 : Nat) (s3_11 : Nat), Z12_j7    = Kb10 (Sum.inl ())) (hret : ∀ e : Bool, some e = Kb10 (Sum.inr e)) : ∀ (n10 : Nat) (s3_11 : Nat), (0 < n10 ∧ a0.length < s3_11 + n10) → Z12_l10 a0 n10 s3_11 = Kb10 (Z12_q10  (a0.drop s3_11) s3_11 ) := by
 intro n10
 induction n10 with
 | zero => intro s3_11 hn; exact absurd hn.1 (by omega)
 | succ n10 ih10 =>
  intro s3_11 hn
  rw [Z12_l10]
  by_cases hlt : s3_11 < a0.length
  ·obtain ⟨h10, hh10⟩ : ∃ x, a0[s3_11]? = some x := ⟨_, List.getElem?_eq_getElem hlt⟩
   rw [Q.drop_of hh10, Z12_q10]
   refine Q.condT (Q.ltT hlt) ?_
   refine Q.bindP hh10 fun x18 hx_x18 => ?_
   refine Q.bindP (Z14_eq _) fun x19 hx_x19 => ?_
   refine Q.guardP hh10 fun x20 hx_x20 => ?_
   refine Q.guardP (Z13_eq _) fun x21 hx_x21 => ?_
   refine Q.condP ?_ ?_
   ·all_goals exact hret _
   all_goals exact ih10 _ ⟨by omega, by omega⟩
  rw [List.drop_of_length_le (by omega), Z12_q10]
  refine Q.condF (Q.ltF hlt) ?_
  exact hend n10 s3_11
def Z12_q (a0 : Bs) : Bool := bif ((decide (((a0.length : Nat) : Int) < (1 : Int))) || (decide ((64 : Int) < ((a0.length : Nat) : Int)))) then (false) else (on (Z12_q10  a0 0 ) fun o10 => match o10 with | Sum.inl _ => (on (()) fun _ => true) | Sum.inr e10 => (e10))
theorem Z12_eq (a0 : Bs) : Z12 a0 = some (Z12_q a0) := by
 unfold Z12 Z12_q
 refine Q.condP ?_ ?_
 ·all_goals rfl
 refine Q.wrapPP fun Kb10 hKb10 => ?_
 refine Z12_l10_qe  Kb10 ?_ ?_ _ _ ⟨Nat.succ_pos _, by omega⟩
 ·intro n10 s3_11
  refine Eq.trans ?_ (hKb10 _).symm
  try dsimp only
  refine Q.wrapPP fun Kj7 hKj7 => ?_
  have hj7 : Z12_j7   = Kj7 () := by
   refine Eq.trans ?_ (hKj7 _).symm
   unfold Z12_j7
   all_goals rfl
  all_goals exact hj7
 intro e10
 refine Eq.trans ?_ (hKb10 _).symm
 try dsimp only
 all_goals rfl
def Z15_q8 (k_rec_130 : TValue → Option Int) : List TValue → Int → Option (Int)
 | [], s3_9 => some s3_9
 | h8 :: r8, s3_9 => on (h8) fun x16 => (k_rec_130 x16).bind fun x17 => Z15_q8 k_rec_130 (r8) (if x17 > s3_9 then x17 else s3_9)
theorem Z15_l8_qe {a0 : TValue} {k_rec_130 : TValue → Option Int}  (Kb8 : (Int) → Option Int) (hend : ∀ (n8 : Nat) (s3_9 : Int) (s4_10 : Nat), Z15_j3   s3_9 = Kb8 s3_9) : ∀ (n8 : Nat) (s3_9 : Int) (s4_10 : Nat), (0 < n8 ∧ a0.FItems.l.length < s4_10 + n8) → Z15_l8 a0 k_rec_130 n8 s3_9 s4_10 = Option.bind (Z15_q8 k_rec_130 (a0.FItems.l.drop s4_10) s3_9) Kb8 := by
 intro n8
 induction n8 with
 | zero => intro s3_9 s4_10 hn; exact absurd hn.1 (by omega)
 | succ n8 ih8 =>
  intro s3_9 s4_10 hn
  rw [Z15_l8]
  by_cases hlt : s4_10 < a0.FItems.l.length
  ·obtain ⟨h8, hh8⟩ : ∃ x, a0.FItems.l[s4_10]? = some x := ⟨_, List.getElem?_eq_getElem hlt⟩
   rw [Q.drop_of hh8, Z15_q8]
   refine Q.condT (Q.ltT hlt) ?_
   refine Q.bindPO hh8 fun x16 hx_x16 => ?_
   refine Q.bindO rfl fun x17 => ?_
   all_goals exact ih8 _ _ ⟨by omega, by omega⟩
  rw [List.drop_of_length_le (by omega), Z15_q8]
  refine Q.condF (Q.ltF hlt) ?_
  exact hend n8 s3_9 s4_10
def Z15_qn : Nat → TValue → Option Int
 | 0, _ => none
 | n + 1, a0 => Option.bind (Z15_q8 (Z15_qn n) a0.FItems.l (0 : Int)) fun s3_9 => on (s3_9) fun s3_4 => (addC s3_4 (1 : Int)).bind fun x6 => some x6
theorem Z15_qall : ∀ n : Nat, Z15_n n = Z15_qn n := by
 intro n
 induction n with
 | zero => exact (by funext a0; first | rfl | (rw [Z15_n, Z15_qn]))
 | succ n ih =>
  funext a0
  refine Eq.trans ?_ (Q.some_bind _)
  rw [Z15_n, Z15_qn]
  try rw [ih]
  refine Q.wrapOO fun Kb8 hKb8 => ?_
  refine Z15_l8_qe  Kb8 ?_ _ _ _ ⟨Nat.succ_pos _, by omega⟩
  intro n8 s3_9 s4_10
  refine Eq.trans ?_ (hKb8 _).symm
  refine Q.wrapPO fun Kj3 hKj3 => ?_
  have hj3 : ∀ (s3_4 : Int), Z15_j3  s3_4 = Kj3 s3_4 := by
   intro s3_4
   refine Eq.trans ?_ (hKj3 _).symm
   unfold Z15_j3
   refine Q.bindO rfl fun x6 => ?_
   all_goals rfl
  all_goals exact hj3 _
def Z15_q (a0 : TValue) : Option Int := Z15_qn F0 a0
theorem Z15_eq (a0 : TValue) : Z15 a0 = Z15_q a0 := by
 unfold Z15 Z15_q; rw [(Z15_qall F0)]
def Z19_q13 (a0 : (Sl Bs)) (h5 : Bs) : Nat → Nat → Option (Unit ⊕ Bool)
 | 0, s4_14 => some (Sum.inl ())
 | r13 + 1, s4_14 => on (h5) fun x20 => (a0.l[s4_14]?).bind fun x21 => bif ((x20 == x21)) then (some (Sum.inr true)) else (Z19_q13 a0 h5 (r13) (s4_14 + 1) )
theorem Z19_l13_qe {a0 : (Sl Bs)} {s3_6 : Nat} {k_next_5 : Nat → Option Bool} {h5 : Bs} (hh5 : a0.l[s3_6]? = some h5) (Kb13 : (Unit ⊕ Bool) → Option Bool) (hend : ∀ (n13 : Nat) (s4_14 : Nat), Z19_j11 s3_6 k_next_5  = Kb13 (Sum.inl ())) (hret : ∀ e : Bool, some e = Kb13 (Sum.inr e)) : ∀ (n13 : Nat) (s4_14 : Nat), (0 < n13 ∧ s3_6 < s4_14 + n13) → Z19_l13 a0 s3_6 k_next_5 n13 s4_14 = Option.bind (Z19_q13 a0 h5 (s3_6 - s4_14) s4_14 ) Kb13 := by
 intro n13
 induction n13 with
 | zero => intro s4_14 hn; exact absurd hn.1 (by omega)
 | succ n13 ih13 =>
  intro s4_14 hn
  rw [Z19_l13]
  by_cases hlt : s4_14 < s3_6
  ·rw [show s3_6 - s4_14 = (s3_6 - (s4_14 + 1)) + 1 by omega, Z19_q13]
   refine Q.condT (Q.ltT hlt) ?_
   refine Q.bindPO hh5 fun x20 hx_x20 => ?_
   refine Q.bindO rfl fun x21 => ?_
   refine Q.condO ?_ ?_
   ·all_goals exact hret _
   all_goals exact ih13 _ ⟨by omega, by omega⟩
  rw [show s3_6 - s4_14 = 0 by omega, Z19_q13]
  refine Q.condF (Q.ltF hlt) ?_
  exact hend n13 s4_14
def Z19_q5 (a0 : (Sl Bs)) : List Bs → Nat → Option (Unit ⊕ Bool)
 | [], s3_6 => some (Sum.inl ())
 | h5 :: r5, s3_6 => Option.bind (Z19_q13 a0 h5 s3_6 0 ) fun o13 => match o13 with | Sum.inl _ => (on (()) fun _ => Z19_q5 a0 (r5) (s3_6 + 1) ) | Sum.inr e13 => (some (Sum.inr e13))
theorem Z19_l5_qe {a0 : (Sl Bs)}  (Kb5 : (Unit ⊕ Bool) → Option Bool) (hend : ∀ (n5 : Nat) (s3_6 : Nat), Z19_j2    = Kb5 (Sum.inl ())) (hret : ∀ e : Bool, some e = Kb5 (Sum.inr e)) : ∀ (n5 : Nat) (s3_6 : Nat), (0 < n5 ∧ a0.l.length < s3_6 + n5) → Z19_l5 a0 n5 s3_6 = Option.bind (Z19_q5 a0 (a0.l.drop s3_6) s3_6 ) Kb5 := by
 intro n5
 induction n5 with
 | zero => intro s3_6 hn; exact absurd hn.1 (by omega)
 | succ n5 ih5 =>
  intro s3_6 hn
  rw [Z19_l5]
  by_cases hlt : s3_6 < a0.l.length
  ·obtain ⟨h5, hh5⟩ : ∃ x, a0.l[s3_6]? = some x := ⟨_, List.getElem?_eq_getElem hlt⟩
   rw [Q.drop_of hh5, Z19_q5]
   refine Q.condT (Q.ltT hlt) ?_
   refine Q.wrapOO fun Kb13 hKb13 => ?_
   refine Z19_l13_qe hh5 Kb13 ?_ ?_ _ _ ⟨Nat.succ_pos _, by omega⟩
   ·intro n13 s4_14
    refine Eq.trans ?_ (hKb13 _).symm
    try dsimp only
    refine Q.wrapPO fun Kj11 hKj11 => ?_
    have hj11 : Z19_j11 s3_6 (Z19_l5 a0 n5)  = Kj11 () := by
     refine Eq.trans ?_ (hKj11 _).symm
     unfold Z19_j11
     all_goals exact ih5 _ ⟨by omega, by omega⟩
    all_goals exact hj11
   intro e13
   refine Eq.trans ?_ (hKb13 _).symm
   try dsimp only
   all_goals exact hret _
  rw [List.drop_of_length_le (by omega), Z19_q5]
  refine Q.condF (Q.ltF hlt) ?_
  exact hend n5 s3_6
def Z19_q (a0 : (Sl Bs)) : Option Bool := Option.bind (Z19_q5 a0 a0.l 0 ) fun o5 => match o5 with | Sum.inl _ => (on (()) fun _ => some false) | Sum.inr e5 => (some e5)
theorem Z19_eq (a0 : (Sl Bs)) : Z19 a0 = Z19_q a0 := by
 unfold Z19 Z19_q
 refine Eq.trans ?_ (Q.some_bind _)
 refine Q.wrapOO fun Kb5 hKb5 => ?_
 refine Z19_l5_qe  Kb5 ?_ ?_ _ _ ⟨Nat.succ_pos _, by omega⟩
 ·intro n5 s3_6
  refine Eq.trans ?_ (hKb5 _).symm
  try dsimp only
  refine Q.wrapPO fun Kj2 hKj2 => ?_
  have hj2 : Z19_j2   = Kj2 () := by
   refine Eq.trans ?_ (hKj2 _).symm
   unfold Z19_j2
   all_goals rfl
  all_goals exact hj2
 intro e5
 refine Eq.trans ?_ (hKb5 _).symm
 try dsimp only
 all_goals rfl
def Z18_q (a0 : TValue) (a1 : Bool) : Option Bool := bif (decide (a0.FKind = (0 : Int))) then (some ((((decide (a0.FInt = (0 : Int))) && ((a0.FText == ([] : Bs)))) && (decide (((a0.FItems.l.length : Nat) : Int) = (0 : Int)))) && (decide (((a0.FKeys.l.length : Nat) : Int) = (0 : Int))))) else (bif (decide (a0.FKind = (1 : Int))) then (some (((((decide (a0.FInt = (0 : Int))) || (decide (a0.FInt = (1 : Int)))) && ((a0.FText == ([] : Bs)))) && (decide (((a0.FItems.l.length : Nat) : Int) = (0 : Int)))) && (decide (((a0.FKeys.l.length : Nat) : Int) = (0 : Int))))) else (bif (decide (a0.FKind = (2 : Int))) then (some ((((a0.FText == ([] : Bs))) && (decide (((a0.FItems.l.length : Nat) : Int) = (0 : Int)))) && (decide (((a0.FKeys.l.length : Nat) : Int) = (0 : Int))))) else (bif (decide (a0.FKind = (3 : Int))) then (some (((decide (a0.FInt = (0 : Int))) && (decide (((a0.FItems.l.length : Nat) : Int) = (0 : Int)))) && (decide (((a0.FKeys.l.length : Nat) : Int) = (0 : Int))))) else (bif (decide (a0.FKind = (4 : Int))) then (on (bif (((decide (a0.FInt = (0 : Int))) && (decide (((a0.FItems.l.length : Nat) : Int) = (0 : Int)))) && (decide (((a0.FKeys.l.length : Nat) : Int) = (0 : Int)))) then Z12_q a0.FText else false) fun x19 => some (((((((decide (a0.FInt = (0 : Int))) && (decide (((a0.FItems.l.length : Nat) : Int) = (0 : Int)))) && (decide (((a0.FKeys.l.length : Nat) : Int) = (0 : Int)))) && x19) && (!(a0.FText == ([116, 114, 117, 101] : Bs)))) && (!(a0.FText == ([102, 97, 108, 115, 101] : Bs)))) && (!(a0.FText == ([110, 117, 108, 108] : Bs))))) else (bif (decide (a0.FKind = (5 : Int))) then (some (((decide (a0.FInt = (0 : Int))) && ((a0.FText == ([] : Bs)))) && (decide (((a0.FKeys.l.length : Nat) : Int) = (0 : Int))))) else (bif (decide (a0.FKind = (6 : Int))) then (guardO ((((decide (a0.FInt = (0 : Int))) && ((a0.FText == ([] : Bs)))) && (decide (((a0.FKeys.l.length : Nat) : Int) = ((a0.FItems.l.length : Nat) : Int))))) (Z19_q a0.FKeys) false fun x26 => some ((((decide (a0.FInt = (0 : Int))) && ((a0.FText == ([] : Bs)))) && (decide (((a0.FKeys.l.length : Nat) : Int) = ((a0.FItems.l.length : Nat) : Int)))) && (!x26))) else (bif (decide (a0.FKind = (7 : Int))) then (on (bif (((a1 && (decide (a0.FInt = (0 : Int)))) && (decide (((a0.FItems.l.length : Nat) : Int) = (0 : Int)))) && (decide (((a0.FKeys.l.length : Nat) : Int) = (0 : Int)))) then Z12_q a0.FText else false) fun x30 => some ((((a1 && (decide (a0.FInt = (0 : Int)))) && (decide (((a0.FItems.l.length : Nat) : Int) = (0 : Int)))) && (decide (((a0.FKeys.l.length : Nat) : Int) = (0 : Int)))) && x30)) else (some false))))))))
theorem Z18_eq (a0 : TValue) (a1 : Bool) : Z18 a0 a1 = Z18_q a0 a1 := by
 unfold Z18 Z18_q
 refine Eq.trans ?_ (Q.some_bind _)
 refine Q.condO ?_ ?_
 ·all_goals rfl
 refine Q.condO ?_ ?_
 ·all_goals rfl
 refine Q.condO ?_ ?_
 ·all_goals rfl
 refine Q.condO ?_ ?_
 ·all_goals rfl
 refine Q.condO ?_ ?_
 ·refine Q.guardPO (Z12_eq _) fun x19 hx_x19 => ?_
  all_goals rfl
 refine Q.condO ?_ ?_
 ·all_goals rfl
 refine Q.condO ?_ ?_
 ·refine Q.guardOO (Z19_eq _) fun x26 => ?_
  all_goals rfl
 refine Q.condO ?_ ?_
 ·refine Q.guardPO (Z12_eq _) fun x30 hx_x30 => ?_
  all_goals rfl
 all_goals rfl
def Z20_q24 (a1 : Bool) : List Bs → Unit ⊕ Bool
 | [] => Sum.inl ()
 | h24 :: r24 => on (bif a1 then h24 else ([] : Bs)) fun x32 => on (bif a1 then Z12_q x32 else false) fun x33 => bif (a1 && (!x33)) then (Sum.inr false) else (Z20_q24 a1 (r24) )
theorem Z20_l24_qe {a0 : TValue} {a1 : Bool} {k_rec_131 : TValue → Bool → Option Bool}  (Kb24 : (Unit ⊕ Bool) → Option Bool) (hend : ∀ (n24 : Nat) (s5_25 : Nat), Z20_j7 a0 a1 k_rec_131  = Kb24 (Sum.inl ())) (hret : ∀ e : Bool, some e = Kb24 (Sum.inr e)) : ∀ (n24 : Nat) (s5_25 : Nat), (0 < n24 ∧ a0.FKeys.l.length < s5_25 + n24) → Z20_l24 a0 a1 k_rec_131 n24 s5_25 = Kb24 (Z20_q24 a1 (a0.FKeys.l.drop s5_25) ) := by
 intro n24
 induction n24 with
 | zero => intro s5_25 hn; exact absurd hn.1 (by omega)
 | succ n24 ih24 =>
  intro s5_25 hn
  rw [Z20_l24]
  by_cases hlt : s5_25 < a0.FKeys.l.length
  ·obtain ⟨h24, hh24⟩ : ∃ x, a0.FKeys.l[s5_25]? = some x := ⟨_, List.getElem?_eq_getElem hlt⟩
   rw [Q.drop_of hh24, Z20_q24]
   refine Q.condT (Q.ltT hlt) ?_
   refine Q.guardP hh24 fun x32 hx_x32 => ?_
   refine Q.guardP (Z12_eq _) fun x33 hx_x33 => ?_
   refine Q.condP ?_ ?_
   ·all_goals exact hret _
   all_goals exact ih24 _ ⟨by omega, by omega⟩
  rw [List.drop_of_length_le (by omega), Z20_q24]
  refine Q.condF (Q.ltF hlt) ?_
  exact hend n24 s5_25
def Z20_q11 (a1 : Bool) (k_rec_131 : TValue → Bool → Option Bool) : List TValue → Option (Unit ⊕ Bool)
 | [] => some (Sum.inl ())
 | h11 :: r11 => on (h11) fun x19 => (k_rec_131 x19 a1).bind fun x20 => bif (!x20) then (some (Sum.inr false)) else (Z20_q11 a1 k_rec_131 (r11) )
theorem Z20_l11_qe {a0 : TValue} {a1 : Bool} {k_rec_131 : TValue → Bool → Option Bool}  (Kb11 : (Unit ⊕ Bool) → Option Bool) (hend : ∀ (n11 : Nat) (s6_12 : Nat), Z20_j8    = Kb11 (Sum.inl ())) (hret : ∀ e : Bool, some e = Kb11 (Sum.inr e)) : ∀ (n11 : Nat) (s6_12 : Nat), (0 < n11 ∧ a0.FItems.l.length < s6_12 + n11) → Z20_l11 a0 a1 k_rec_131 n11 s6_12 = Option.bind (Z20_q11 a1 k_rec_131 (a0.FItems.l.drop s6_12) ) Kb11 := by
 intro n11
 induction n11 with
 | zero => intro s6_12 hn; exact absurd hn.1 (by omega)
 | succ n11 ih11 =>
  intro s6_12 hn
  rw [Z20_l11]
  by_cases hlt : s6_12 < a0.FItems.l.length
  ·obtain ⟨h11, hh11⟩ : ∃ x, a0.FItems.l[s6_12]? = some x := ⟨_, List.getElem?_eq_getElem hlt⟩
   rw [Q.drop_of hh11, Z20_q11]
   refine Q.condT (Q.ltT hlt) ?_
   refine Q.bindPO hh11 fun x19 hx_x19 => ?_
   refine Q.bindO rfl fun x20 => ?_
   refine Q.condO ?_ ?_
   ·all_goals exact hret _
   all_goals exact ih11 _ ⟨by omega, by omega⟩
  rw [List.drop_of_length_le (by omega), Z20_q11]
  refine Q.condF (Q.ltF hlt) ?_
  exact hend n11 s6_12
def Z20_qn : Nat → TValue → Bool → Option Bool
 | 0, _, _ => none
 | n + 1, a0, a1 => (Z18_q a0 a1).bind fun x4 => bif (!x4) then (some false) else (on (Z20_q24 a1 a0.FKeys.l ) fun o24 => match o24 with | Sum.inl _ => (on (()) fun _ => Option.bind (Z20_q11 a1 (Z20_qn n) a0.FItems.l ) fun o11 => match o11 with | Sum.inl _ => (on (()) fun _ => some true) | Sum.inr e11 => (some e11)) | Sum.inr e24 => (some e24))
theorem Z20_qall : ∀ n : Nat, Z20_n n = Z20_qn n := by
 intro n
 induction n with
 | zero => exact (by funext a0 a1; first | rfl | (rw [Z20_n, Z20_qn]))
 | succ n ih =>
  funext a0 a1
  refine Eq.trans ?_ (Q.some_bind _)
  rw [Z20_n, Z20_qn]
  try rw [ih]
  refine Q.bindO (Z18_eq _ _) fun x4 => ?_
  refine Q.condO ?_ ?_
  ·all_goals rfl
  refine Q.wrapPO fun Kb24 hKb24 => ?_
  refine Z20_l24_qe  Kb24 ?_ ?_ _ _ ⟨Nat.succ_pos _, by omega⟩
  ·intro n24 s5_25
   refine Eq.trans ?_ (hKb24 _).symm
   try dsimp only
   refine Q.wrapPO fun Kj7 hKj7 => ?_
   have hj7 : Z20_j7 a0 a1 (Z20_qn n)  = Kj7 () := by
    refine Eq.trans ?_ (hKj7 _).symm
    unfold Z20_j7
    refine Q.wrapOO fun Kb11 hKb11 => ?_
    refine Z20_l11_qe  Kb11 ?_ ?_ _ _ ⟨Nat.succ_pos _, by omega⟩
    ·intro n11 s6_12
     refine Eq.trans ?_ (hKb11 _).symm
     try dsimp only
     refine Q.wrapPO fun Kj8 hKj8 => ?_
     have hj8 : Z20_j8   = Kj8 () := by
      refine Eq.trans ?_ (hKj8 _).symm
      unfold Z20_j8
      all_goals rfl
     all_goals exact hj8
    intro e11
    refine Eq.trans ?_ (hKb11 _).symm
    try dsimp only
    all_goals rfl
   all_goals exact hj7
  intro e24
  refine Eq.trans ?_ (hKb24 _).symm
  try dsimp only
  all_goals rfl
def Z20_q (a0 : TValue) (a1 : Bool) : Option Bool := Z20_qn F0 a0 a1
theorem Z20_eq (a0 : TValue) (a1 : Bool) : Z20 a0 a1 = Z20_q a0 a1 := by
 unfold Z20 Z20_q; rw [(Z20_qall F0)]
def Z16_q (a0 : TValue) : Option Bool := (Z17_q a0).bind fun x3 => guardO ((decide (x3 ≤ (4096 : Int)))) (Z15_q a0) (0 : Int) fun x4 => guardO (((decide (x3 ≤ (4096 : Int))) && (decide (x4 ≤ (24 : Int))))) (Z20_q a0 true) false fun x5 => some (((decide (x3 ≤ (4096 : Int))) && (decide (x4 ≤ (24 : Int)))) && x5)
theorem Z16_eq (a0 : TValue) : Z16 a0 = Z16_q a0 := by
 unfold Z16 Z16_q
 refine Eq.trans ?_ (Q.some_bind _)
 refine Q.bindO (Z17_eq _) fun x3 => ?_
 refine Q.guardOO (Z15_eq _) fun x4 => ?_
 refine Q.guardOO (Z20_eq _ _) fun x5 => ?_
 all_goals rfl
def Z31_q5 (k_rec_128 : TValue → Option Bool) : List TValue → Option (Unit ⊕ Bool)
 | [] => some (Sum.inl ())
 | h5 :: r5 => on (h5) fun x13 => (k_rec_128 x13).bind fun x14 => bif (!x14) then (some (Sum.inr false)) else (Z31_q5 k_rec_128 (r5) )
theorem Z31_l5_qe {a0 : TValue} {k_rec_128 : TValue → Option Bool}  (Kb5 : (Unit ⊕ Bool) → Option Bool) (hend : ∀ (n5 : Nat) (s3_6 : Nat), Z31_j2 a0   = Kb5 (Sum.inl ())) (hret : ∀ e : Bool, some e = Kb5 (Sum.inr e)) : ∀ (n5 : Nat) (s3_6 : Nat), (0 < n5 ∧ a0.FItems.l.length < s3_6 + n5) → Z31_l5 a0 k_rec_128 n5 s3_6 = Option.bind (Z31_q5 k_rec_128 (a0.FItems.l.drop s3_6) ) Kb5 := by
 intro n5
 induction n5 with
 | zero => intro s3_6 hn; exact absurd hn.1 (by omega)
 | succ n5 ih5 =>
  intro s3_6 hn
  rw [Z31_l5]
  by_cases hlt : s3_6 < a0.FItems.l.length
  ·obtain ⟨h5, hh5⟩ : ∃ x, a0.FItems.l[s3_6]? = some x := ⟨_, List.getElem?_eq_getElem hlt⟩
   rw [Q.drop_of hh5, Z31_q5]
   refine Q.condT (Q.ltT hlt) ?_
   refine Q.bindPO hh5 fun x13 hx_x13 => ?_
   refine Q.bindO rfl fun x14 => ?_
   refine Q.condO ?_ ?_
   ·all_goals exact hret _
   all_goals exact ih5 _ ⟨by omega, by omega⟩
  rw [List.drop_of_length_le (by omega), Z31_q5]
  refine Q.condF (Q.ltF hlt) ?_
  exact hend n5 s3_6
def Z31_qn : Nat → TValue → Option Bool
 | 0, _ => none
 | n + 1, a0 => Option.bind (Z31_q5 (Z31_qn n) a0.FItems.l ) fun o5 => match o5 with | Sum.inl _ => (on (()) fun _ => some (!decide (a0.FKind = (7 : Int)))) | Sum.inr e5 => (some e5)
theorem Z31_qall : ∀ n : Nat, Z31_n n = Z31_qn n := by
 intro n
 induction n with
 | zero => exact (by funext a0; first | rfl | (rw [Z31_n, Z31_qn]))
 | succ n ih =>
  funext a0
  refine Eq.trans ?_ (Q.some_bind _)
  rw [Z31_n, Z31_qn]
  try rw [ih]
  refine Q.wrapOO fun Kb5 hKb5 => ?_
  refine Z31_l5_qe  Kb5 ?_ ?_ _ _ ⟨Nat.succ_pos _, by omega⟩
  ·intro n5 s3_6
   refine Eq.trans ?_ (hKb5 _).symm
   try dsimp only
   refine Q.wrapPO fun Kj2 hKj2 => ?_
   have hj2 : Z31_j2 a0  = Kj2 () := by
    refine Eq.trans ?_ (hKj2 _).symm
    unfold Z31_j2
    all_goals rfl
   all_goals exact hj2
  intro e5
  refine Eq.trans ?_ (hKb5 _).symm
  try dsimp only
  all_goals rfl
def Z31_q (a0 : TValue) : Option Bool := Z31_qn F0 a0
theorem Z31_eq (a0 : TValue) : Z31 a0 = Z31_q a0 := by
 unfold Z31 Z31_q; rw [(Z31_qall F0)]
def Z33_q25 (h10 : TDir) : List TArg → Option (Unit ⊕ Bool)
 | [] => some (Sum.inl ())
 | h25 :: r25 => on (h10) fun x34 => on (h25) fun x35 => on (Z12_q x35.FName) fun x37 => guardO (!(!x37)) (Z16_q x35.FValue) false fun x38 => guardO (!((!x37) || (!x38))) (Z31_q x35.FValue) false fun x39 => bif (((!x37) || (!x38)) || (!x39)) then (some (Sum.inr false)) else (Z33_q25 h10 (r25) )
theorem Z33_l25_qe {a0 : (Sl TDir)} {s3_11 : Nat} {k_next_10 : Nat → Option Bool} {h10 : TDir} (hh10 : a0.l[s3_11]? = some h10) (Kb25 : (Unit ⊕ Bool) → Option Bool) (hend : ∀ (n25 : Nat) (s4_26 : Nat), Z33_j16 s3_11 k_next_10  = Kb25 (Sum.inl ())) (hret : ∀ e : Bool, some e = Kb25 (Sum.inr e)) : ∀ (n25 : Nat) (s4_26 : Nat), (0 < n25 ∧ h10.FArgs.l.length < s4_26 + n25) → Z33_l25 a0 s3_11 k_next_10 n25 s4_26 = Option.bind (Z33_q25 h10 (h10.FArgs.l.drop s4_26) ) Kb25 := by
 intro n25
 induction n25 with
 | zero => intro s4_26 hn; exact absurd hn.1 (by omega)
 | succ n25 ih25 =>
  intro s4_26 hn
  rw [Z33_l25]
  refine Q.preB hh10 fun x29 hx_x29 => ?_
  subst hx_x29
  by_cases hlt : s4_26 < x29.FArgs.l.length
  ·obtain ⟨h25, hh25⟩ : ∃ x, x29.FArgs.l[s4_26]? = some x := ⟨_, List.getElem?_eq_getElem hlt⟩
   rw [Q.drop_of hh25, Z33_q25]
   refine Q.condT (Q.ltT hlt) ?_
   refine Q.bindPO hh10 fun x34 hx_x34 => ?_
   refine Q.bindPO (by first | exact hh25 | (simp only [hx_x34]; exact hh25) | (simp only [hx_x34] at hh25 ⊢; exact hh25)) fun x35 hx_x35 => ?_
   refine Q.bindPO (Z12_eq _) fun x37 hx_x37 => ?_
   refine Q.guardOO (Z16_eq _) fun x38 => ?_
   refine Q.guardOO (Z31_eq _) fun x39 => ?_
   refine Q.condO ?_ ?_
   ·all_goals exact hret _
   all_goals exact ih25 _ ⟨by omega, by omega⟩
  rw [List.drop_of_length_le (by omega), Z33_q25]
  refine Q.condF (Q.ltF hlt) ?_
  exact hend n25 s4_26
def Z33_q10  : List TDir → Option (Unit ⊕ Bool)
 | [] => some (Sum.inl ())
 | h10 :: r10 => on (h10) fun x19 => on (Z12_q x19.FName) fun x20 => on (bif !(!x20) then h10 else TDir.zero) fun x21 => bif ((!x20) || (decide ((16 : Int) < ((x21.FArgs.l.length : Nat) : Int)))) then (some (Sum.inr false)) else (Option.bind (Z33_q25 h10 h10.FArgs.l ) fun o25 => match o25 with | Sum.inl _ => (on (()) fun _ => Z33_q10  (r10) ) | Sum.inr e25 => (some (Sum.inr e25)))
theorem Z33_l10_qe {a0 : (Sl TDir)}  (Kb10 : (Unit ⊕ Bool) → Option Bool) (hend : ∀ (n10 : Nat) (s3_11 : Nat), Z33_j7    = Kb10 (Sum.inl ())) (hret : ∀ e : Bool, some e = Kb10 (Sum.inr e)) : ∀ (n10 : Nat) (s3_11 : Nat), (0 < n10 ∧ a0.l.length < s3_11 + n10) → Z33_l10 a0 n10 s3_11 = Option.bind (Z33_q10  (a0.l.drop s3_11) ) Kb10 := by
 intro n10
 induction n10 with
 | zero => intro s3_11 hn; exact absurd hn.1 (by omega)
 | succ n10 ih10 =>
  intro s3_11 hn
  rw [Z33_l10]
  by_cases hlt : s3_11 < a0.l.length
  ·obtain ⟨h10, hh10⟩ : ∃ x, a0.l[s3_11]? = some x := ⟨_, List.getElem?_eq_getElem hlt⟩
   rw [Q.drop_of hh10, Z33_q10]
   refine Q.condT (Q.ltT hlt) ?_
   refine Q.bindPO hh10 fun x19 hx_x19 => ?_
   refine Q.bindPO (Z12_eq _) fun x20 hx_x20 => ?_
   refine Q.guardPO hh10 fun x21 hx_x21 => ?_
   refine Q.condO ?_ ?_
   ·all_goals exact hret _
   refine Q.wrapOO fun Kb25 hKb25 => ?_
   refine Z33_l25_qe hh10 Kb25 ?_ ?_ _ _ ⟨by rw [hh10]; exact Nat.succ_pos _, by rw [hh10]; simp only [Option.elim]; omega⟩
   ·intro n25 s4_26
    refine Eq.trans ?_ (hKb25 _).symm
    try dsimp only
    refine Q.wrapPO fun Kj16 hKj16 => ?_
    have hj16 : Z33_j16 s3_11 (Z33_l10 a0 n10)  = Kj16 () := by
     refine Eq.trans ?_ (hKj16 _).symm
     unfold Z33_j16
     all_goals exact ih10 _ ⟨by omega, by omega⟩
    all_goals exact hj16
   intro e25
   refine Eq.trans ?_ (hKb25 _).symm
   try dsimp only
   all_goals exact hret _
  rw [List.drop_of_length_le (by omega), Z33_q10]
  refine Q.condF (Q.ltF hlt) ?_
  exact hend n10 s3_11
def Z33_q (a0 : (Sl TDir)) : Option Bool := bif (decide ((16 : Int) < ((a0.l.length : Nat) : Int))) then (some false) else (Option.bind (Z33_q10  a0.l ) fun o10 => match o10 with | Sum.inl _ => (on (()) fun _ => some true) | Sum.inr e10 => (some e10))
theorem Z33_eq (a0 : (Sl TDir)) : Z33 a0 = Z33_q a0 := by
 unfold Z33 Z33_q
 refine Eq.trans ?_ (Q.some_bind _)
 refine Q.condO ?_ ?_
 ·all_goals rfl
 refine Q.wrapOO fun Kb10 hKb10 => ?_
 refine Z33_l10_qe  Kb10 ?_ ?_ _ _ ⟨Nat.succ_pos _, by omega⟩
 ·intro n10 s3_11
  refine Eq.trans ?_ (hKb10 _).symm
  try dsimp only
  refine Q.wrapPO fun Kj7 hKj7 => ?_
  have hj7 : Z33_j7   = Kj7 () := by
   refine Eq.trans ?_ (hKj7 _).symm
   unfold Z33_j7
   all_goals rfl
  all_goals exact hj7
 intro e10
 refine Eq.trans ?_ (hKb10 _).symm
 try dsimp only
 all_goals rfl
def Z27_q10 (a0 : TRef) : List Int → Nat → Option (Unit ⊕ Bool)
 | [], s3_11 => some (Sum.inl ())
 | h10 :: r10, s3_11 => on (h10) fun x19 => on (bif (!decide (x19 = (1 : Int))) then h10 else (0 : Int)) fun x20 => bif ((!decide (x19 = (1 : Int))) && (!decide (x20 = (2 : Int)))) then (some (Sum.inr false)) else (on (bif (decide ((0 : Int) < ((s3_11 : Nat) : Int))) then h10 else (0 : Int)) fun x24 => guardO (((decide ((0 : Int) < ((s3_11 : Nat) : Int))) && (decide (x24 = (1 : Int))))) (subC ((s3_11 : Nat) : Int) (1 : Int)) (0 : Int) fun x25 => guardO (((decide ((0 : Int) < ((s3_11 : Nat) : Int))) && (decide (x24 = (1 : Int))))) (idxC a0.FWraps.l x25) (0 : Int) fun x26 => bif (((decide ((0 : Int) < ((s3_11 : Nat) : Int))) && (decide (x24 = (1 : Int)))) && (decide (x26 = (1 : Int)))) then (some (Sum.inr false)) else (Z27_q10 a0 (r10) (s3_11 + 1) ))
theorem Z27_l10_qe {a0 : TRef}  (Kb10 : (Unit ⊕ Bool) → Option Bool) (hend : ∀ (n10 : Nat) (s3_11 : Nat), Z27_j7    = Kb10 (Sum.inl ())) (hret : ∀ e : Bool, some e = Kb10 (Sum.inr e)) : ∀ (n10 : Nat) (s3_11 : Nat), (0 < n10 ∧ a0.FWraps.l.length < s3_11 + n10) → Z27_l10 a0 n10 s3_11 = Option.bind (Z27_q10 a0 (a0.FWraps.l.drop s3_11) s3_11 ) Kb10 := by
 intro n10
 induction n10 with
 | zero => intro s3_11 hn; exact absurd hn.1 (by omega)
 | succ n10 ih10 =>
  intro s3_11 hn
  rw [Z27_l10]
  by_cases hlt : s3_11 < a0.FWraps.l.length
  ·obtain ⟨h10, hh10⟩ : ∃ x, a0.FWraps.l[s3_11]? = some x := ⟨_, List.getElem?_eq_getElem hlt⟩
   rw [Q.drop_of hh10, Z27_q10]
   refine Q.condT (Q.ltT hlt) ?_
   refine Q.bindPO hh10 fun x19 hx_x19 => ?_
   refine Q.guardPO hh10 fun x20 hx_x20 => ?_
   refine Q.condO ?_ ?_
   ·all_goals exact hret _
   refine Q.guardPO hh10 fun x24 hx_x24 => ?_
   refine Q.guardOO rfl fun x25 => ?_
   refine Q.guardOO rfl fun x26 => ?_
   refine Q.condO ?_ ?_
   ·all_goals exact hret _
   all_goals exact ih10 _ ⟨by omega, by omega⟩
  rw [List.drop_of_length_le (by omega), Z27_q10]
  refine Q.condF (Q.ltF hlt) ?_
  exact hend n10 s3_11
def Z27_q (a0 : TRef) : Option Bool := on (Z12_q a0.FName) fun x4 => bif ((!x4) || (decide ((24 : Int) < ((a0.FWraps.l.length : Nat) : Int)))) then (some false) else (Option.bind (Z27_q10 a0 a0.FWraps.l 0 ) fun o10 => match o10 with | Sum.inl _ => (on (()) fun _ => some true) | Sum.inr e10 => (some e10))
theorem Z27_eq (a0 : TRef) : Z27 a0 = Z27_q a0 := by
 unfold Z27 Z27_q
 refine Eq.trans ?_ (Q.some_bind _)
 refine Q.bindPO (Z12_eq _) fun x4 hx_x4 => ?_
 refine Q.condO ?_ ?_
 ·all_goals rfl
 refine Q.wrapOO fun Kb10 hKb10 => ?_
 refine Z27_l10_qe  Kb10 ?_ ?_ _ _ ⟨Nat.succ_pos _, by omega⟩
 ·intro n10 s3_11
  refine Eq.trans ?_ (hKb10 _).symm
  try dsimp only
  refine Q.wrapPO fun Kj7 hKj7 => ?_
  have hj7 : Z27_j7   = Kj7 () := by
   refine Eq.trans ?_ (hKj7 _).symm
   unfold Z27_j7
   all_goals rfl
  all_goals exact hj7
 intro e10
 refine Eq.trans ?_ (hKb10 _).symm
 try dsimp only
 all_goals rfl
def Z37_q (a0 : TValue) : Bool := (((((decide (a0.FKind = (0 : Int))) && (decide (a0.FInt = (0 : Int)))) && ((a0.FText == ([] : Bs)))) && (decide (((a0.FItems.l.length : Nat) : Int) = (0 : Int)))) && (decide (((a0.FKeys.l.length : Nat) : Int) = (0 : Int))))
theorem Z37_eq (a0 : TValue) : Z37 a0 = some (Z37_q a0) := by
 unfold Z37 Z37_q
 all_goals rfl
def Z35_q10  : List TInput → Option (Unit ⊕ Bool)
 | [] => some (Sum.inl ())
 | h10 :: r10 => on (h10) fun x18 => on (Z12_q x18.FName) fun x21 => guardO (!(!x21)) (Z27_q x18.FType) false fun x22 => guardO (!((!x21) || (!x22))) (Z33_q x18.FDirs) false fun x23 => bif (((!x21) || (!x22)) || (!x23)) then (some (Sum.inr false)) else (guardO (x18.FHas) (Z16_q x18.FDefault) false fun x27 => guardO ((x18.FHas && !(!x27))) (Z31_q x18.FDefault) false fun x28 => on (bif (!(x18.FHas && ((!x27) || (!x28))) && (!x18.FHas)) then Z37_q x18.FDefault else false) fun x29 => bif ((x18.FHas && ((!x27) || (!x28))) || ((!x18.FHas) && (!x29))) then (some (Sum.inr false)) else (Z35_q10  (r10) ))
theorem Z35_l10_qe {a0 : (Sl TInput)}  (Kb10 : (Unit ⊕ Bool) → Option Bool) (hend : ∀ (n10 : Nat) (s3_11 : Nat), Z35_j7    = Kb10 (Sum.inl ())) (hret : ∀ e : Bool, some e = Kb10 (Sum.inr e)) : ∀ (n10 : Nat) (s3_11 : Nat), (0 < n10 ∧ a0.l.length < s3_11 + n10) → Z35_l10 a0 n10 s3_11 = Option.bind (Z35_q10  (a0.l.drop s3_11) ) Kb10 := by
 intro n10
 induction n10 with
 | zero => intro s3_11 hn; exact absurd hn.1 (by omega)
 | succ n10 ih10 =>
  intro s3_11 hn
  rw [Z35_l10]
  by_cases hlt : s3_11 < a0.l.length
  ·obtain ⟨h10, hh10⟩ : ∃ x, a0.l[s3_11]? = some x := ⟨_, List.getElem?_eq_getElem hlt⟩
   rw [Q.drop_of hh10, Z35_q10]
   refine Q.condT (Q.ltT hlt) ?_
   refine Q.bindPO hh10 fun x18 hx_x18 => ?_
   refine Q.bindPO (Z12_eq _) fun x21 hx_x21 => ?_
   refine Q.guardOO (Z27_eq _) fun x22 => ?_
   refine Q.guardOO (Z33_eq _) fun x23 => ?_
   refine Q.condO ?_ ?_
   ·all_goals exact hret _
   refine Q.guardOO (Z16_eq _) fun x27 => ?_
   refine Q.guardOO (Z31_eq _) fun x28 => ?_
   refine Q.guardPO (Z37_eq _) fun x29 hx_x29 => ?_
   refine Q.condO ?_ ?_
   ·all_goals exact hret _
   all_goals exact ih10 _ ⟨by omega, by omega⟩
  rw [List.drop_of_length_le (by omega), Z35_q10]
  refine Q.condF (Q.ltF hlt) ?_
  exact hend n10 s3_11
def Z35_q (a0 : (Sl TInput)) : Option Bool := bif (decide ((16 : Int) < ((a0.l.length : Nat) : Int))) then (some false) else (Option.bind (Z35_q10  a0.l ) fun o10 => match o10 with | Sum.inl _ => (on (()) fun _ => some true) | Sum.inr e10 => (some e10))
theorem Z35_eq (a0 : (Sl TInput)) : Z35 a0 = Z35_q a0 := by
 unfold Z35 Z35_q
 refine Eq.trans ?_ (Q.some_bind _)
 refine Q.condO ?_ ?_
 ·all_goals rfl
 refine Q.wrapOO fun Kb10 hKb10 => ?_
 refine Z35_l10_qe  Kb10 ?_ ?_ _ _ ⟨Nat.succ_pos _, by omega⟩
 ·intro n10 s3_11
  refine Eq.trans ?_ (hKb10 _).symm
  try dsimp only
  refine Q.wrapPO fun Kj7 hKj7 => ?_
  have hj7 : Z35_j7   = Kj7 () := by
   refine Eq.trans ?_ (hKj7 _).symm
   unfold Z35_j7
   all_goals rfl
  all_goals exact hj7
 intro e10
 refine Eq.trans ?_ (hKb10 _).symm
 try dsimp only
 all_goals rfl
def Z34_q10  : List TField → Option (Unit ⊕ Bool)
 | [] => some (Sum.inl ())
 | h10 :: r10 => on (h10) fun x18 => on (Z12_q x18.FName) fun x19 => on (bif !(!x19) then h10 else TField.zero) fun x20 => guardO (!(!x19)) (Z35_q x20.FArgs) false fun x21 => on (bif !((!x19) || (!x21)) then h10 else TField.zero) fun x22 => guardO (!((!x19) || (!x21))) (Z27_q x22.FType) false fun x23 => on (bif !(((!x19) || (!x21)) || (!x23)) then h10 else TField.zero) fun x24 => guardO (!(((!x19) || (!x21)) || (!x23))) (Z33_q x24.FDirs) false fun x25 => bif ((((!x19) || (!x21)) || (!x23)) || (!x25)) then (some (Sum.inr false)) else (Z34_q10  (r10) )
theorem Z34_l10_qe {a0 : (Sl TField)}  (Kb10 : (Unit ⊕ Bool) → Option Bool) (hend : ∀ (n10 : Nat) (s3_11 : Nat), Z34_j7    = Kb10 (Sum.inl ())) (hret : ∀ e : Bool, some e = Kb10 (Sum.inr e)) : ∀ (n10 : Nat) (s3_11 : Nat), (0 < n10 ∧ a0.l.length < s3_11 + n10) → Z34_l10 a0 n10 s3_11 = Option.bind (Z34_q10  (a0.l.drop s3_11) ) Kb10 := by
 intro n10
 induction n10 with
 | zero => intro s3_11 hn; exact absurd hn.1 (by omega)
 | succ n10 ih10 =>
  intro s3_11 hn
  rw [Z34_l10]
  by_cases hlt : s3_11 < a0.l.length
  ·obtain ⟨h10, hh10⟩ : ∃ x, a0.l[s3_11]? = some x := ⟨_, List.getElem?_eq_getElem hlt⟩
   rw [Q.drop_of hh10, Z34_q10]
   refine Q.condT (Q.ltT hlt) ?_
   refine Q.bindPO hh10 fun x18 hx_x18 => ?_
   refine Q.bindPO (Z12_eq _) fun x19 hx_x19 => ?_
   refine Q.guardPO hh10 fun x20 hx_x20 => ?_
   refine Q.guardOO (Z35_eq _) fun x21 => ?_
   refine Q.guardPO hh10 fun x22 hx_x22 => ?_
   refine Q.guardOO (Z27_eq _) fun x23 => ?_
   refine Q.guardPO hh10 fun x24 hx_x24 => ?_
   refine Q.guardOO (Z33_eq _) fun x25 => ?_
   refine Q.condO ?_ ?_
   ·all_goals exact hret _
   all_goals exact ih10 _ ⟨by omega, by omega⟩
  rw [List.drop_of_length_le (by omega), Z34_q10]
  refine Q.condF (Q.ltF hlt) ?_
  exact hend n10 s3_11
def Z34_q (a0 : (Sl TField)) : Option Bool := bif ((decide (((a0.l.length : Nat) : Int) < (1 : Int))) || (decide ((64 : Int) < ((a0.l.length : Nat) : Int)))) then (some false) else (Option.bind (Z34_q10  a0.l ) fun o10 => match o10 with | Sum.inl _ => (on (()) fun _ => some true) | Sum.inr e10 => (some e10))
theorem Z34_eq (a0 : (Sl TField)) : Z34 a0 = Z34_q a0 := by
 unfold Z34 Z34_q
 refine Eq.trans ?_ (Q.some_bind _)
 refine Q.condO ?_ ?_
 ·all_goals rfl
 refine Q.wrapOO fun Kb10 hKb10 => ?_
 refine Z34_l10_qe  Kb10 ?_ ?_ _ _ ⟨Nat.succ_pos _, by omega⟩
 ·intro n10 s3_11
  refine Eq.trans ?_ (hKb10 _).symm
  try dsimp only
  refine Q.wrapPO fun Kj7 hKj7 => ?_
  have hj7 : Z34_j7   = Kj7 () := by
   refine Eq.trans ?_ (hKj7 _).symm
   unfold Z34_j7
   all_goals rfl
  all_goals exact hj7
 intro e10
 refine Eq.trans ?_ (hKb10 _).symm
 try dsimp only
 all_goals rfl
def Z36_q10 (a1 : Bool) : List TMember → Option (Unit ⊕ Bool)
 | [] => some (Sum.inl ())
 | h10 :: r10 => on (h10) fun x18 => on (Z12_q x18.FName) fun x19 => on (bif !(!x19) then h10 else TMember.zero) fun x20 => guardO (!(!x19)) (Z33_q x20.FDirs) false fun x21 => on (bif (!((!x19) || (!x21)) && a1) then h10 else TMember.zero) fun x22 => bif (((!x19) || (!x21)) || (a1 && (decide ((0 : Int) < ((x22.FDirs.l.length : Nat) : Int))))) then (some (Sum.inr false)) else (Z36_q10 a1 (r10) )
theorem Z36_l10_qe {a0 : (Sl TMember)} {a1 : Bool}  (Kb10 : (Unit ⊕ Bool) → Option Bool) (hend : ∀ (n10 : Nat) (s5_11 : Nat), Z36_j7    = Kb10 (Sum.inl ())) (hret : ∀ e : Bool, some e = Kb10 (Sum.inr e)) : ∀ (n10 : Nat) (s5_11 : Nat), (0 < n10 ∧ a0.l.length < s5_11 + n10) → Z36_l10 a0 a1 n10 s5_11 = Option.bind (Z36_q10 a1 (a0.l.drop s5_11) ) Kb10 := by
 intro n10
 induction n10 with
 | zero => intro s5_11 hn; exact absurd hn.1 (by omega)
 | succ n10 ih10 =>
  intro s5_11 hn
  rw [Z36_l10]
  by_cases hlt : s5_11 < a0.l.length
  ·obtain ⟨h10, hh10⟩ : ∃ x, a0.l[s5_11]? = some x := ⟨_, List.getElem?_eq_getElem hlt⟩
   rw [Q.drop_of hh10, Z36_q10]
   refine Q.condT (Q.ltT hlt) ?_
   refine Q.bindPO hh10 fun x18 hx_x18 => ?_
   refine Q.bindPO (Z12_eq _) fun x19 hx_x19 => ?_
   refine Q.guardPO hh10 fun x20 hx_x20 => ?_
   refine Q.guardOO (Z33_eq _) fun x21 => ?_
   refine Q.guardPO hh10 fun x22 hx_x22 => ?_
   refine Q.condO ?_ ?_
   ·all_goals exact hret _
   all_goals exact ih10 _ ⟨by omega, by omega⟩
  rw [List.drop_of_length_le (by omega), Z36_q10]
  refine Q.condF (Q.ltF hlt) ?_
  exact hend n10 s5_11
def Z36_q (a0 : (Sl TMember)) (a1 : Bool) : Option Bool := bif ((decide (((a0.l.length : Nat) : Int) < (1 : Int))) || (decide ((64 : Int) < ((a0.l.length : Nat) : Int)))) then (some false) else (Option.bind (Z36_q10 a1 a0.l ) fun o10 => match o10 with | Sum.inl _ => (on (()) fun _ => some true) | Sum.inr e10 => (some e10))
theorem Z36_eq (a0 : (Sl TMember)) (a1 : Bool) : Z36 a0 a1 = Z36_q a0 a1 := by
 unfold Z36 Z36_q
 refine Eq.trans ?_ (Q.some_bind _)
 refine Q.condO ?_ ?_
 ·all_goals rfl
 refine Q.wrapOO fun Kb10 hKb10 => ?_
 refine Z36_l10_qe  Kb10 ?_ ?_ _ _ ⟨Nat.succ_pos _, by omega⟩
 ·intro n10 s5_11
  refine Eq.trans ?_ (hKb10 _).symm
  try dsimp only
  refine Q.wrapPO fun Kj7 hKj7 => ?_
  have hj7 : Z36_j7   = Kj7 () := by
   refine Eq.trans ?_ (hKj7 _).symm
   unfold Z36_j7
   all_goals rfl
  all_goals exact hj7
 intro e10
 refine Eq.trans ?_ (hKb10 _).symm
 try dsimp only
 all_goals rfl
end Go.Proofs

namespace Go.Proofs
open Go Go.Ab
def Z32_q34  : List Bs → Unit ⊕ Bool
 | [] => Sum.inl ()
 | h34 :: r34 => on (h34) fun x42 => on (Z12_q x42) fun x43 => bif (!x43) then (Sum.inr false) else (Z32_q34  (r34) )
theorem Z32_l34_qe {a0 : TDef}  (Kb34 : (Unit ⊕ Bool) → Option Bool) (hend : ∀ (n34 : Nat) (s3_35 : Nat), Z32_j8 a0   = Kb34 (Sum.inl ())) (hret : ∀ e : Bool, some e = Kb34 (Sum.inr e)) : ∀ (n34 : Nat) (s3_35 : Nat), (0 < n34 ∧ a0.FImplements.l.length < s3_35 + n34) → Z32_l34 a0 n34 s3_35 = Kb34 (Z32_q34  (a0.FImplements.l.drop s3_35) ) := by
 intro n34
 induction n34 with
 | zero => intro s3_35 hn; exact absurd hn.1 (by omega)
 | succ n34 ih34 =>
  intro s3_35 hn
  rw [Z32_l34]
  by_cases hlt : s3_35 < a0.FImplements.l.length
  ·obtain ⟨h34, hh34⟩ : ∃ x, a0.FImplements.l[s3_35]? = some x := ⟨_, List.getElem?_eq_getElem hlt⟩
   rw [Q.drop_of hh34, Z32_q34]
   refine Q.condT (Q.ltT hlt) ?_
   refine Q.bindP hh34 fun x42 hx_x42 => ?_
   refine Q.bindP (Z12_eq _) fun x43 hx_x43 => ?_
   refine Q.condP ?_ ?_
   ·all_goals exact hret _
   all_goals exact ih34 _ ⟨by omega, by omega⟩
  rw [List.drop_of_length_le (by omega), Z32_q34]
  refine Q.condF (Q.ltF hlt) ?_
  exact hend n34 s3_35
def Z32_q (a0 : TDef) : Option Bool := on (Z12_q a0.FName) fun x4 => guardO (!(!x4)) (Z33_q a0.FDirs) false fun x5 => bif (((!x4) || (!x5)) || (decide ((64 : Int) < ((a0.FImplements.l.length : Nat) : Int)))) then (some false) else (on (Z32_q34  a0.FImplements.l ) fun o34 => match o34 with | Sum.inl _ => (on (()) fun _ => bif (decide (a0.FKind = (1 : Int))) then ((Z34_q a0.FFields).bind fun x15 => some ((x15 && (decide (((a0.FMembers.l.length : Nat) : Int) = (0 : Int)))) && (decide (((a0.FInputs.l.length : Nat) : Int) = (0 : Int))))) else (bif (decide (a0.FKind = (2 : Int))) then (guardO ((decide (((a0.FImplements.l.length : Nat) : Int) = (0 : Int)))) (Z34_q a0.FFields) false fun x19 => some ((((decide (((a0.FImplements.l.length : Nat) : Int) = (0 : Int))) && x19) && (decide (((a0.FMembers.l.length : Nat) : Int) = (0 : Int)))) && (decide (((a0.FInputs.l.length : Nat) : Int) = (0 : Int))))) else (bif (decide (a0.FKind = (3 : Int))) then (guardO (((decide (((a0.FImplements.l.length : Nat) : Int) = (0 : Int))) && (decide (((a0.FFields.l.length : Nat) : Int) = (0 : Int))))) (Z36_q a0.FMembers true) false fun x23 => some ((((decide (((a0.FImplements.l.length : Nat) : Int) = (0 : Int))) && (decide (((a0.FFields.l.length : Nat) : Int) = (0 : Int)))) && x23) && (decide (((a0.FInputs.l.length : Nat) : Int) = (0 : Int))))) else (bif (decide (a0.FKind = (4 : Int))) then (guardO (((decide (((a0.FImplements.l.length : Nat) : Int) = (0 : Int))) && (decide (((a0.FFields.l.length : Nat) : Int) = (0 : Int))))) (Z36_q a0.FMembers false) false fun x27 => some ((((decide (((a0.FImplements.l.length : Nat) : Int) = (0 : Int))) && (decide (((a0.FFields.l.length : Nat) : Int) = (0 : Int)))) && x27) && (decide (((a0.FInputs.l.length : Nat) : Int) = (0 : Int))))) else (bif (decide (a0.FKind = (5 : Int))) then (guardO (((((decide (((a0.FImplements.l.length : Nat) : Int) = (0 : Int))) && (decide (((a0.FFields.l.length : Nat) : Int) = (0 : Int)))) && (decide (((a0.FMembers.l.length : Nat) : Int) = (0 : Int)))) && (decide ((0 : Int) < ((a0.FInputs.l.length : Nat) : Int))))) (Z35_q a0.FInputs) false fun x31 => some (((((decide (((a0.FImplements.l.length : Nat) : Int) = (0 : Int))) && (decide (((a0.FFields.l.length : Nat) : Int) = (0 : Int)))) && (decide (((a0.FMembers.l.length : Nat) : Int) = (0 : Int)))) && (decide ((0 : Int) < ((a0.FInputs.l.length : Nat) : Int)))) && x31)) else (some false)))))) | Sum.inr e34 => (some e34))
theorem Z32_eq (a0 : TDef) : Z32 a0 = Z32_q a0 := by
 unfold Z32 Z32_q
 refine Eq.trans ?_ (Q.some_bind _)
 refine Q.bindPO (Z12_eq _) fun x4 hx_x4 => ?_
 refine Q.guardOO (Z33_eq _) fun x5 => ?_
 refine Q.condO ?_ ?_
 ·all_goals rfl
 refine Q.wrapPO fun Kb34 hKb34 => ?_
 refine Z32_l34_qe  Kb34 ?_ ?_ _ _ ⟨Nat.succ_pos _, by omega⟩
 ·intro n34 s3_35
  refine Eq.trans ?_ (hKb34 _).symm
  try dsimp only
  refine Q.wrapPO fun Kj8 hKj8 => ?_
  have hj8 : Z32_j8 a0  = Kj8 () := by
   refine Eq.trans ?_ (hKj8 _).symm
   unfold Z32_j8
   refine Q.condO ?_ ?_
   ·refine Q.bindO (Z34_eq _) fun x15 => ?_
    all_goals rfl
   refine Q.condO ?_ ?_
   ·refine Q.guardOO (Z34_eq _) fun x19 => ?_
    all_goals rfl
   refine Q.condO ?_ ?_
   ·refine Q.guardOO (Z36_eq _ _) fun x23 => ?_
    all_goals rfl
   refine Q.condO ?_ ?_
   ·refine Q.guardOO (Z36_eq _ _) fun x27 => ?_
    all_goals rfl
   refine Q.condO ?_ ?_
   ·refine Q.guardOO (Z35_eq _) fun x31 => ?_
    all_goals rfl
   all_goals rfl
  all_goals exact hj8
 intro e34
 refine Eq.trans ?_ (hKb34 _).symm
 try dsimp only
 all_goals rfl
def Z30_q10  : List TDef → Option (Unit ⊕ Bool)
 | [] => some (Sum.inl ())
 | h10 :: r10 => on (h10) fun x18 => (Z32_q x18).bind fun x19 => bif (!x19) then (some (Sum.inr false)) else (Z30_q10  (r10) )
theorem Z30_l10_qe {a0 : TDoc}  (Kb10 : (Unit ⊕ Bool) → Option Bool) (hend : ∀ (n10 : Nat) (s3_11 : Nat), Z30_j7    = Kb10 (Sum.inl ())) (hret : ∀ e : Bool, some e = Kb10 (Sum.inr e)) : ∀ (n10 : Nat) (s3_11 : Nat), (0 < n10 ∧ a0.FDefs.l.length < s3_11 + n10) → Z30_l10 a0 n10 s3_11 = Option.bind (Z30_q10  (a0.FDefs.l.drop s3_11) ) Kb10 := by
 intro n10
 induction n10 with
 | zero => intro s3_11 hn; exact absurd hn.1 (by omega)
 | succ n10 ih10 =>
  intro s3_11 hn
  rw [Z30_l10]
  by_cases hlt : s3_11 < a0.FDefs.l.length
  ·obtain ⟨h10, hh10⟩ : ∃ x, a0.FDefs.l[s3_11]? = some x := ⟨_, List.getElem?_eq_getElem hlt⟩
   rw [Q.drop_of hh10, Z30_q10]
   refine Q.condT (Q.ltT hlt) ?_
   refine Q.bindPO hh10 fun x18 hx_x18 => ?_
   refine Q.bindO (Z32_eq _) fun x19 => ?_
   refine Q.condO ?_ ?_
   ·all_goals exact hret _
   all_goals exact ih10 _ ⟨by omega, by omega⟩
  rw [List.drop_of_length_le (by omega), Z30_q10]
  refine Q.condF (Q.ltF hlt) ?_
  exact hend n10 s3_11
def Z30_q (a0 : TDoc) : Option Bool := bif ((decide (((a0.FDefs.l.length : Nat) : Int) < (1 : Int))) || (decide ((64 : Int) < ((a0.FDefs.l.length : Nat) : Int)))) then (some false) else (Option.bind (Z30_q10  a0.FDefs.l ) fun o10 => match o10 with | Sum.inl _ => (on (()) fun _ => some true) | Sum.inr e10 => (some e10))
theorem Z30_eq (a0 : TDoc) : Z30 a0 = Z30_q a0 := by
 unfold Z30 Z30_q
 refine Eq.trans ?_ (Q.some_bind _)
 refine Q.condO ?_ ?_
 ·all_goals rfl
 refine Q.wrapOO fun Kb10 hKb10 => ?_
 refine Z30_l10_qe  Kb10 ?_ ?_ _ _ ⟨Nat.succ_pos _, by omega⟩
 ·intro n10 s3_11
  refine Eq.trans ?_ (hKb10 _).symm
  try dsimp only
  refine Q.wrapPO fun Kj7 hKj7 => ?_
  have hj7 : Z30_j7   = Kj7 () := by
   refine Eq.trans ?_ (hKj7 _).symm
   unfold Z30_j7
   all_goals rfl
  all_goals exact hj7
 intro e10
 refine Eq.trans ?_ (hKb10 _).symm
 try dsimp only
 all_goals rfl
def Z41_q5 (k_rec_99 : TValue → Option Bool) : List TValue → Option (Unit ⊕ Bool)
 | [] => some (Sum.inl ())
 | h5 :: r5 => on (h5) fun x13 => (k_rec_99 x13).bind fun x14 => bif (!x14) then (some (Sum.inr false)) else (Z41_q5 k_rec_99 (r5) )
theorem Z41_l5_qe {a0 : TValue} {k_rec_99 : TValue → Option Bool}  (Kb5 : (Unit ⊕ Bool) → Option Bool) (hend : ∀ (n5 : Nat) (s3_6 : Nat), Z41_j2 a0   = Kb5 (Sum.inl ())) (hret : ∀ e : Bool, some e = Kb5 (Sum.inr e)) : ∀ (n5 : Nat) (s3_6 : Nat), (0 < n5 ∧ a0.FItems.l.length < s3_6 + n5) → Z41_l5 a0 k_rec_99 n5 s3_6 = Option.bind (Z41_q5 k_rec_99 (a0.FItems.l.drop s3_6) ) Kb5 := by
 intro n5
 induction n5 with
 | zero => intro s3_6 hn; exact absurd hn.1 (by omega)
 | succ n5 ih5 =>
  intro s3_6 hn
  rw [Z41_l5]
  by_cases hlt : s3_6 < a0.FItems.l.length
  ·obtain ⟨h5, hh5⟩ : ∃ x, a0.FItems.l[s3_6]? = some x := ⟨_, List.getElem?_eq_getElem hlt⟩
   rw [Q.drop_of hh5, Z41_q5]
   refine Q.condT (Q.ltT hlt) ?_
   refine Q.bindPO hh5 fun x13 hx_x13 => ?_
   refine Q.bindO rfl fun x14 => ?_
   refine Q.condO ?_ ?_
   ·all_goals exact hret _
   all_goals exact ih5 _ ⟨by omega, by omega⟩
  rw [List.drop_of_length_le (by omega), Z41_q5]
  refine Q.condF (Q.ltF hlt) ?_
  exact hend n5 s3_6
def Z41_qn : Nat → TValue → Option Bool
 | 0, _ => none
 | n + 1, a0 => Option.bind (Z41_q5 (Z41_qn n) a0.FItems.l ) fun o5 => match o5 with | Sum.inl _ => (on (()) fun _ => some (!decide (a0.FKind = (7 : Int)))) | Sum.inr e5 => (some e5)
theorem Z41_qall : ∀ n : Nat, Z41_n n = Z41_qn n := by
 intro n
 induction n with
 | zero => exact (by funext a0; first | rfl | (rw [Z41_n, Z41_qn]))
 | succ n ih =>
  funext a0
  refine Eq.trans ?_ (Q.some_bind _)
  rw [Z41_n, Z41_qn]
  try rw [ih]
  refine Q.wrapOO fun Kb5 hKb5 => ?_
  refine Z41_l5_qe  Kb5 ?_ ?_ _ _ ⟨Nat.succ_pos _, by omega⟩
  ·intro n5 s3_6
   refine Eq.trans ?_ (hKb5 _).symm
   try dsimp only
   refine Q.wrapPO fun Kj2 hKj2 => ?_
   have hj2 : Z41_j2 a0  = Kj2 () := by
    refine Eq.trans ?_ (hKj2 _).symm
    unfold Z41_j2
    all_goals rfl
   all_goals exact hj2
  intro e5
  refine Eq.trans ?_ (hKb5 _).symm
  try dsimp only
  all_goals rfl
def Z41_q (a0 : TValue) : Option Bool := Z41_qn F0 a0
theorem Z41_eq (a0 : TValue) : Z41 a0 = Z41_q a0 := by
 unfold Z41 Z41_q; rw [(Z41_qall F0)]
def Z45_q6  : List TVar → Option (Unit ⊕ Bool)
 | [] => some (Sum.inl ())
 | h6 :: r6 => on (h6) fun x14 => on (Z12_q x14.FName) fun x17 => guardO (!(!x17)) (Z27_q x14.FType) false fun x18 => guardO (!((!x17) || (!x18))) (Z16_q x14.FDefault) false fun x19 => guardO (!(((!x17) || (!x18)) || (!x19))) (Z41_q x14.FDefault) false fun x20 => bif ((((!x17) || (!x18)) || (!x19)) || (!x20)) then (some (Sum.inr false)) else (bif ((!x14.FHas) && (!decide (x14.FDefault.FKind = (0 : Int)))) then (some (Sum.inr false)) else (Z45_q6  (r6) ))
theorem Z45_l6_qe {a0 : (Sl TVar)}  (Kb6 : (Unit ⊕ Bool) → Option Bool) (hend : ∀ (n6 : Nat) (s3_7 : Nat), Z45_j2 a0   = Kb6 (Sum.inl ())) (hret : ∀ e : Bool, some e = Kb6 (Sum.inr e)) : ∀ (n6 : Nat) (s3_7 : Nat), (0 < n6 ∧ a0.l.length < s3_7 + n6) → Z45_l6 a0 n6 s3_7 = Option.bind (Z45_q6  (a0.l.drop s3_7) ) Kb6 := by
 intro n6
 induction n6 with
 | zero => intro s3_7 hn; exact absurd hn.1 (by omega)
 | succ n6 ih6 =>
  intro s3_7 hn
  rw [Z45_l6]
  by_cases hlt : s3_7 < a0.l.length
  ·obtain ⟨h6, hh6⟩ : ∃ x, a0.l[s3_7]? = some x := ⟨_, List.getElem?_eq_getElem hlt⟩
   rw [Q.drop_of hh6, Z45_q6]
   refine Q.condT (Q.ltT hlt) ?_
   refine Q.bindPO hh6 fun x14 hx_x14 => ?_
   refine Q.bindPO (Z12_eq _) fun x17 hx_x17 => ?_
   refine Q.guardOO (Z27_eq _) fun x18 => ?_
   refine Q.guardOO (Z16_eq _) fun x19 => ?_
   refine Q.guardOO (Z41_eq _) fun x20 => ?_
   refine Q.condO ?_ ?_
   ·all_goals exact hret _
   refine Q.condO ?_ ?_
   ·all_goals exact hret _
   all_goals exact ih6 _ ⟨by omega, by omega⟩
  rw [List.drop_of_length_le (by omega), Z45_q6]
  refine Q.condF (Q.ltF hlt) ?_
  exact hend n6 s3_7
def Z45_q (a0 : (Sl TVar)) : Option Bool := Option.bind (Z45_q6  a0.l ) fun o6 => match o6 with | Sum.inl _ => (on (()) fun _ => some (decide (((a0.l.length : Nat) : Int) ≤ (16 : Int)))) | Sum.inr e6 => (some e6)
theorem Z45_eq (a0 : (Sl TVar)) : Z45 a0 = Z45_q a0 := by
 unfold Z45 Z45_q
 refine Eq.trans ?_ (Q.some_bind _)
 refine Q.wrapOO fun Kb6 hKb6 => ?_
 refine Z45_l6_qe  Kb6 ?_ ?_ _ _ ⟨Nat.succ_pos _, by omega⟩
 ·intro n6 s3_7
  refine Eq.trans ?_ (hKb6 _).symm
  try dsimp only
  refine Q.wrapPO fun Kj2 hKj2 => ?_
  have hj2 : Z45_j2 a0  = Kj2 () := by
   refine Eq.trans ?_ (hKj2 _).symm
   unfold Z45_j2
   all_goals rfl
  all_goals exact hj2
 intro e6
 refine Eq.trans ?_ (hKb6 _).symm
 try dsimp only
 all_goals rfl
def Z44_q (a0 : Bs) : Bool := on (Z12_q a0) fun x3 => (x3 && (!(a0 == ([111, 110] : Bs))))
theorem Z44_eq (a0 : Bs) : Z44 a0 = some (Z44_q a0) := by
 unfold Z44 Z44_q
 refine Q.bindP (Z12_eq _) fun x3 hx_x3 => ?_
 all_goals rfl
def Z40_q6  : List TArg → Option (Unit ⊕ Bool)
 | [] => some (Sum.inl ())
 | h6 :: r6 => on (h6) fun x14 => on (Z12_q x14.FName) fun x15 => on (bif !(!x15) then h6 else TArg.zero) fun x16 => guardO (!(!x15)) (Z16_q x16.FValue) false fun x17 => bif ((!x15) || (!x17)) then (some (Sum.inr false)) else (Z40_q6  (r6) )
theorem Z40_l6_qe {a0 : (Sl TArg)}  (Kb6 : (Unit ⊕ Bool) → Option Bool) (hend : ∀ (n6 : Nat) (s3_7 : Nat), Z40_j2 a0   = Kb6 (Sum.inl ())) (hret : ∀ e : Bool, some e = Kb6 (Sum.inr e)) : ∀ (n6 : Nat) (s3_7 : Nat), (0 < n6 ∧ a0.l.length < s3_7 + n6) → Z40_l6 a0 n6 s3_7 = Option.bind (Z40_q6  (a0.l.drop s3_7) ) Kb6 := by
 intro n6
 induction n6 with
 | zero => intro s3_7 hn; exact absurd hn.1 (by omega)
 | succ n6 ih6 =>
  intro s3_7 hn
  rw [Z40_l6]
  by_cases hlt : s3_7 < a0.l.length
  ·obtain ⟨h6, hh6⟩ : ∃ x, a0.l[s3_7]? = some x := ⟨_, List.getElem?_eq_getElem hlt⟩
   rw [Q.drop_of hh6, Z40_q6]
   refine Q.condT (Q.ltT hlt) ?_
   refine Q.bindPO hh6 fun x14 hx_x14 => ?_
   refine Q.bindPO (Z12_eq _) fun x15 hx_x15 => ?_
   refine Q.guardPO hh6 fun x16 hx_x16 => ?_
   refine Q.guardOO (Z16_eq _) fun x17 => ?_
   refine Q.condO ?_ ?_
   ·all_goals exact hret _
   all_goals exact ih6 _ ⟨by omega, by omega⟩
  rw [List.drop_of_length_le (by omega), Z40_q6]
  refine Q.condF (Q.ltF hlt) ?_
  exact hend n6 s3_7
def Z40_q (a0 : (Sl TArg)) : Option Bool := Option.bind (Z40_q6  a0.l ) fun o6 => match o6 with | Sum.inl _ => (on (()) fun _ => some (decide (((a0.l.length : Nat) : Int) ≤ (16 : Int)))) | Sum.inr e6 => (some e6)
theorem Z40_eq (a0 : (Sl TArg)) : Z40 a0 = Z40_q a0 := by
 unfold Z40 Z40_q
 refine Eq.trans ?_ (Q.some_bind _)
 refine Q.wrapOO fun Kb6 hKb6 => ?_
 refine Z40_l6_qe  Kb6 ?_ ?_ _ _ ⟨Nat.succ_pos _, by omega⟩
 ·intro n6 s3_7
  refine Eq.trans ?_ (hKb6 _).symm
  try dsimp only
  refine Q.wrapPO fun Kj2 hKj2 => ?_
  have hj2 : Z40_j2 a0  = Kj2 () := by
   refine Eq.trans ?_ (hKj2 _).symm
   unfold Z40_j2
   all_goals rfl
  all_goals exact hj2
 intro e6
 refine Eq.trans ?_ (hKb6 _).symm
 try dsimp only
 all_goals rfl
def Z42_q6  : List TDir → Option (Unit ⊕ Bool)
 | [] => some (Sum.inl ())
 | h6 :: r6 => on (h6) fun x14 => on (Z12_q x14.FName) fun x15 => on (bif !(!x15) then h6 else TDir.zero) fun x16 => guardO (!(!x15)) (Z40_q x16.FArgs) false fun x17 => bif ((!x15) || (!x17)) then (some (Sum.inr false)) else (Z42_q6  (r6) )
theorem Z42_l6_qe {a0 : (Sl TDir)}  (Kb6 : (Unit ⊕ Bool) → Option Bool) (hend : ∀ (n6 : Nat) (s3_7 : Nat), Z42_j2 a0   = Kb6 (Sum.inl ())) (hret : ∀ e : Bool, some e = Kb6 (Sum.inr e)) : ∀ (n6 : Nat) (s3_7 : Nat), (0 < n6 ∧ a0.l.length < s3_7 + n6) → Z42_l6 a0 n6 s3_7 = Option.bind (Z42_q6  (a0.l.drop s3_7) ) Kb6 := by
 intro n6
 induction n6 with
 | zero => intro s3_7 hn; exact absurd hn.1 (by omega)
 | succ n6 ih6 =>
  intro s3_7 hn
  rw [Z42_l6]
  by_cases hlt : s3_7 < a0.l.length
  ·obtain ⟨h6, hh6⟩ : ∃ x, a0.l[s3_7]? = some x := ⟨_, List.getElem?_eq_getElem hlt⟩
   rw [Q.drop_of hh6, Z42_q6]
   refine Q.condT (Q.ltT hlt) ?_
   refine Q.bindPO hh6 fun x14 hx_x14 => ?_
   refine Q.bindPO (Z12_eq _) fun x15 hx_x15 => ?_
   refine Q.guardPO hh6 fun x16 hx_x16 => ?_
   refine Q.guardOO (Z40_eq _) fun x17 => ?_
   refine Q.condO ?_ ?_
   ·all_goals exact hret _
   all_goals exact ih6 _ ⟨by omega, by omega⟩
  rw [List.drop_of_length_le (by omega), Z42_q6]
  refine Q.condF (Q.ltF hlt) ?_
  exact hend n6 s3_7
def Z42_q (a0 : (Sl TDir)) : Option Bool := Option.bind (Z42_q6  a0.l ) fun o6 => match o6 with | Sum.inl _ => (on (()) fun _ => some (decide (((a0.l.length : Nat) : Int) ≤ (16 : Int)))) | Sum.inr e6 => (some e6)
theorem Z42_eq (a0 : (Sl TDir)) : Z42 a0 = Z42_q a0 := by
 unfold Z42 Z42_q
 refine Eq.trans ?_ (Q.some_bind _)
 refine Q.wrapOO fun Kb6 hKb6 => ?_
 refine Z42_l6_qe  Kb6 ?_ ?_ _ _ ⟨Nat.succ_pos _, by omega⟩
 ·intro n6 s3_7
  refine Eq.trans ?_ (hKb6 _).symm
  try dsimp only
  refine Q.wrapPO fun Kj2 hKj2 => ?_
  have hj2 : Z42_j2 a0  = Kj2 () := by
   refine Eq.trans ?_ (hKj2 _).symm
   unfold Z42_j2
   all_goals rfl
  all_goals exact hj2
 intro e6
 refine Eq.trans ?_ (hKb6 _).symm
 try dsimp only
 all_goals rfl
def r08_selsRight_q10 (a1 : Int) (k_rec_100 : TSel → Int → Option Bool) : List TSel → Option (Unit ⊕ Bool)
 | [] => some (Sum.inl ())
 | h10 :: r10 => on (h10) fun x18 => (k_rec_100 x18 a1).bind fun x19 => bif (!x19) then (some (Sum.inr false)) else (r08_selsRight_q10 a1 k_rec_100 (r10) )
theorem r08_selsRight_l10_qe {a0 : (Sl TSel)} {a1 : Int} {k_rec_100 : TSel → Int → Option Bool}  (Kb10 : (Unit ⊕ Bool) → Option Bool) (hend : ∀ (n10 : Nat) (s5_11 : Nat), r08_selsRight_j7    = Kb10 (Sum.inl ())) (hret : ∀ e : Bool, some e = Kb10 (Sum.inr e)) : ∀ (n10 : Nat) (s5_11 : Nat), (0 < n10 ∧ a0.l.length < s5_11 + n10) → r08_selsRight_l10 a0 a1 k_rec_100 n10 s5_11 = Option.bind (r08_selsRight_q10 a1 k_rec_100 (a0.l.drop s5_11) ) Kb10 := by
 intro n10
 induction n10 with
 | zero => intro s5_11 hn; exact absurd hn.1 (by omega)
 | succ n10 ih10 =>
  intro s5_11 hn
  rw [r08_selsRight_l10]
  by_cases hlt : s5_11 < a0.l.length
  ·obtain ⟨h10, hh10⟩ : ∃ x, a0.l[s5_11]? = some x := ⟨_, List.getElem?_eq_getElem hlt⟩
   rw [Q.drop_of hh10, r08_selsRight_q10]
   refine Q.condT (Q.ltT hlt) ?_
   refine Q.bindPO hh10 fun x18 hx_x18 => ?_
   refine Q.bindO rfl fun x19 => ?_
   refine Q.condO ?_ ?_
   ·all_goals exact hret _
   all_goals exact ih10 _ ⟨by omega, by omega⟩
  rw [List.drop_of_length_le (by omega), r08_selsRight_q10]
  refine Q.condF (Q.ltF hlt) ?_
  exact hend n10 s5_11
mutual
def r08_selsRight_qn : Nat → (Sl TSel) → Int → Option Bool
 | 0, _, _ => none
 | n + 1, a0, a1 => bif (((decide (((a0.l.length : Nat) : Int) = (0 : Int))) || (decide ((64 : Int) < ((a0.l.length : Nat) : Int)))) || (decide ((24 : Int) < a1))) then (some false) else (Option.bind (r08_selsRight_q10 a1 (Z43_qn n) a0.l ) fun o10 => match o10 with | Sum.inl _ => (on (()) fun _ => some true) | Sum.inr e10 => (some e10))
def Z43_qn : Nat → TSel → Int → Option Bool
 | 0, _, _ => none
 | n + 1, a0, a1 => (Z42_q a0.FDirs).bind fun x4 => guardO (!(!x4)) (Z40_q a0.FArgs) false fun x5 => bif ((!x4) || (!x5)) then (some false) else (bif (decide (a0.FKind = (1 : Int))) then (on (Z12_q a0.FName) fun x13 => on (bif (x13 && !((a0.FAlias == ([] : Bs)))) then Z12_q a0.FAlias else false) fun x14 => guardO ((((x13 && (((a0.FAlias == ([] : Bs))) || x14)) && ((a0.FOn == ([] : Bs)))) && !(decide (((a0.FSels.l.length : Nat) : Int) = (0 : Int))))) (addC a1 (1 : Int)) (0 : Int) fun x15 => guardO ((((x13 && (((a0.FAlias == ([] : Bs))) || x14)) && ((a0.FOn == ([] : Bs)))) && !(decide (((a0.FSels.l.length : Nat) : Int) = (0 : Int))))) ((r08_selsRight_qn n) a0.FSels x15) false fun x16 => some (((x13 && (((a0.FAlias == ([] : Bs))) || x14)) && ((a0.FOn == ([] : Bs)))) && ((decide (((a0.FSels.l.length : Nat) : Int) = (0 : Int))) || x16))) else (bif (decide (a0.FKind = (2 : Int))) then (on (Z44_q a0.FName) fun x20 => some ((((x20 && ((a0.FAlias == ([] : Bs)))) && ((a0.FOn == ([] : Bs)))) && (decide (((a0.FArgs.l.length : Nat) : Int) = (0 : Int)))) && (decide (((a0.FSels.l.length : Nat) : Int) = (0 : Int))))) else (bif (decide (a0.FKind = (3 : Int))) then (on (bif ((((a0.FName == ([] : Bs))) && ((a0.FAlias == ([] : Bs)))) && !((a0.FOn == ([] : Bs)))) then Z12_q a0.FOn else false) fun x24 => guardO ((((((a0.FName == ([] : Bs))) && ((a0.FAlias == ([] : Bs)))) && (((a0.FOn == ([] : Bs))) || x24)) && (decide (((a0.FArgs.l.length : Nat) : Int) = (0 : Int))))) (addC a1 (1 : Int)) (0 : Int) fun x25 => guardO ((((((a0.FName == ([] : Bs))) && ((a0.FAlias == ([] : Bs)))) && (((a0.FOn == ([] : Bs))) || x24)) && (decide (((a0.FArgs.l.length : Nat) : Int) = (0 : Int))))) ((r08_selsRight_qn n) a0.FSels x25) false fun x26 => some ((((((a0.FName == ([] : Bs))) && ((a0.FAlias == ([] : Bs)))) && (((a0.FOn == ([] : Bs))) || x24)) && (decide (((a0.FArgs.l.length : Nat) : Int) = (0 : Int)))) && x26)) else (some false))))
end
theorem r08_selsRight_qall : ∀ n : Nat, r08_selsRight_n n = r08_selsRight_qn n ∧ Z43_n n = Z43_qn n := by
 intro n
 induction n with
 | zero => exact ⟨(by funext a0 a1; first | rfl | (rw [r08_selsRight_n, r08_selsRight_qn])), (by funext a0 a1; first | rfl | (rw [Z43_n, Z43_qn]))⟩
 | succ n ih =>
  refine ⟨?_, ?_⟩
  ·funext a0 a1
   refine Eq.trans ?_ (Q.some_bind _)
   rw [r08_selsRight_n, r08_selsRight_qn]
   try rw [ih.1]
   try rw [ih.2]
   refine Q.condO ?_ ?_
   ·all_goals rfl
   refine Q.wrapOO fun Kb10 hKb10 => ?_
   refine r08_selsRight_l10_qe  Kb10 ?_ ?_ _ _ ⟨Nat.succ_pos _, by omega⟩
   ·intro n10 s5_11
    refine Eq.trans ?_ (hKb10 _).symm
    try dsimp only
    refine Q.wrapPO fun Kj7 hKj7 => ?_
    have hj7 : r08_selsRight_j7   = Kj7 () := by
     refine Eq.trans ?_ (hKj7 _).symm
     unfold r08_selsRight_j7
     all_goals rfl
    all_goals exact hj7
   intro e10
   refine Eq.trans ?_ (hKb10 _).symm
   try dsimp only
   all_goals rfl
  funext a0 a1
  refine Eq.trans ?_ (Q.some_bind _)
  rw [Z43_n, Z43_qn]
  try rw [ih.1]
  try rw [ih.2]
  refine Q.bindO (Z42_eq _) fun x4 => ?_
  refine Q.guardOO (Z40_eq _) fun x5 => ?_
  refine Q.condO ?_ ?_
  ·all_goals rfl
  refine Q.condO ?_ ?_
  ·refine Q.bindPO (Z12_eq _) fun x13 hx_x13 => ?_
   refine Q.guardPO (Z12_eq _) fun x14 hx_x14 => ?_
   refine Q.guardOO rfl fun x15 => ?_
   refine Q.guardOO rfl fun x16 => ?_
   all_goals rfl
  refine Q.condO ?_ ?_
  ·refine Q.bindPO (Z44_eq _) fun x20 hx_x20 => ?_
   all_goals rfl
  refine Q.condO ?_ ?_
  ·refine Q.guardPO (Z12_eq _) fun x24 hx_x24 => ?_
   refine Q.guardOO rfl fun x25 => ?_
   refine Q.guardOO rfl fun x26 => ?_
   all_goals rfl
  all_goals rfl
def r08_selsRight_q (a0 : (Sl TSel)) (a1 : Int) : Option Bool := r08_selsRight_qn F0 a0 a1
theorem r08_selsRight_eq (a0 : (Sl TSel)) (a1 : Int) : r08_selsRight a0 a1 = r08_selsRight_q a0 a1 := by
 unfold r08_selsRight r08_selsRight_q; rw [(r08_selsRight_qall F0).1]
def Z39_q30  : List TOp → Option (Unit ⊕ Bool)
 | [] => some (Sum.inl ())
 | h30 :: r30 => on (h30) fun x38 => on (bif (!((decide (x38.FKind < (1 : Int))) || (decide ((3 : Int) < x38.FKind))) && (!(x38.FName == ([] : Bs)))) then Z12_q x38.FName else false) fun x40 => guardO (!(((decide (x38.FKind < (1 : Int))) || (decide ((3 : Int) < x38.FKind))) || ((!(x38.FName == ([] : Bs))) && (!x40)))) (Z45_q x38.FVars) false fun x41 => guardO (!((((decide (x38.FKind < (1 : Int))) || (decide ((3 : Int) < x38.FKind))) || ((!(x38.FName == ([] : Bs))) && (!x40))) || (!x41))) (r08_selsRight_q x38.FSels (1 : Int)) false fun x42 => bif (((((decide (x38.FKind < (1 : Int))) || (decide ((3 : Int) < x38.FKind))) || ((!(x38.FName == ([] : Bs))) && (!x40))) || (!x41)) || (!x42)) then (some (Sum.inr false)) else (Z39_q30  (r30) )
theorem Z39_l30_qe {a0 : TQuery}  (Kb30 : (Unit ⊕ Bool) → Option Bool) (hend : ∀ (n30 : Nat) (s4_31 : Nat), Z39_j10 a0   = Kb30 (Sum.inl ())) (hret : ∀ e : Bool, some e = Kb30 (Sum.inr e)) : ∀ (n30 : Nat) (s4_31 : Nat), (0 < n30 ∧ a0.FOps.l.length < s4_31 + n30) → Z39_l30 a0 n30 s4_31 = Option.bind (Z39_q30  (a0.FOps.l.drop s4_31) ) Kb30 := by
 intro n30
 induction n30 with
 | zero => intro s4_31 hn; exact absurd hn.1 (by omega)
 | succ n30 ih30 =>
  intro s4_31 hn
  rw [Z39_l30]
  by_cases hlt : s4_31 < a0.FOps.l.length
  ·obtain ⟨h30, hh30⟩ : ∃ x, a0.FOps.l[s4_31]? = some x := ⟨_, List.getElem?_eq_getElem hlt⟩
   rw [Q.drop_of hh30, Z39_q30]
   refine Q.condT (Q.ltT hlt) ?_
   refine Q.bindPO hh30 fun x38 hx_x38 => ?_
   refine Q.guardPO (Z12_eq _) fun x40 hx_x40 => ?_
   refine Q.guardOO (Z45_eq _) fun x41 => ?_
   refine Q.guardOO (r08_selsRight_eq _ _) fun x42 => ?_
   refine Q.condO ?_ ?_
   ·all_goals exact hret _
   all_goals exact ih30 _ ⟨by omega, by omega⟩
  rw [List.drop_of_length_le (by omega), Z39_q30]
  refine Q.condF (Q.ltF hlt) ?_
  exact hend n30 s4_31
def Z39_q14  : List TFrag → Option (Unit ⊕ Bool)
 | [] => some (Sum.inl ())
 | h14 :: r14 => on (h14) fun x22 => on (Z44_q x22.FName) fun x24 => on (bif !(!x24) then Z12_q x22.FOn else false) fun x25 => guardO (!((!x24) || (!x25))) (r08_selsRight_q x22.FSels (1 : Int)) false fun x26 => bif (((!x24) || (!x25)) || (!x26)) then (some (Sum.inr false)) else (Z39_q14  (r14) )
theorem Z39_l14_qe {a0 : TQuery}  (Kb14 : (Unit ⊕ Bool) → Option Bool) (hend : ∀ (n14 : Nat) (s6_15 : Nat), Z39_j11    = Kb14 (Sum.inl ())) (hret : ∀ e : Bool, some e = Kb14 (Sum.inr e)) : ∀ (n14 : Nat) (s6_15 : Nat), (0 < n14 ∧ a0.FFrags.l.length < s6_15 + n14) → Z39_l14 a0 n14 s6_15 = Option.bind (Z39_q14  (a0.FFrags.l.drop s6_15) ) Kb14 := by
 intro n14
 induction n14 with
 | zero => intro s6_15 hn; exact absurd hn.1 (by omega)
 | succ n14 ih14 =>
  intro s6_15 hn
  rw [Z39_l14]
  by_cases hlt : s6_15 < a0.FFrags.l.length
  ·obtain ⟨h14, hh14⟩ : ∃ x, a0.FFrags.l[s6_15]? = some x := ⟨_, List.getElem?_eq_getElem hlt⟩
   rw [Q.drop_of hh14, Z39_q14]
   refine Q.condT (Q.ltT hlt) ?_
   refine Q.bindPO hh14 fun x22 hx_x22 => ?_
   refine Q.bindPO (Z44_eq _) fun x24 hx_x24 => ?_
   refine Q.guardPO (Z12_eq _) fun x25 hx_x25 => ?_
   refine Q.guardOO (r08_selsRight_eq _ _) fun x26 => ?_
   refine Q.condO ?_ ?_
   ·all_goals exact hret _
   all_goals exact ih14 _ ⟨by omega, by omega⟩
  rw [List.drop_of_length_le (by omega), Z39_q14]
  refine Q.condF (Q.ltF hlt) ?_
  exact hend n14 s6_15
def Z39_q (a0 : TQuery) : Option Bool := (addC ((a0.FOps.l.length : Nat) : Int) ((a0.FFrags.l.length : Nat) : Int)).bind fun x5 => bif ((decide (x5 < (1 : Int))) || (decide ((64 : Int) < x5))) then (some false) else (Option.bind (Z39_q30  a0.FOps.l ) fun o30 => match o30 with | Sum.inl _ => (on (()) fun _ => Option.bind (Z39_q14  a0.FFrags.l ) fun o14 => match o14 with | Sum.inl _ => (on (()) fun _ => some true) | Sum.inr e14 => (some e14)) | Sum.inr e30 => (some e30))
theorem Z39_eq (a0 : TQuery) : Z39 a0 = Z39_q a0 := by
 unfold Z39 Z39_q
 refine Eq.trans ?_ (Q.some_bind _)
 refine Q.bindO rfl fun x5 => ?_
 refine Q.condO ?_ ?_
 ·all_goals rfl
 refine Q.wrapOO fun Kb30 hKb30 => ?_
 refine Z39_l30_qe  Kb30 ?_ ?_ _ _ ⟨Nat.succ_pos _, by omega⟩
 ·intro n30 s4_31
  refine Eq.trans ?_ (hKb30 _).symm
  try dsimp only
  refine Q.wrapPO fun Kj10 hKj10 => ?_
  have hj10 : Z39_j10 a0  = Kj10 () := by
   refine Eq.trans ?_ (hKj10 _).symm
   unfold Z39_j10
   refine Q.wrapOO fun Kb14 hKb14 => ?_
   refine Z39_l14_qe  Kb14 ?_ ?_ _ _ ⟨Nat.succ_pos _, by omega⟩
   ·intro n14 s6_15
    refine Eq.trans ?_ (hKb14 _).symm
    try dsimp only
    refine Q.wrapPO fun Kj11 hKj11 => ?_
    have hj11 : Z39_j11   = Kj11 () := by
     refine Eq.trans ?_ (hKj11 _).symm
     unfold Z39_j11
     all_goals rfl
    all_goals exact hj11
   intro e14
   refine Eq.trans ?_ (hKb14 _).symm
   try dsimp only
   all_goals rfl
  all_goals exact hj10
 intro e30
 refine Eq.trans ?_ (hKb30 _).symm
 try dsimp only
 all_goals rfl
def Z10_q (a0 : TDoc) (a1 : TQuery) : Option Bool := (Z51_q a0).bind fun x3 => guardO ((!x3)) (Z38_q a1) false fun x4 => guardO (((!x3) && (!x4))) (Z30_q a0) false fun x5 => guardO ((((!x3) && (!x4)) && x5)) (Z39_q a1) false fun x6 => some ((((!x3) && (!x4)) && x5) && x6)
theorem Z10_eq (a0 : TDoc) (a1 : TQuery) : Z10 a0 a1 = Z10_q a0 a1 := by
 unfold Z10 Z10_q
 refine Eq.trans ?_ (Q.some_bind _)
 refine Q.bindO (Z51_eq _) fun x3 => ?_
 refine Q.guardOO (Z38_eq _) fun x4 => ?_
 refine Q.guardOO (Z30_eq _) fun x5 => ?_
 refine Q.guardOO (Z39_eq _) fun x6 => ?_
 all_goals rfl
def Z61_q11 (a1 : (Sl TUse)) : List TUse → Nat → Option (Unit ⊕ Bool)
 | [], s5_12 => some (Sum.inl ())
 | h11 :: r11, s5_12 => on (h11) fun x19 => (a1.l[s5_12]?).bind fun x20 => bif (!((x19.FType == x20.FType) && ((x19.FField == x20.FField) && ((x19.FArg == x20.FArg) && (decide (x19.FCount = x20.FCount) && true))))) then (some (Sum.inr false)) else (Z61_q11 a1 (r11) (s5_12 + 1) )
theorem Z61_l11_qe {a0 : (Sl TUse)} {a1 : (Sl TUse)}  (Kb11 : (Unit ⊕ Bool) → Option Bool) (hend : ∀ (n11 : Nat) (s5_12 : Nat), Z61_j8    = Kb11 (Sum.inl ())) (hret : ∀ e : Bool, some e = Kb11 (Sum.inr e)) : ∀ (n11 : Nat) (s5_12 : Nat), (0 < n11 ∧ a0.l.length < s5_12 + n11) → Z61_l11 a0 a1 n11 s5_12 = Option.bind (Z61_q11 a1 (a0.l.drop s5_12) s5_12 ) Kb11 := by
 intro n11
 induction n11 with
 | zero => intro s5_12 hn; exact absurd hn.1 (by omega)
 | succ n11 ih11 =>
  intro s5_12 hn
  rw [Z61_l11]
  by_cases hlt : s5_12 < a0.l.length
  ·obtain ⟨h11, hh11⟩ : ∃ x, a0.l[s5_12]? = some x := ⟨_, List.getElem?_eq_getElem hlt⟩
   rw [Q.drop_of hh11, Z61_q11]
   refine Q.condT (Q.ltT hlt) ?_
   refine Q.bindPO hh11 fun x19 hx_x19 => ?_
   refine Q.bindO rfl fun x20 => ?_
   refine Q.condO ?_ ?_
   ·all_goals exact hret _
   all_goals exact ih11 _ ⟨by omega, by omega⟩
  rw [List.drop_of_length_le (by omega), Z61_q11]
  refine Q.condF (Q.ltF hlt) ?_
  exact hend n11 s5_12
def Z61_q (a0 : (Sl TUse)) (a1 : (Sl TUse)) : Option Bool := bif (!decide (((a0.l.length : Nat) : Int) = ((a1.l.length : Nat) : Int))) then (some false) else (Option.bind (Z61_q11 a1 a0.l 0 ) fun o11 => match o11 with | Sum.inl _ => (on (()) fun _ => some true) | Sum.inr e11 => (some e11))
theorem Z61_eq (a0 : (Sl TUse)) (a1 : (Sl TUse)) : Z61 a0 a1 = Z61_q a0 a1 := by
 unfold Z61 Z61_q
 refine Eq.trans ?_ (Q.some_bind _)
 refine Q.condO ?_ ?_
 ·all_goals rfl
 refine Q.wrapOO fun Kb11 hKb11 => ?_
 refine Z61_l11_qe  Kb11 ?_ ?_ _ _ ⟨Nat.succ_pos _, by omega⟩
 ·intro n11 s5_12
  refine Eq.trans ?_ (hKb11 _).symm
  try dsimp only
  refine Q.wrapPO fun Kj8 hKj8 => ?_
  have hj8 : Z61_j8   = Kj8 () := by
   refine Eq.trans ?_ (hKj8 _).symm
   unfold Z61_j8
   all_goals rfl
  all_goals exact hj8
 intro e11
 refine Eq.trans ?_ (hKb11 _).symm
 try dsimp only
 all_goals rfl
def Z74_q (a0 : Int) : Bs := bif (decide (a0 = (1 : Int))) then (([81, 117, 101, 114, 121] : Bs)) else (bif (decide (a0 = (2 : Int))) then (([77, 117, 116, 97, 116, 105, 111, 110] : Bs)) else (bif (decide (a0 = (3 : Int))) then (([83, 117, 98, 115, 99, 114, 105, 112, 116, 105, 111, 110] : Bs)) else (([] : Bs))))
theorem Z74_eq (a0 : Int) : Z74 a0 = some (Z74_q a0) := by
 unfold Z74 Z74_q
 refine Q.condP ?_ ?_
 ·all_goals rfl
 refine Q.condP ?_ ?_
 ·all_goals rfl
 refine Q.condP ?_ ?_
 ·all_goals rfl
 all_goals rfl
def Z4_q7 (a1 : Bs) : List TFrag → Unit ⊕ ((TFrag × Bool))
 | [] => Sum.inl ()
 | h7 :: r7 => on (h7) fun x15 => bif ((x15.FName == a1)) then (Sum.inr (x15, true)) else (Z4_q7 a1 (r7) )
theorem Z4_l7_qe {a0 : TQuery} {a1 : Bs}  (Kb7 : (Unit ⊕ ((TFrag × Bool))) → Option (TFrag × Bool)) (hend : ∀ (n7 : Nat) (s11_8 : Nat) (y9_l0 : TFrag), Z4_j2   y9_l0 = Kb7 (Sum.inl ())) (hret : ∀ e : (TFrag × Bool), some e = Kb7 (Sum.inr e)) : ∀ (n7 : Nat) (s11_8 : Nat) (y9_l0 : TFrag), (0 < n7 ∧ a0.FFrags.l.length < s11_8 + n7) → Z4_l7 a0 a1 n7 s11_8 y9_l0 = Kb7 (Z4_q7 a1 (a0.FFrags.l.drop s11_8) ) := by
 intro n7
 induction n7 with
 | zero => intro s11_8 y9_l0 hn; exact absurd hn.1 (by omega)
 | succ n7 ih7 =>
  intro s11_8 y9_l0 hn
  rw [Z4_l7]
  by_cases hlt : s11_8 < a0.FFrags.l.length
  ·obtain ⟨h7, hh7⟩ : ∃ x, a0.FFrags.l[s11_8]? = some x := ⟨_, List.getElem?_eq_getElem hlt⟩
   rw [Q.drop_of hh7, Z4_q7]
   refine Q.condT (Q.ltT hlt) ?_
   refine Q.bindP hh7 fun x15 hx_x15 => ?_
   refine Q.condP ?_ ?_
   ·all_goals exact hret _
   all_goals exact ih7 _ _ ⟨by omega, by omega⟩
  rw [List.drop_of_length_le (by omega), Z4_q7]
  refine Q.condF (Q.ltF hlt) ?_
  exact hend n7 s11_8 y9_l0
def Z4_q (a0 : TQuery) (a1 : Bs) : (TFrag × Bool) := on (Z4_q7 a1 a0.FFrags.l ) fun o7 => match o7 with | Sum.inl _ => (on (()) fun _ => ((TFrag.mk ([] : Bs) ([] : Bs) (Sl.nil : Sl TSel)), false)) | Sum.inr e7 => (e7)
theorem Z4_eq (a0 : TQuery) (a1 : Bs) : Z4 a0 a1 = some (Z4_q a0 a1) := by
 unfold Z4 Z4_q
 refine Q.wrapPP fun Kb7 hKb7 => ?_
 refine Z4_l7_qe  Kb7 ?_ ?_ _ _ _ ⟨Nat.succ_pos _, by omega⟩
 ·intro n7 s11_8 y9_l0
  refine Eq.trans ?_ (hKb7 _).symm
  try dsimp only
  refine Q.wrapPP fun Kj2 hKj2 => ?_
  have hj2 : ∀ (y3_l0 : TFrag), Z4_j2  y3_l0 = Kj2 () := by
   intro y3_l0
   refine Eq.trans ?_ (hKj2 _).symm
   unfold Z4_j2
   all_goals rfl
  all_goals exact hj2 _
 intro e7
 refine Eq.trans ?_ (hKb7 _).symm
 try dsimp only
 all_goals rfl
def Z82_q6 (a1 : Bs) : List Bs → Nat → Unit ⊕ Int
 | [], s8_7 => Sum.inl ()
 | h6 :: r6, s8_7 => on (h6) fun x14 => bif ((a1 == x14)) then (Sum.inr ((s8_7 : Nat) : Int)) else (Z82_q6 a1 (r6) (s8_7 + 1) )
theorem Z82_l6_qe {a0 : (Sl Bs)} {a1 : Bs}  (Kb6 : (Unit ⊕ Int) → Option Int) (hend : ∀ (n6 : Nat) (s8_7 : Nat), Z82_j2    = Kb6 (Sum.inl ())) (hret : ∀ e : Int, some e = Kb6 (Sum.inr e)) : ∀ (n6 : Nat) (s8_7 : Nat), (0 < n6 ∧ a0.l.length < s8_7 + n6) → Z82_l6 a0 a1 n6 s8_7 = Kb6 (Z82_q6 a1 (a0.l.drop s8_7) s8_7 ) := by
 intro n6
 induction n6 with
 | zero => intro s8_7 hn; exact absurd hn.1 (by omega)
 | succ n6 ih6 =>
  intro s8_7 hn
  rw [Z82_l6]
  by_cases hlt : s8_7 < a0.l.length
  ·obtain ⟨h6, hh6⟩ : ∃ x, a0.l[s8_7]? = some x := ⟨_, List.getElem?_eq_getElem hlt⟩
   rw [Q.drop_of hh6, Z82_q6]
   refine Q.condT (Q.ltT hlt) ?_
   refine Q.bindP hh6 fun x14 hx_x14 => ?_
   refine Q.condP ?_ ?_
   ·all_goals exact hret _
   all_goals exact ih6 _ ⟨by omega, by omega⟩
  rw [List.drop_of_length_le (by omega), Z82_q6]
  refine Q.condF (Q.ltF hlt) ?_
  exact hend n6 s8_7
def Z82_q (a0 : (Sl Bs)) (a1 : Bs) : Int := on (Z82_q6 a1 a0.l 0 ) fun o6 => match o6 with | Sum.inl _ => (on (()) fun _ => (-1 : Int)) | Sum.inr e6 => (e6)
theorem Z82_eq (a0 : (Sl Bs)) (a1 : Bs) : Z82 a0 a1 = some (Z82_q a0 a1) := by
 unfold Z82 Z82_q
 refine Q.wrapPP fun Kb6 hKb6 => ?_
 refine Z82_l6_qe  Kb6 ?_ ?_ _ _ ⟨Nat.succ_pos _, by omega⟩
 ·intro n6 s8_7
  refine Eq.trans ?_ (hKb6 _).symm
  try dsimp only
  refine Q.wrapPP fun Kj2 hKj2 => ?_
  have hj2 : Z82_j2   = Kj2 () := by
   refine Eq.trans ?_ (hKj2 _).symm
   unfold Z82_j2
   all_goals rfl
  all_goals exact hj2
 intro e6
 refine Eq.trans ?_ (hKb6 _).symm
 try dsimp only
 all_goals rfl
def Z80_q (a0 : (Sl Bs)) (a1 : Bs) : Bool := on (Z82_q a0 a1) fun x3 => (decide ((0 : Int) ≤ x3))
theorem Z80_eq (a0 : (Sl Bs)) (a1 : Bs) : Z80 a0 a1 = some (Z80_q a0 a1) := by
 unfold Z80 Z80_q
 refine Q.bindP (Z82_eq _ _) fun x3 hx_x3 => ?_
 all_goals rfl
def Z7_q9 (a0 : TQuery) (k_rec_40 : TQuery → (Sl TSel) → (Sl Bs) → Option ((Sl Bs) × Bool)) : List TSel → (Sl Bs) → Bool → Option (((Sl Bs) × Bool))
 | [], s2_10, s8_11 => some (s2_10, s8_11)
 | h9 :: r9, s2_10, s8_11 => on (h9) fun x20 => Option.bind (on (fun (s2_23 : (Sl Bs)) (s8_24 : Bool) (s11_25 : (Sl TSel)) => (k_rec_40 a0 s11_25 s2_23).bind fun x28 => some (x28.1, (s8_24 && x28.2))) fun kj22 => bif (decide (x20.FKind = (2 : Int))) then (on (Z4_q a0 x20.FName) fun x32 => on (bif !(!x32.2) then Z80_q s2_10 x20.FName else false) fun x36 => bif ((!x32.2) || x36) then (some (s2_10, (s8_11 && x32.2))) else ((appC 16 s2_10 (⟨false, [x20.FName]⟩ : Sl Bs)).bind fun x39 => kj22 x39 (s8_11 && x32.2) x32.1.FSels)) else (kj22 s2_10 s8_11 x20.FSels)) fun z16 => Z7_q9 a0 k_rec_40 (r9) z16.1 z16.2
theorem Z7_l9_qe {a0 : TQuery} {a1 : (Sl TSel)} {k_rec_40 : TQuery → (Sl TSel) → (Sl Bs) → Option ((Sl Bs) × Bool)}  (Kb9 : (((Sl Bs) × Bool)) → Option ((Sl Bs) × Bool)) (hend : ∀ (n9 : Nat) (s2_10 : (Sl Bs)) (s8_11 : Bool) (s17_12 : Nat), Z7_j3   s2_10 s8_11 = Kb9 (s2_10, s8_11)) : ∀ (n9 : Nat) (s2_10 : (Sl Bs)) (s8_11 : Bool) (s17_12 : Nat), (0 < n9 ∧ a1.l.length < s17_12 + n9) → Z7_l9 a0 a1 k_rec_40 n9 s2_10 s8_11 s17_12 = Option.bind (Z7_q9 a0 k_rec_40 (a1.l.drop s17_12) s2_10 s8_11) Kb9 := by
 intro n9
 induction n9 with
 | zero => intro s2_10 s8_11 s17_12 hn; exact absurd hn.1 (by omega)
 | succ n9 ih9 =>
  intro s2_10 s8_11 s17_12 hn
  rw [Z7_l9]
  by_cases hlt : s17_12 < a1.l.length
  ·obtain ⟨h9, hh9⟩ : ∃ x, a1.l[s17_12]? = some x := ⟨_, List.getElem?_eq_getElem hlt⟩
   rw [Q.drop_of hh9, Z7_q9]
   refine Q.condT (Q.ltT hlt) ?_
   refine Q.bindPO hh9 fun x20 hx_x20 => ?_
   refine Q.wrapOO fun Kj16 hKj16 => ?_
   have hj16 : ∀ (s2_17 : (Sl Bs)) (s8_18 : Bool), Z7_j16 s17_12 (Z7_l9 a0 a1 k_rec_40 n9) s2_17 s8_18 = Kj16 (s2_17, s8_18) := by
    intro s2_17 s8_18
    refine Eq.trans ?_ (hKj16 _).symm
    try dsimp only
    unfold Z7_j16
    all_goals exact ih9 _ _ _ ⟨by omega, by omega⟩
   refine Q.mixO fun kj22 hkj22 => ?_
   have hj22 : ∀ (s2_23 : (Sl Bs)) (s8_24 : Bool) (s11_25 : (Sl TSel)), Z7_j22 a0 s17_12 (Z7_l9 a0 a1 k_rec_40 n9) k_rec_40 s2_23 s8_24 s11_25 = Option.bind (kj22 s2_23 s8_24 s11_25) Kj16 := by
    intro s2_23 s8_24 s11_25
    unfold Z7_j22
    rw [hkj22]
    try dsimp only
    refine Q.bindO rfl fun x28 => ?_
    all_goals exact hj16 _ _
   refine Q.condO ?_ ?_
   ·refine Q.bindPO (Z4_eq _ _) fun x32 hx_x32 => ?_
    refine Q.guardPO (Z80_eq _ _) fun x36 hx_x36 => ?_
    refine Q.condO ?_ ?_
    ·all_goals exact hj16 _ _
    refine Q.bindO rfl fun x39 => ?_
    all_goals exact hj22 _ _ _
   all_goals exact hj22 _ _ _
  rw [List.drop_of_length_le (by omega), Z7_q9]
  refine Q.condF (Q.ltF hlt) ?_
  exact hend n9 s2_10 s8_11 s17_12
def Z7_qn : Nat → TQuery → (Sl TSel) → (Sl Bs) → Option ((Sl Bs) × Bool)
 | 0, _, _, _ => none
 | n + 1, a0, a1, a2 => Option.bind (Z7_q9 a0 (Z7_qn n) a1.l a2 true) fun z9 => on ((z9.1, z9.2)) fun z3 => some (z3.1, z3.2)
theorem Z7_qall : ∀ n : Nat, Z7_n n = Z7_qn n := by
 intro n
 induction n with
 | zero => exact (by funext a0 a1 a2; first | rfl | (rw [Z7_n, Z7_qn]))
 | succ n ih =>
  funext a0 a1 a2
  refine Eq.trans ?_ (Q.some_bind _)
  rw [Z7_n, Z7_qn]
  try rw [ih]
  refine Q.wrapOO fun Kb9 hKb9 => ?_
  refine Z7_l9_qe  Kb9 ?_ _ _ _ _ ⟨Nat.succ_pos _, by omega⟩
  intro n9 s2_10 s8_11 s17_12
  refine Eq.trans ?_ (hKb9 _).symm
  try dsimp only
  refine Q.wrapPO fun Kj3 hKj3 => ?_
  have hj3 : ∀ (s2_4 : (Sl Bs)) (s8_5 : Bool), Z7_j3  s2_4 s8_5 = Kj3 (s2_4, s8_5) := by
   intro s2_4 s8_5
   refine Eq.trans ?_ (hKj3 _).symm
   try dsimp only
   unfold Z7_j3
   all_goals rfl
  all_goals exact hj3 _ _
def Z7_q (a0 : TQuery) (a1 : (Sl TSel)) (a2 : (Sl Bs)) : Option ((Sl Bs) × Bool) := Z7_qn F0 a0 a1 a2
theorem Z7_eq (a0 : TQuery) (a1 : (Sl TSel)) (a2 : (Sl Bs)) : Z7 a0 a1 a2 = Z7_q a0 a1 a2 := by
 unfold Z7 Z7_q; rw [(Z7_qall F0)]
def Z6_q (a0 : TQuery) (a1 : TFrag) : Option Bool := (Z7_q a0 a1.FSels (Sl.nil : Sl Bs)).bind fun x4 => on (Z80_q x4.1 a1.FName) fun x6 => some x6
theorem Z6_eq (a0 : TQuery) (a1 : TFrag) : Z6 a0 a1 = Z6_q a0 a1 := by
 unfold Z6 Z6_q
 refine Eq.trans ?_ (Q.some_bind _)
 refine Q.bindO (Z7_eq _ _ _) fun x4 => ?_
 refine Q.bindPO (Z80_eq _ _) fun x6 hx_x6 => ?_
 all_goals rfl
def Z5_q10 (a0 : TQuery) : List Bs → Bool → Option (Bool)
 | [], s7_11 => some s7_11
 | h10 :: r10, s7_11 => on (h10) fun x18 => on (Z4_q a0 x18) fun x20 => guardO (s7_11) (Z6_q a0 x20.1) false fun x21 => Z5_q10 a0 (r10) (s7_11 && (!x21))
theorem Z5_l10_qe {a0 : TQuery} {x4 : ((Sl Bs) × Bool)}  (Kb10 : (Bool) → Option ((Sl Bs) × Bool)) (hend : ∀ (n10 : Nat) (s7_11 : Bool) (s20_12 : Nat), Z5_j5 x4  s7_11 = Kb10 s7_11) : ∀ (n10 : Nat) (s7_11 : Bool) (s20_12 : Nat), (0 < n10 ∧ x4.1.l.length < s20_12 + n10) → Z5_l10 a0 x4 n10 s7_11 s20_12 = Option.bind (Z5_q10 a0 (x4.1.l.drop s20_12) s7_11) Kb10 := by
 intro n10
 induction n10 with
 | zero => intro s7_11 s20_12 hn; exact absurd hn.1 (by omega)
 | succ n10 ih10 =>
  intro s7_11 s20_12 hn
  rw [Z5_l10]
  by_cases hlt : s20_12 < x4.1.l.length
  ·obtain ⟨h10, hh10⟩ : ∃ x, x4.1.l[s20_12]? = some x := ⟨_, List.getElem?_eq_getElem hlt⟩
   rw [Q.drop_of hh10, Z5_q10]
   refine Q.condT (Q.ltT hlt) ?_
   refine Q.bindPO hh10 fun x18 hx_x18 => ?_
   refine Q.bindPO (Z4_eq _ _) fun x20 hx_x20 => ?_
   refine Q.guardOO (Z6_eq _ _) fun x21 => ?_
   all_goals exact ih10 _ _ ⟨by omega, by omega⟩
  rw [List.drop_of_length_le (by omega), Z5_q10]
  refine Q.condF (Q.ltF hlt) ?_
  exact hend n10 s7_11 s20_12
def Z5_q (a0 : TQuery) (a1 : (Sl TSel)) : Option ((Sl Bs) × Bool) := (Z7_q a0 a1 (Sl.nil : Sl Bs)).bind fun x4 => Option.bind (Z5_q10 a0 x4.1.l x4.2) fun s7_11 => on (s7_11) fun s7_6 => some (x4.1, s7_6)
theorem Z5_eq (a0 : TQuery) (a1 : (Sl TSel)) : Z5 a0 a1 = Z5_q a0 a1 := by
 unfold Z5 Z5_q
 refine Eq.trans ?_ (Q.some_bind _)
 refine Q.bindO (Z7_eq _ _ _) fun x4 => ?_
 refine Q.wrapOO fun Kb10 hKb10 => ?_
 refine Z5_l10_qe  Kb10 ?_ _ _ _ ⟨Nat.succ_pos _, by omega⟩
 intro n10 s7_11 s20_12
 refine Eq.trans ?_ (hKb10 _).symm
 refine Q.wrapPO fun Kj5 hKj5 => ?_
 have hj5 : ∀ (s7_6 : Bool), Z5_j5 x4 s7_6 = Kj5 s7_6 := by
  intro s7_6
  refine Eq.trans ?_ (hKj5 _).symm
  unfold Z5_j5
  all_goals rfl
 all_goals exact hj5 _
def Z77_q (a0 : (Sl TUse)) : Option (Sl TUse) := bif a0.nl then (some (Sl.nil : Sl TUse)) else ((appC 56 (⟨false, []⟩ : Sl TUse) a0).bind fun x7 => some x7)
theorem Z77_eq (a0 : (Sl TUse)) : Z77 a0 = Z77_q a0 := by
 unfold Z77 Z77_q
 refine Eq.trans ?_ (Q.some_bind _)
 refine Q.condO ?_ ?_
 ·all_goals rfl
 refine Q.bindO rfl fun x7 => ?_
 all_goals rfl
def Z93_q12  : List TUse → (Sl TUse) → Option ((Sl TUse))
 | [], y14_ar1 => some y14_ar1
 | h12 :: r12, y14_ar1 => on (h12) fun x21 => guardO ((decide ((0 : Int) < ((y14_ar1.l.length : Nat) : Int)))) (subC ((y14_ar1.l.length : Nat) : Int) (1 : Int)) (0 : Int) fun x26 => guardO ((decide ((0 : Int) < ((y14_ar1.l.length : Nat) : Int)))) (idxC y14_ar1.l x26) TUse.zero fun x27 => guardO (((decide ((0 : Int) < ((y14_ar1.l.length : Nat) : Int))) && ((x27.FType == x21.FType)))) (subC ((y14_ar1.l.length : Nat) : Int) (1 : Int)) (0 : Int) fun x28 => guardO (((decide ((0 : Int) < ((y14_ar1.l.length : Nat) : Int))) && ((x27.FType == x21.FType)))) (idxC y14_ar1.l x28) TUse.zero fun x29 => guardO ((((decide ((0 : Int) < ((y14_ar1.l.length : Nat) : Int))) && ((x27.FType == x21.FType))) && ((x29.FField == x21.FField)))) (subC ((y14_ar1.l.length : Nat) : Int) (1 : Int)) (0 : Int) fun x30 => guardO ((((decide ((0 : Int) < ((y14_ar1.l.length : Nat) : Int))) && ((x27.FType == x21.FType))) && ((x29.FField == x21.FField)))) (idxC y14_ar1.l x30) TUse.zero fun x31 => Option.bind (bif ((((decide ((0 : Int) < ((y14_ar1.l.length : Nat) : Int))) && ((x27.FType == x21.FType))) && ((x29.FField == x21.FField))) && ((x31.FArg == x21.FArg))) then ((subC ((y14_ar1.l.length : Nat) : Int) (1 : Int)).bind fun x34 => (idxC y14_ar1.l x34).bind fun x35 => (idxC y14_ar1.l x34).bind fun x36 => some (Sl.setL y14_ar1 x34.toNat (TUse.mk x36.FType x36.FField x36.FArg (IntKind.wrap .i64 (x35.FCount + x21.FCount))))) else ((appC 56 y14_ar1 (⟨false, [x21]⟩ : Sl TUse)).bind fun x37 => some x37)) fun y19_ar1 => Z93_q12  (r12) y19_ar1
theorem Z93_l12_qe {x5 : (Sl TUse)}  (Kb12 : ((Sl TUse)) → Option (Sl TUse)) (hend : ∀ (n12 : Nat) (s14_13 : Nat) (y14_ar1 : (Sl TUse)), Z93_j7   y14_ar1 = Kb12 y14_ar1) : ∀ (n12 : Nat) (s14_13 : Nat) (y14_ar1 : (Sl TUse)), (0 < n12 ∧ x5.l.length < s14_13 + n12) → Z93_l12 x5 n12 s14_13 y14_ar1 = Option.bind (Z93_q12  (x5.l.drop s14_13) y14_ar1) Kb12 := by
 intro n12
 induction n12 with
 | zero => intro s14_13 y14_ar1 hn; exact absurd hn.1 (by omega)
 | succ n12 ih12 =>
  intro s14_13 y14_ar1 hn
  rw [Z93_l12]
  by_cases hlt : s14_13 < x5.l.length
  ·obtain ⟨h12, hh12⟩ : ∃ x, x5.l[s14_13]? = some x := ⟨_, List.getElem?_eq_getElem hlt⟩
   rw [Q.drop_of hh12, Z93_q12]
   refine Q.condT (Q.ltT hlt) ?_
   refine Q.bindPO hh12 fun x21 hx_x21 => ?_
   refine Q.guardOO rfl fun x26 => ?_
   refine Q.guardOO rfl fun x27 => ?_
   refine Q.guardOO rfl fun x28 => ?_
   refine Q.guardOO rfl fun x29 => ?_
   refine Q.guardOO rfl fun x30 => ?_
   refine Q.guardOO rfl fun x31 => ?_
   refine Q.wrapOO fun Kj18 hKj18 => ?_
   have hj18 : ∀ (y19_ar1 : (Sl TUse)), Z93_j18 s14_13 (Z93_l12 x5 n12) y19_ar1 = Kj18 y19_ar1 := by
    intro y19_ar1
    refine Eq.trans ?_ (hKj18 _).symm
    unfold Z93_j18
    all_goals exact ih12 _ _ ⟨by omega, by omega⟩
   refine Q.condO ?_ ?_
   ·refine Q.bindO rfl fun x34 => ?_
    refine Q.bindO rfl fun x35 => ?_
    refine Q.bindO rfl fun x36 => ?_
    all_goals exact hj18 _
   refine Q.bindO rfl fun x37 => ?_
   all_goals exact hj18 _
  rw [List.drop_of_length_le (by omega), Z93_q12]
  refine Q.condF (Q.ltF hlt) ?_
  exact hend n12 s14_13 y14_ar1
def Z93_q (a0 : (Sl TUse)) : Option (Sl TUse) := (Z77_q a0).bind fun x3 => (some (sortL TUse.c Z94 x3)).bind fun x5 => Option.bind (Z93_q12  x5.l (Sl.nil : Sl TUse)) fun y14_ar1 => on (y14_ar1) fun y8_ar1 => some y8_ar1
theorem Z93_eq (a0 : (Sl TUse)) : Z93 a0 = Z93_q a0 := by
 unfold Z93 Z93_q
 refine Eq.trans ?_ (Q.some_bind _)
 refine Q.bindO (Z77_eq _) fun x3 => ?_
 refine Q.bindO rfl fun x5 => ?_
 refine Q.wrapOO fun Kb12 hKb12 => ?_
 refine Z93_l12_qe  Kb12 ?_ _ _ _ ⟨Nat.succ_pos _, by omega⟩
 intro n12 s14_13 y14_ar1
 refine Eq.trans ?_ (hKb12 _).symm
 refine Q.wrapPO fun Kj7 hKj7 => ?_
 have hj7 : ∀ (y8_ar1 : (Sl TUse)), Z93_j7  y8_ar1 = Kj7 y8_ar1 := by
  intro y8_ar1
  refine Eq.trans ?_ (hKj7 _).symm
  unfold Z93_j7
  all_goals rfl
 all_goals exact hj7 _
def Z75_q (a0 : Bs) : Bool := (((((a0 == ([73, 110, 116] : Bs))) || ((a0 == ([83, 116, 114, 105, 110, 103] : Bs)))) || ((a0 == ([66, 111, 111, 108, 101, 97, 110] : Bs)))) || ((a0 == ([73, 68] : Bs))))
theorem Z75_eq (a0 : Bs) : Z75 a0 = some (Z75_q a0) := by
 unfold Z75 Z75_q
 all_goals rfl
def Z72_q7 (a1 : Bs) : List TDef → Unit ⊕ ((TDef × Bool))
 | [] => Sum.inl ()
 | h7 :: r7 => on (h7) fun x15 => bif ((x15.FName == a1)) then (Sum.inr (x15, true)) else (Z72_q7 a1 (r7) )
theorem Z72_l7_qe {a0 : TDoc} {a1 : Bs}  (Kb7 : (Unit ⊕ ((TDef × Bool))) → Option (TDef × Bool)) (hend : ∀ (n7 : Nat) (s11_8 : Nat) (y9_l0 : TDef), Z72_j2   y9_l0 = Kb7 (Sum.inl ())) (hret : ∀ e : (TDef × Bool), some e = Kb7 (Sum.inr e)) : ∀ (n7 : Nat) (s11_8 : Nat) (y9_l0 : TDef), (0 < n7 ∧ a0.FDefs.l.length < s11_8 + n7) → Z72_l7 a0 a1 n7 s11_8 y9_l0 = Kb7 (Z72_q7 a1 (a0.FDefs.l.drop s11_8) ) := by
 intro n7
 induction n7 with
 | zero => intro s11_8 y9_l0 hn; exact absurd hn.1 (by omega)
 | succ n7 ih7 =>
  intro s11_8 y9_l0 hn
  rw [Z72_l7]
  by_cases hlt : s11_8 < a0.FDefs.l.length
  ·obtain ⟨h7, hh7⟩ : ∃ x, a0.FDefs.l[s11_8]? = some x := ⟨_, List.getElem?_eq_getElem hlt⟩
   rw [Q.drop_of hh7, Z72_q7]
   refine Q.condT (Q.ltT hlt) ?_
   refine Q.bindP hh7 fun x15 hx_x15 => ?_
   refine Q.condP ?_ ?_
   ·all_goals exact hret _
   all_goals exact ih7 _ _ ⟨by omega, by omega⟩
  rw [List.drop_of_length_le (by omega), Z72_q7]
  refine Q.condF (Q.ltF hlt) ?_
  exact hend n7 s11_8 y9_l0
def Z72_q (a0 : TDoc) (a1 : Bs) : (TDef × Bool) := on (Z72_q7 a1 a0.FDefs.l ) fun o7 => match o7 with | Sum.inl _ => (on (()) fun _ => ((TDef.mk (0 : Int) ([] : Bs) (Sl.nil : Sl Bs) (Sl.nil : Sl TDir) (Sl.nil : Sl TField) (Sl.nil : Sl TMember) (Sl.nil : Sl TInput)), false)) | Sum.inr e7 => (e7)
theorem Z72_eq (a0 : TDoc) (a1 : Bs) : Z72 a0 a1 = some (Z72_q a0 a1) := by
 unfold Z72 Z72_q
 refine Q.wrapPP fun Kb7 hKb7 => ?_
 refine Z72_l7_qe  Kb7 ?_ ?_ _ _ _ ⟨Nat.succ_pos _, by omega⟩
 ·intro n7 s11_8 y9_l0
  refine Eq.trans ?_ (hKb7 _).symm
  try dsimp only
  refine Q.wrapPP fun Kj2 hKj2 => ?_
  have hj2 : ∀ (y3_l0 : TDef), Z72_j2  y3_l0 = Kj2 () := by
   intro y3_l0
   refine Eq.trans ?_ (hKj2 _).symm
   unfold Z72_j2
   all_goals rfl
  all_goals exact hj2 _
 intro e7
 refine Eq.trans ?_ (hKb7 _).symm
 try dsimp only
 all_goals rfl
def Z76_q (a0 : TDoc) (a1 : Bs) : Int := on (Z72_q a0 a1) fun x3 => x3.1.FKind
theorem Z76_eq (a0 : TDoc) (a1 : Bs) : Z76 a0 a1 = some (Z76_q a0 a1) := by
 unfold Z76 Z76_q
 refine Q.bindP (Z72_eq _ _) fun x3 hx_x3 => ?_
 all_goals rfl
def Z70_q (a0 : TDoc) (a1 : Bs) : Bool := on (Z76_q a0 a1) fun x3 => on (Z75_q a1) fun x5 => ((!x5) && (((decide (x3 = (1 : Int))) || (decide (x3 = (2 : Int)))) || (decide (x3 = (3 : Int)))))
theorem Z70_eq (a0 : TDoc) (a1 : Bs) : Z70 a0 a1 = some (Z70_q a0 a1) := by
 unfold Z70 Z70_q
 refine Q.bindP (Z76_eq _ _) fun x3 hx_x3 => ?_
 refine Q.bindP (Z75_eq _) fun x5 hx_x5 => ?_
 all_goals rfl
def Z98_q (a0 : Usage_recorder) (a1 : Bs) (a2 : Bs) (a3 : Bs) : Option Usage_recorder := (appC 56 a0.Fout (⟨false, [(TUse.mk a1 a2 a3 (1 : Int))]⟩ : Sl TUse)).bind fun x1 => some (Usage_recorder.mk a0.Fd a0.Fq x1)
theorem Z98_eq (a0 : Usage_recorder) (a1 : Bs) (a2 : Bs) (a3 : Bs) : Z98 a0 a1 a2 a3 = Z98_q a0 a1 a2 a3 := by
 unfold Z98 Z98_q
 refine Eq.trans ?_ (Q.some_bind _)
 refine Q.bindO rfl fun x1 => ?_
 all_goals rfl
def Z95_q (a0 : Usage_recorder) (a1 : Bs) : Option Usage_recorder := on (Z70_q a0.Fd a1) fun x2 => bif x2 then ((Z98_q a0 a1 ([] : Bs) ([] : Bs)).bind fun x4 => some x4) else (some a0)
theorem Z95_eq (a0 : Usage_recorder) (a1 : Bs) : Z95 a0 a1 = Z95_q a0 a1 := by
 unfold Z95 Z95_q
 refine Eq.trans ?_ (Q.some_bind _)
 refine Q.bindPO (Z70_eq _ _) fun x2 hx_x2 => ?_
 refine Q.condO ?_ ?_
 ·refine Q.bindO (Z98_eq _ _ _ _) fun x4 => ?_
  all_goals rfl
 all_goals rfl
def Z78_q (a0 : (Sl Int)) : Option (Sl Int) := bif a0.nl then (some (Sl.nil : Sl Int)) else ((appC 8 (⟨false, []⟩ : Sl Int) a0).bind fun x7 => some x7)
theorem Z78_eq (a0 : (Sl Int)) : Z78 a0 = Z78_q a0 := by
 unfold Z78 Z78_q
 refine Eq.trans ?_ (Q.some_bind _)
 refine Q.condO ?_ ?_
 ·all_goals rfl
 refine Q.bindO rfl fun x7 => ?_
 all_goals rfl
end Go.Proofs
