import Derived.Test.YtjlggcgmmpopmaaGreatDoorV9
set_option maxRecDepth 100000
set_option maxHeartbeats 2000000
set_option linter.unusedVariables false
set_option linter.unusedSimpArgs false
namespace Go.Proofs
open Go Go.Ab
def Z42_q5 (k_rec_106 : TValue → Option Bool) : List TValue → Option (Unit ⊕ Bool)
 | [] => some (Sum.inl ())
 | h5 :: r5 => on (h5) fun x13 => (k_rec_106 x13).bind fun x14 => bif (!x14) then (some (Sum.inr false)) else (Z42_q5 k_rec_106 (r5) )
theorem Z42_l5_qe {a0 : TValue} {k_rec_106 : TValue → Option Bool}  (Kb5 : (Unit ⊕ Bool) → Option Bool) (hend : ∀ (n5 : Nat) (s3_6 : Nat), Z42_j2 a0   = Kb5 (Sum.inl ())) (hret : ∀ e : Bool, some e = Kb5 (Sum.inr e)) : ∀ (n5 : Nat) (s3_6 : Nat), (0 < n5 ∧ a0.FItems.l.length < s3_6 + n5) → Z42_l5 a0 k_rec_106 n5 s3_6 = Option.bind (Z42_q5 k_rec_106 (a0.FItems.l.drop s3_6) ) Kb5 := by
 intro n5
 induction n5 with
 | zero => intro s3_6 hn; exact absurd hn.1 (by omega)
 | succ n5 ih5 =>
  intro s3_6 hn
  rw [Z42_l5]
  by_cases hlt : s3_6 < a0.FItems.l.length
  ·obtain ⟨h5, hh5⟩ : ∃ x, a0.FItems.l[s3_6]? = some x := ⟨_, List.getElem?_eq_getElem hlt⟩
   rw [Q.drop_of hh5, Z42_q5]
   refine Q.condT (Q.ltT hlt) ?_
   refine Q.bindPO hh5 fun x13 hx_x13 => ?_
   refine Q.bindO rfl fun x14 => ?_
   refine Q.condO ?_ ?_
   ·all_goals exact hret _
   all_goals exact ih5 _ ⟨by omega, by omega⟩
  rw [List.drop_of_length_le (by omega), Z42_q5]
  refine Q.condF (Q.ltF hlt) ?_
  exact hend n5 s3_6
def Z42_qn : Nat → TValue → Option Bool
 | 0, _ => none
 | n + 1, a0 => Option.bind (Z42_q5 (Z42_qn n) a0.FItems.l ) fun o5 => match o5 with | Sum.inl _ => (on (()) fun _ => some (!decide (a0.FKind = (7 : Int)))) | Sum.inr e5 => (some e5)
theorem Z42_qall : ∀ n : Nat, Z42_n n = Z42_qn n := by
 intro n
 induction n with
 | zero => exact (by funext a0; first | rfl | (rw [Z42_n, Z42_qn]))
 | succ n ih =>
  funext a0
  refine Eq.trans ?_ (Q.some_bind _)
  rw [Z42_n, Z42_qn]
  try rw [ih]
  refine Q.wrapOO fun Kb5 hKb5 => ?_
  refine Z42_l5_qe  Kb5 ?_ ?_ _ _ ⟨Nat.succ_pos _, by omega⟩
  ·intro n5 s3_6
   refine Eq.trans ?_ (hKb5 _).symm
   try dsimp only
   refine Q.wrapPO fun Kj2 hKj2 => ?_
   have hj2 : Z42_j2 a0  = Kj2 () := by
    refine Eq.trans ?_ (hKj2 _).symm
    unfold Z42_j2
    all_goals rfl
   all_goals exact hj2
  intro e5
  refine Eq.trans ?_ (hKb5 _).symm
  try dsimp only
  all_goals rfl
def Z42_q (a0 : TValue) : Option Bool := Z42_qn F0 a0
theorem Z42_eq (a0 : TValue) : Z42 a0 = Z42_q a0 := by
 unfold Z42 Z42_q; rw [(Z42_qall F0)]
def Z44_q25 (h10 : TDir) : List TArg → Option (Unit ⊕ Bool)
 | [] => some (Sum.inl ())
 | h25 :: r25 => on (h10) fun x34 => on (h25) fun x35 => on (Z21_q x35.FName) fun x37 => guardO (!(!x37)) (Z27_q x35.FValue) false fun x38 => guardO (!((!x37) || (!x38))) (Z42_q x35.FValue) false fun x39 => bif (((!x37) || (!x38)) || (!x39)) then (some (Sum.inr false)) else (Z44_q25 h10 (r25) )
theorem Z44_l25_qe {a0 : (Sl TDir)} {s3_11 : Nat} {k_next_10 : Nat → Option Bool} {h10 : TDir} (hh10 : a0.l[s3_11]? = some h10) (Kb25 : (Unit ⊕ Bool) → Option Bool) (hend : ∀ (n25 : Nat) (s4_26 : Nat), Z44_j16 s3_11 k_next_10  = Kb25 (Sum.inl ())) (hret : ∀ e : Bool, some e = Kb25 (Sum.inr e)) : ∀ (n25 : Nat) (s4_26 : Nat), (0 < n25 ∧ h10.FArgs.l.length < s4_26 + n25) → Z44_l25 a0 s3_11 k_next_10 n25 s4_26 = Option.bind (Z44_q25 h10 (h10.FArgs.l.drop s4_26) ) Kb25 := by
 intro n25
 induction n25 with
 | zero => intro s4_26 hn; exact absurd hn.1 (by omega)
 | succ n25 ih25 =>
  intro s4_26 hn
  rw [Z44_l25]
  refine Q.preB hh10 fun x29 hx_x29 => ?_
  subst hx_x29
  by_cases hlt : s4_26 < x29.FArgs.l.length
  ·obtain ⟨h25, hh25⟩ : ∃ x, x29.FArgs.l[s4_26]? = some x := ⟨_, List.getElem?_eq_getElem hlt⟩
   rw [Q.drop_of hh25, Z44_q25]
   refine Q.condT (Q.ltT hlt) ?_
   refine Q.bindPO hh10 fun x34 hx_x34 => ?_
   refine Q.bindPO (by first | exact hh25 | (simp only [hx_x34]; exact hh25) | (simp only [hx_x34] at hh25 ⊢; exact hh25)) fun x35 hx_x35 => ?_
   refine Q.bindPO (Z21_eq _) fun x37 hx_x37 => ?_
   refine Q.guardOO (Z27_eq _) fun x38 => ?_
   refine Q.guardOO (Z42_eq _) fun x39 => ?_
   refine Q.condO ?_ ?_
   ·all_goals exact hret _
   all_goals exact ih25 _ ⟨by omega, by omega⟩
  rw [List.drop_of_length_le (by omega), Z44_q25]
  refine Q.condF (Q.ltF hlt) ?_
  exact hend n25 s4_26
def Z44_q10  : List TDir → Option (Unit ⊕ Bool)
 | [] => some (Sum.inl ())
 | h10 :: r10 => on (h10) fun x19 => on (Z21_q x19.FName) fun x20 => on (bif !(!x20) then h10 else TDir.zero) fun x21 => bif ((!x20) || (decide ((16 : Int) < ((x21.FArgs.l.length : Nat) : Int)))) then (some (Sum.inr false)) else (Option.bind (Z44_q25 h10 h10.FArgs.l ) fun o25 => match o25 with | Sum.inl _ => (on (()) fun _ => Z44_q10  (r10) ) | Sum.inr e25 => (some (Sum.inr e25)))
theorem Z44_l10_qe {a0 : (Sl TDir)}  (Kb10 : (Unit ⊕ Bool) → Option Bool) (hend : ∀ (n10 : Nat) (s3_11 : Nat), Z44_j7    = Kb10 (Sum.inl ())) (hret : ∀ e : Bool, some e = Kb10 (Sum.inr e)) : ∀ (n10 : Nat) (s3_11 : Nat), (0 < n10 ∧ a0.l.length < s3_11 + n10) → Z44_l10 a0 n10 s3_11 = Option.bind (Z44_q10  (a0.l.drop s3_11) ) Kb10 := by
 intro n10
 induction n10 with
 | zero => intro s3_11 hn; exact absurd hn.1 (by omega)
 | succ n10 ih10 =>
  intro s3_11 hn
  rw [Z44_l10]
  by_cases hlt : s3_11 < a0.l.length
  ·obtain ⟨h10, hh10⟩ : ∃ x, a0.l[s3_11]? = some x := ⟨_, List.getElem?_eq_getElem hlt⟩
   rw [Q.drop_of hh10, Z44_q10]
   refine Q.condT (Q.ltT hlt) ?_
   refine Q.bindPO hh10 fun x19 hx_x19 => ?_
   refine Q.bindPO (Z21_eq _) fun x20 hx_x20 => ?_
   refine Q.guardPO hh10 fun x21 hx_x21 => ?_
   refine Q.condO ?_ ?_
   ·all_goals exact hret _
   refine Q.wrapOO fun Kb25 hKb25 => ?_
   refine Z44_l25_qe hh10 Kb25 ?_ ?_ _ _ ⟨by rw [hh10]; exact Nat.succ_pos _, by rw [hh10]; simp only [Option.elim]; omega⟩
   ·intro n25 s4_26
    refine Eq.trans ?_ (hKb25 _).symm
    try dsimp only
    refine Q.wrapPO fun Kj16 hKj16 => ?_
    have hj16 : Z44_j16 s3_11 (Z44_l10 a0 n10)  = Kj16 () := by
     refine Eq.trans ?_ (hKj16 _).symm
     unfold Z44_j16
     all_goals exact ih10 _ ⟨by omega, by omega⟩
    all_goals exact hj16
   intro e25
   refine Eq.trans ?_ (hKb25 _).symm
   try dsimp only
   all_goals exact hret _
  rw [List.drop_of_length_le (by omega), Z44_q10]
  refine Q.condF (Q.ltF hlt) ?_
  exact hend n10 s3_11
def Z44_q (a0 : (Sl TDir)) : Option Bool := bif (decide ((16 : Int) < ((a0.l.length : Nat) : Int))) then (some false) else (Option.bind (Z44_q10  a0.l ) fun o10 => match o10 with | Sum.inl _ => (on (()) fun _ => some true) | Sum.inr e10 => (some e10))
theorem Z44_eq (a0 : (Sl TDir)) : Z44 a0 = Z44_q a0 := by
 unfold Z44 Z44_q
 refine Eq.trans ?_ (Q.some_bind _)
 refine Q.condO ?_ ?_
 ·all_goals rfl
 refine Q.wrapOO fun Kb10 hKb10 => ?_
 refine Z44_l10_qe  Kb10 ?_ ?_ _ _ ⟨Nat.succ_pos _, by omega⟩
 ·intro n10 s3_11
  refine Eq.trans ?_ (hKb10 _).symm
  try dsimp only
  refine Q.wrapPO fun Kj7 hKj7 => ?_
  have hj7 : Z44_j7   = Kj7 () := by
   refine Eq.trans ?_ (hKj7 _).symm
   unfold Z44_j7
   all_goals rfl
  all_goals exact hj7
 intro e10
 refine Eq.trans ?_ (hKb10 _).symm
 try dsimp only
 all_goals rfl
def Z38_q10 (a0 : TRef) : List Int → Nat → Option (Unit ⊕ Bool)
 | [], s3_11 => some (Sum.inl ())
 | h10 :: r10, s3_11 => on (h10) fun x19 => on (bif (!decide (x19 = (1 : Int))) then h10 else (0 : Int)) fun x20 => bif ((!decide (x19 = (1 : Int))) && (!decide (x20 = (2 : Int)))) then (some (Sum.inr false)) else (on (bif (decide ((0 : Int) < ((s3_11 : Nat) : Int))) then h10 else (0 : Int)) fun x24 => guardO (((decide ((0 : Int) < ((s3_11 : Nat) : Int))) && (decide (x24 = (1 : Int))))) (subC ((s3_11 : Nat) : Int) (1 : Int)) (0 : Int) fun x25 => guardO (((decide ((0 : Int) < ((s3_11 : Nat) : Int))) && (decide (x24 = (1 : Int))))) (idxC a0.FWraps.l x25) (0 : Int) fun x26 => bif (((decide ((0 : Int) < ((s3_11 : Nat) : Int))) && (decide (x24 = (1 : Int)))) && (decide (x26 = (1 : Int)))) then (some (Sum.inr false)) else (Z38_q10 a0 (r10) (s3_11 + 1) ))
theorem Z38_l10_qe {a0 : TRef}  (Kb10 : (Unit ⊕ Bool) → Option Bool) (hend : ∀ (n10 : Nat) (s3_11 : Nat), Z38_j7    = Kb10 (Sum.inl ())) (hret : ∀ e : Bool, some e = Kb10 (Sum.inr e)) : ∀ (n10 : Nat) (s3_11 : Nat), (0 < n10 ∧ a0.FWraps.l.length < s3_11 + n10) → Z38_l10 a0 n10 s3_11 = Option.bind (Z38_q10 a0 (a0.FWraps.l.drop s3_11) s3_11 ) Kb10 := by
 intro n10
 induction n10 with
 | zero => intro s3_11 hn; exact absurd hn.1 (by omega)
 | succ n10 ih10 =>
  intro s3_11 hn
  rw [Z38_l10]
  by_cases hlt : s3_11 < a0.FWraps.l.length
  ·obtain ⟨h10, hh10⟩ : ∃ x, a0.FWraps.l[s3_11]? = some x := ⟨_, List.getElem?_eq_getElem hlt⟩
   rw [Q.drop_of hh10, Z38_q10]
   refine Q.condT (Q.ltT hlt) ?_
   refine Q.bindPO hh10 fun x19 hx_x19 => ?_
   refine Q.guardPO hh10 fun x20 hx_x20 => ?_
   refine Q.condO ?_ ?_
   ·all_goals exact hret _
   refine Q.guardPO hh10 fun x24 hx_x24 => ?_
   refine Q.guardOO rfl fun x25 => ?_
   refine Q.guardOO rfl fun x26 => ?_
   refine Q.condO ?_ ?_
   ·all_goals exact hret _
   all_goals exact ih10 _ ⟨by omega, by omega⟩
  rw [List.drop_of_length_le (by omega), Z38_q10]
  refine Q.condF (Q.ltF hlt) ?_
  exact hend n10 s3_11
def Z38_q (a0 : TRef) : Option Bool := on (Z21_q a0.FName) fun x4 => bif ((!x4) || (decide ((24 : Int) < ((a0.FWraps.l.length : Nat) : Int)))) then (some false) else (Option.bind (Z38_q10 a0 a0.FWraps.l 0 ) fun o10 => match o10 with | Sum.inl _ => (on (()) fun _ => some true) | Sum.inr e10 => (some e10))
theorem Z38_eq (a0 : TRef) : Z38 a0 = Z38_q a0 := by
 unfold Z38 Z38_q
 refine Eq.trans ?_ (Q.some_bind _)
 refine Q.bindPO (Z21_eq _) fun x4 hx_x4 => ?_
 refine Q.condO ?_ ?_
 ·all_goals rfl
 refine Q.wrapOO fun Kb10 hKb10 => ?_
 refine Z38_l10_qe  Kb10 ?_ ?_ _ _ ⟨Nat.succ_pos _, by omega⟩
 ·intro n10 s3_11
  refine Eq.trans ?_ (hKb10 _).symm
  try dsimp only
  refine Q.wrapPO fun Kj7 hKj7 => ?_
  have hj7 : Z38_j7   = Kj7 () := by
   refine Eq.trans ?_ (hKj7 _).symm
   unfold Z38_j7
   all_goals rfl
  all_goals exact hj7
 intro e10
 refine Eq.trans ?_ (hKb10 _).symm
 try dsimp only
 all_goals rfl
def Z48_q (a0 : TValue) : Bool := (((((decide (a0.FKind = (0 : Int))) && (decide (a0.FInt = (0 : Int)))) && ((a0.FText == ([] : Bs)))) && (decide (((a0.FItems.l.length : Nat) : Int) = (0 : Int)))) && (decide (((a0.FKeys.l.length : Nat) : Int) = (0 : Int))))
theorem Z48_eq (a0 : TValue) : Z48 a0 = some (Z48_q a0) := by
 unfold Z48 Z48_q
 all_goals rfl
def Z46_q10  : List TInput → Option (Unit ⊕ Bool)
 | [] => some (Sum.inl ())
 | h10 :: r10 => on (h10) fun x18 => on (Z21_q x18.FName) fun x21 => guardO (!(!x21)) (Z38_q x18.FType) false fun x22 => guardO (!((!x21) || (!x22))) (Z44_q x18.FDirs) false fun x23 => bif (((!x21) || (!x22)) || (!x23)) then (some (Sum.inr false)) else (guardO (x18.FHas) (Z27_q x18.FDefault) false fun x27 => guardO ((x18.FHas && !(!x27))) (Z42_q x18.FDefault) false fun x28 => on (bif (!(x18.FHas && ((!x27) || (!x28))) && (!x18.FHas)) then Z48_q x18.FDefault else false) fun x29 => bif ((x18.FHas && ((!x27) || (!x28))) || ((!x18.FHas) && (!x29))) then (some (Sum.inr false)) else (Z46_q10  (r10) ))
theorem Z46_l10_qe {a0 : (Sl TInput)}  (Kb10 : (Unit ⊕ Bool) → Option Bool) (hend : ∀ (n10 : Nat) (s3_11 : Nat), Z46_j7    = Kb10 (Sum.inl ())) (hret : ∀ e : Bool, some e = Kb10 (Sum.inr e)) : ∀ (n10 : Nat) (s3_11 : Nat), (0 < n10 ∧ a0.l.length < s3_11 + n10) → Z46_l10 a0 n10 s3_11 = Option.bind (Z46_q10  (a0.l.drop s3_11) ) Kb10 := by
 intro n10
 induction n10 with
 | zero => intro s3_11 hn; exact absurd hn.1 (by omega)
 | succ n10 ih10 =>
  intro s3_11 hn
  rw [Z46_l10]
  by_cases hlt : s3_11 < a0.l.length
  ·obtain ⟨h10, hh10⟩ : ∃ x, a0.l[s3_11]? = some x := ⟨_, List.getElem?_eq_getElem hlt⟩
   rw [Q.drop_of hh10, Z46_q10]
   refine Q.condT (Q.ltT hlt) ?_
   refine Q.bindPO hh10 fun x18 hx_x18 => ?_
   refine Q.bindPO (Z21_eq _) fun x21 hx_x21 => ?_
   refine Q.guardOO (Z38_eq _) fun x22 => ?_
   refine Q.guardOO (Z44_eq _) fun x23 => ?_
   refine Q.condO ?_ ?_
   ·all_goals exact hret _
   refine Q.guardOO (Z27_eq _) fun x27 => ?_
   refine Q.guardOO (Z42_eq _) fun x28 => ?_
   refine Q.guardPO (Z48_eq _) fun x29 hx_x29 => ?_
   refine Q.condO ?_ ?_
   ·all_goals exact hret _
   all_goals exact ih10 _ ⟨by omega, by omega⟩
  rw [List.drop_of_length_le (by omega), Z46_q10]
  refine Q.condF (Q.ltF hlt) ?_
  exact hend n10 s3_11
def Z46_q (a0 : (Sl TInput)) : Option Bool := bif (decide ((16 : Int) < ((a0.l.length : Nat) : Int))) then (some false) else (Option.bind (Z46_q10  a0.l ) fun o10 => match o10 with | Sum.inl _ => (on (()) fun _ => some true) | Sum.inr e10 => (some e10))
theorem Z46_eq (a0 : (Sl TInput)) : Z46 a0 = Z46_q a0 := by
 unfold Z46 Z46_q
 refine Eq.trans ?_ (Q.some_bind _)
 refine Q.condO ?_ ?_
 ·all_goals rfl
 refine Q.wrapOO fun Kb10 hKb10 => ?_
 refine Z46_l10_qe  Kb10 ?_ ?_ _ _ ⟨Nat.succ_pos _, by omega⟩
 ·intro n10 s3_11
  refine Eq.trans ?_ (hKb10 _).symm
  try dsimp only
  refine Q.wrapPO fun Kj7 hKj7 => ?_
  have hj7 : Z46_j7   = Kj7 () := by
   refine Eq.trans ?_ (hKj7 _).symm
   unfold Z46_j7
   all_goals rfl
  all_goals exact hj7
 intro e10
 refine Eq.trans ?_ (hKb10 _).symm
 try dsimp only
 all_goals rfl
def Z45_q10  : List TField → Option (Unit ⊕ Bool)
 | [] => some (Sum.inl ())
 | h10 :: r10 => on (h10) fun x18 => on (Z21_q x18.FName) fun x19 => on (bif !(!x19) then h10 else TField.zero) fun x20 => guardO (!(!x19)) (Z46_q x20.FArgs) false fun x21 => on (bif !((!x19) || (!x21)) then h10 else TField.zero) fun x22 => guardO (!((!x19) || (!x21))) (Z38_q x22.FType) false fun x23 => on (bif !(((!x19) || (!x21)) || (!x23)) then h10 else TField.zero) fun x24 => guardO (!(((!x19) || (!x21)) || (!x23))) (Z44_q x24.FDirs) false fun x25 => bif ((((!x19) || (!x21)) || (!x23)) || (!x25)) then (some (Sum.inr false)) else (Z45_q10  (r10) )
theorem Z45_l10_qe {a0 : (Sl TField)}  (Kb10 : (Unit ⊕ Bool) → Option Bool) (hend : ∀ (n10 : Nat) (s3_11 : Nat), Z45_j7    = Kb10 (Sum.inl ())) (hret : ∀ e : Bool, some e = Kb10 (Sum.inr e)) : ∀ (n10 : Nat) (s3_11 : Nat), (0 < n10 ∧ a0.l.length < s3_11 + n10) → Z45_l10 a0 n10 s3_11 = Option.bind (Z45_q10  (a0.l.drop s3_11) ) Kb10 := by
 intro n10
 induction n10 with
 | zero => intro s3_11 hn; exact absurd hn.1 (by omega)
 | succ n10 ih10 =>
  intro s3_11 hn
  rw [Z45_l10]
  by_cases hlt : s3_11 < a0.l.length
  ·obtain ⟨h10, hh10⟩ : ∃ x, a0.l[s3_11]? = some x := ⟨_, List.getElem?_eq_getElem hlt⟩
   rw [Q.drop_of hh10, Z45_q10]
   refine Q.condT (Q.ltT hlt) ?_
   refine Q.bindPO hh10 fun x18 hx_x18 => ?_
   refine Q.bindPO (Z21_eq _) fun x19 hx_x19 => ?_
   refine Q.guardPO hh10 fun x20 hx_x20 => ?_
   refine Q.guardOO (Z46_eq _) fun x21 => ?_
   refine Q.guardPO hh10 fun x22 hx_x22 => ?_
   refine Q.guardOO (Z38_eq _) fun x23 => ?_
   refine Q.guardPO hh10 fun x24 hx_x24 => ?_
   refine Q.guardOO (Z44_eq _) fun x25 => ?_
   refine Q.condO ?_ ?_
   ·all_goals exact hret _
   all_goals exact ih10 _ ⟨by omega, by omega⟩
  rw [List.drop_of_length_le (by omega), Z45_q10]
  refine Q.condF (Q.ltF hlt) ?_
  exact hend n10 s3_11
def Z45_q (a0 : (Sl TField)) : Option Bool := bif ((decide (((a0.l.length : Nat) : Int) < (1 : Int))) || (decide ((64 : Int) < ((a0.l.length : Nat) : Int)))) then (some false) else (Option.bind (Z45_q10  a0.l ) fun o10 => match o10 with | Sum.inl _ => (on (()) fun _ => some true) | Sum.inr e10 => (some e10))
theorem Z45_eq (a0 : (Sl TField)) : Z45 a0 = Z45_q a0 := by
 unfold Z45 Z45_q
 refine Eq.trans ?_ (Q.some_bind _)
 refine Q.condO ?_ ?_
 ·all_goals rfl
 refine Q.wrapOO fun Kb10 hKb10 => ?_
 refine Z45_l10_qe  Kb10 ?_ ?_ _ _ ⟨Nat.succ_pos _, by omega⟩
 ·intro n10 s3_11
  refine Eq.trans ?_ (hKb10 _).symm
  try dsimp only
  refine Q.wrapPO fun Kj7 hKj7 => ?_
  have hj7 : Z45_j7   = Kj7 () := by
   refine Eq.trans ?_ (hKj7 _).symm
   unfold Z45_j7
   all_goals rfl
  all_goals exact hj7
 intro e10
 refine Eq.trans ?_ (hKb10 _).symm
 try dsimp only
 all_goals rfl
def Z47_q10 (a1 : Bool) : List TMember → Option (Unit ⊕ Bool)
 | [] => some (Sum.inl ())
 | h10 :: r10 => on (h10) fun x18 => on (Z21_q x18.FName) fun x19 => on (bif !(!x19) then h10 else TMember.zero) fun x20 => guardO (!(!x19)) (Z44_q x20.FDirs) false fun x21 => on (bif (!((!x19) || (!x21)) && a1) then h10 else TMember.zero) fun x22 => bif (((!x19) || (!x21)) || (a1 && (decide ((0 : Int) < ((x22.FDirs.l.length : Nat) : Int))))) then (some (Sum.inr false)) else (Z47_q10 a1 (r10) )
theorem Z47_l10_qe {a0 : (Sl TMember)} {a1 : Bool}  (Kb10 : (Unit ⊕ Bool) → Option Bool) (hend : ∀ (n10 : Nat) (s5_11 : Nat), Z47_j7    = Kb10 (Sum.inl ())) (hret : ∀ e : Bool, some e = Kb10 (Sum.inr e)) : ∀ (n10 : Nat) (s5_11 : Nat), (0 < n10 ∧ a0.l.length < s5_11 + n10) → Z47_l10 a0 a1 n10 s5_11 = Option.bind (Z47_q10 a1 (a0.l.drop s5_11) ) Kb10 := by
 intro n10
 induction n10 with
 | zero => intro s5_11 hn; exact absurd hn.1 (by omega)
 | succ n10 ih10 =>
  intro s5_11 hn
  rw [Z47_l10]
  by_cases hlt : s5_11 < a0.l.length
  ·obtain ⟨h10, hh10⟩ : ∃ x, a0.l[s5_11]? = some x := ⟨_, List.getElem?_eq_getElem hlt⟩
   rw [Q.drop_of hh10, Z47_q10]
   refine Q.condT (Q.ltT hlt) ?_
   refine Q.bindPO hh10 fun x18 hx_x18 => ?_
   refine Q.bindPO (Z21_eq _) fun x19 hx_x19 => ?_
   refine Q.guardPO hh10 fun x20 hx_x20 => ?_
   refine Q.guardOO (Z44_eq _) fun x21 => ?_
   refine Q.guardPO hh10 fun x22 hx_x22 => ?_
   refine Q.condO ?_ ?_
   ·all_goals exact hret _
   all_goals exact ih10 _ ⟨by omega, by omega⟩
  rw [List.drop_of_length_le (by omega), Z47_q10]
  refine Q.condF (Q.ltF hlt) ?_
  exact hend n10 s5_11
def Z47_q (a0 : (Sl TMember)) (a1 : Bool) : Option Bool := bif ((decide (((a0.l.length : Nat) : Int) < (1 : Int))) || (decide ((64 : Int) < ((a0.l.length : Nat) : Int)))) then (some false) else (Option.bind (Z47_q10 a1 a0.l ) fun o10 => match o10 with | Sum.inl _ => (on (()) fun _ => some true) | Sum.inr e10 => (some e10))
theorem Z47_eq (a0 : (Sl TMember)) (a1 : Bool) : Z47 a0 a1 = Z47_q a0 a1 := by
 unfold Z47 Z47_q
 refine Eq.trans ?_ (Q.some_bind _)
 refine Q.condO ?_ ?_
 ·all_goals rfl
 refine Q.wrapOO fun Kb10 hKb10 => ?_
 refine Z47_l10_qe  Kb10 ?_ ?_ _ _ ⟨Nat.succ_pos _, by omega⟩
 ·intro n10 s5_11
  refine Eq.trans ?_ (hKb10 _).symm
  try dsimp only
  refine Q.wrapPO fun Kj7 hKj7 => ?_
  have hj7 : Z47_j7   = Kj7 () := by
   refine Eq.trans ?_ (hKj7 _).symm
   unfold Z47_j7
   all_goals rfl
  all_goals exact hj7
 intro e10
 refine Eq.trans ?_ (hKb10 _).symm
 try dsimp only
 all_goals rfl
def Z43_q34  : List Bs → Unit ⊕ Bool
 | [] => Sum.inl ()
 | h34 :: r34 => on (h34) fun x42 => on (Z21_q x42) fun x43 => bif (!x43) then (Sum.inr false) else (Z43_q34  (r34) )
theorem Z43_l34_qe {a0 : TDef}  (Kb34 : (Unit ⊕ Bool) → Option Bool) (hend : ∀ (n34 : Nat) (s3_35 : Nat), Z43_j8 a0   = Kb34 (Sum.inl ())) (hret : ∀ e : Bool, some e = Kb34 (Sum.inr e)) : ∀ (n34 : Nat) (s3_35 : Nat), (0 < n34 ∧ a0.FImplements.l.length < s3_35 + n34) → Z43_l34 a0 n34 s3_35 = Kb34 (Z43_q34  (a0.FImplements.l.drop s3_35) ) := by
 intro n34
 induction n34 with
 | zero => intro s3_35 hn; exact absurd hn.1 (by omega)
 | succ n34 ih34 =>
  intro s3_35 hn
  rw [Z43_l34]
  by_cases hlt : s3_35 < a0.FImplements.l.length
  ·obtain ⟨h34, hh34⟩ : ∃ x, a0.FImplements.l[s3_35]? = some x := ⟨_, List.getElem?_eq_getElem hlt⟩
   rw [Q.drop_of hh34, Z43_q34]
   refine Q.condT (Q.ltT hlt) ?_
   refine Q.bindP hh34 fun x42 hx_x42 => ?_
   refine Q.bindP (Z21_eq _) fun x43 hx_x43 => ?_
   refine Q.condP ?_ ?_
   ·all_goals exact hret _
   all_goals exact ih34 _ ⟨by omega, by omega⟩
  rw [List.drop_of_length_le (by omega), Z43_q34]
  refine Q.condF (Q.ltF hlt) ?_
  exact hend n34 s3_35
def Z43_q (a0 : TDef) : Option Bool := on (Z21_q a0.FName) fun x4 => guardO (!(!x4)) (Z44_q a0.FDirs) false fun x5 => bif (((!x4) || (!x5)) || (decide ((64 : Int) < ((a0.FImplements.l.length : Nat) : Int)))) then (some false) else (on (Z43_q34  a0.FImplements.l ) fun o34 => match o34 with | Sum.inl _ => (on (()) fun _ => bif (decide (a0.FKind = (1 : Int))) then ((Z45_q a0.FFields).bind fun x15 => some ((x15 && (decide (((a0.FMembers.l.length : Nat) : Int) = (0 : Int)))) && (decide (((a0.FInputs.l.length : Nat) : Int) = (0 : Int))))) else (bif (decide (a0.FKind = (2 : Int))) then (guardO ((decide (((a0.FImplements.l.length : Nat) : Int) = (0 : Int)))) (Z45_q a0.FFields) false fun x19 => some ((((decide (((a0.FImplements.l.length : Nat) : Int) = (0 : Int))) && x19) && (decide (((a0.FMembers.l.length : Nat) : Int) = (0 : Int)))) && (decide (((a0.FInputs.l.length : Nat) : Int) = (0 : Int))))) else (bif (decide (a0.FKind = (3 : Int))) then (guardO (((decide (((a0.FImplements.l.length : Nat) : Int) = (0 : Int))) && (decide (((a0.FFields.l.length : Nat) : Int) = (0 : Int))))) (Z47_q a0.FMembers true) false fun x23 => some ((((decide (((a0.FImplements.l.length : Nat) : Int) = (0 : Int))) && (decide (((a0.FFields.l.length : Nat) : Int) = (0 : Int)))) && x23) && (decide (((a0.FInputs.l.length : Nat) : Int) = (0 : Int))))) else (bif (decide (a0.FKind = (4 : Int))) then (guardO (((decide (((a0.FImplements.l.length : Nat) : Int) = (0 : Int))) && (decide (((a0.FFields.l.length : Nat) : Int) = (0 : Int))))) (Z47_q a0.FMembers false) false fun x27 => some ((((decide (((a0.FImplements.l.length : Nat) : Int) = (0 : Int))) && (decide (((a0.FFields.l.length : Nat) : Int) = (0 : Int)))) && x27) && (decide (((a0.FInputs.l.length : Nat) : Int) = (0 : Int))))) else (bif (decide (a0.FKind = (5 : Int))) then (guardO (((((decide (((a0.FImplements.l.length : Nat) : Int) = (0 : Int))) && (decide (((a0.FFields.l.length : Nat) : Int) = (0 : Int)))) && (decide (((a0.FMembers.l.length : Nat) : Int) = (0 : Int)))) && (decide ((0 : Int) < ((a0.FInputs.l.length : Nat) : Int))))) (Z46_q a0.FInputs) false fun x31 => some (((((decide (((a0.FImplements.l.length : Nat) : Int) = (0 : Int))) && (decide (((a0.FFields.l.length : Nat) : Int) = (0 : Int)))) && (decide (((a0.FMembers.l.length : Nat) : Int) = (0 : Int)))) && (decide ((0 : Int) < ((a0.FInputs.l.length : Nat) : Int)))) && x31)) else (some false)))))) | Sum.inr e34 => (some e34))
theorem Z43_eq (a0 : TDef) : Z43 a0 = Z43_q a0 := by
 unfold Z43 Z43_q
 refine Eq.trans ?_ (Q.some_bind _)
 refine Q.bindPO (Z21_eq _) fun x4 hx_x4 => ?_
 refine Q.guardOO (Z44_eq _) fun x5 => ?_
 refine Q.condO ?_ ?_
 ·all_goals rfl
 refine Q.wrapPO fun Kb34 hKb34 => ?_
 refine Z43_l34_qe  Kb34 ?_ ?_ _ _ ⟨Nat.succ_pos _, by omega⟩
 ·intro n34 s3_35
  refine Eq.trans ?_ (hKb34 _).symm
  try dsimp only
  refine Q.wrapPO fun Kj8 hKj8 => ?_
  have hj8 : Z43_j8 a0  = Kj8 () := by
   refine Eq.trans ?_ (hKj8 _).symm
   unfold Z43_j8
   refine Q.condO ?_ ?_
   ·refine Q.bindO (Z45_eq _) fun x15 => ?_
    all_goals rfl
   refine Q.condO ?_ ?_
   ·refine Q.guardOO (Z45_eq _) fun x19 => ?_
    all_goals rfl
   refine Q.condO ?_ ?_
   ·refine Q.guardOO (Z47_eq _ _) fun x23 => ?_
    all_goals rfl
   refine Q.condO ?_ ?_
   ·refine Q.guardOO (Z47_eq _ _) fun x27 => ?_
    all_goals rfl
   refine Q.condO ?_ ?_
   ·refine Q.guardOO (Z46_eq _) fun x31 => ?_
    all_goals rfl
   all_goals rfl
  all_goals exact hj8
 intro e34
 refine Eq.trans ?_ (hKb34 _).symm
 try dsimp only
 all_goals rfl
def Z40_q10  : List TDef → Option (Unit ⊕ Bool)
 | [] => some (Sum.inl ())
 | h10 :: r10 => on (h10) fun x18 => (Z43_q x18).bind fun x19 => bif (!x19) then (some (Sum.inr false)) else (Z40_q10  (r10) )
theorem Z40_l10_qe {a0 : TDoc}  (Kb10 : (Unit ⊕ Bool) → Option Bool) (hend : ∀ (n10 : Nat) (s3_11 : Nat), Z40_j7    = Kb10 (Sum.inl ())) (hret : ∀ e : Bool, some e = Kb10 (Sum.inr e)) : ∀ (n10 : Nat) (s3_11 : Nat), (0 < n10 ∧ a0.FDefs.l.length < s3_11 + n10) → Z40_l10 a0 n10 s3_11 = Option.bind (Z40_q10  (a0.FDefs.l.drop s3_11) ) Kb10 := by
 intro n10
 induction n10 with
 | zero => intro s3_11 hn; exact absurd hn.1 (by omega)
 | succ n10 ih10 =>
  intro s3_11 hn
  rw [Z40_l10]
  by_cases hlt : s3_11 < a0.FDefs.l.length
  ·obtain ⟨h10, hh10⟩ : ∃ x, a0.FDefs.l[s3_11]? = some x := ⟨_, List.getElem?_eq_getElem hlt⟩
   rw [Q.drop_of hh10, Z40_q10]
   refine Q.condT (Q.ltT hlt) ?_
   refine Q.bindPO hh10 fun x18 hx_x18 => ?_
   refine Q.bindO (Z43_eq _) fun x19 => ?_
   refine Q.condO ?_ ?_
   ·all_goals exact hret _
   all_goals exact ih10 _ ⟨by omega, by omega⟩
  rw [List.drop_of_length_le (by omega), Z40_q10]
  refine Q.condF (Q.ltF hlt) ?_
  exact hend n10 s3_11
def Z40_q (a0 : TDoc) : Option Bool := bif ((decide (((a0.FDefs.l.length : Nat) : Int) < (1 : Int))) || (decide ((64 : Int) < ((a0.FDefs.l.length : Nat) : Int)))) then (some false) else (Option.bind (Z40_q10  a0.FDefs.l ) fun o10 => match o10 with | Sum.inl _ => (on (()) fun _ => some true) | Sum.inr e10 => (some e10))
theorem Z40_eq (a0 : TDoc) : Z40 a0 = Z40_q a0 := by
 unfold Z40 Z40_q
 refine Eq.trans ?_ (Q.some_bind _)
 refine Q.condO ?_ ?_
 ·all_goals rfl
 refine Q.wrapOO fun Kb10 hKb10 => ?_
 refine Z40_l10_qe  Kb10 ?_ ?_ _ _ ⟨Nat.succ_pos _, by omega⟩
 ·intro n10 s3_11
  refine Eq.trans ?_ (hKb10 _).symm
  try dsimp only
  refine Q.wrapPO fun Kj7 hKj7 => ?_
  have hj7 : Z40_j7   = Kj7 () := by
   refine Eq.trans ?_ (hKj7 _).symm
   unfold Z40_j7
   all_goals rfl
  all_goals exact hj7
 intro e10
 refine Eq.trans ?_ (hKb10 _).symm
 try dsimp only
 all_goals rfl
def Z2_q (a0 : TInput) (a1 : Bs) (a2 : TDoc) (a3 : (Sl TFault)) : Option (Sl TFault) := bif (!a0.FHas) then (some a3) else ((Z4_q a2 a0.FType a0.FDefault (TValue.mk (0 : Int) (0 : Int) ([] : Bs) true ([]) (Sl.nil : Sl Bs))).bind fun x6 => bif (!decide (x6.2 = (0 : Int))) then ((appC 24 a3 (⟨false, [(TFault.mk (23 : Int) a1)]⟩ : Sl TFault)).bind fun x9 => some x9) else (some a3))
theorem Z2_eq (a0 : TInput) (a1 : Bs) (a2 : TDoc) (a3 : (Sl TFault)) : Z2 a0 a1 a2 a3 = Z2_q a0 a1 a2 a3 := by
 unfold Z2 Z2_q
 refine Eq.trans ?_ (Q.some_bind _)
 refine Q.condO ?_ ?_
 ·all_goals rfl
 refine Q.bindO (Z4_eq _ _ _ _) fun x6 => ?_
 refine Q.condO ?_ ?_
 ·refine Q.bindO rfl fun x9 => ?_
  all_goals rfl
 all_goals rfl
def Z1_q51 (a0 : TDoc) (x20 : TDef) (x48 : TField) : List TInput → (Sl TFault) → Option ((Sl TFault))
 | [], y53_id3_3 => some y53_id3_3
 | h51 :: r51, y53_id3_3 => on (h51) fun x59 => (catC x20.FName ([46] : Bs)).bind fun x60 => (catC x60 x48.FName).bind fun x61 => (catC x61 ([40] : Bs)).bind fun x62 => (catC x62 x59.FName).bind fun x63 => (catC x63 ([41] : Bs)).bind fun x64 => (Z2_q x59 x64 a0 y53_id3_3).bind fun x65 => Z1_q51 a0 x20 x48 (r51) x65
theorem Z1_l51_qe {a0 : TDoc} {x20 : TDef} {s24_40 : Nat} {x48 : TField} {k_next_39 : Nat → (Sl TFault) → Option (Sl TFault)}  (Kb51 : ((Sl TFault)) → Option (Sl TFault)) (hend : ∀ (n51 : Nat) (s31_52 : Nat) (y53_id3_3 : (Sl TFault)), Z1_j45 s24_40 k_next_39 y53_id3_3 = Kb51 y53_id3_3) : ∀ (n51 : Nat) (s31_52 : Nat) (y53_id3_3 : (Sl TFault)), (0 < n51 ∧ x48.FArgs.l.length < s31_52 + n51) → Z1_l51 a0 x20 s24_40 x48 k_next_39 n51 s31_52 y53_id3_3 = Option.bind (Z1_q51 a0 x20 x48 (x48.FArgs.l.drop s31_52) y53_id3_3) Kb51 := by
 intro n51
 induction n51 with
 | zero => intro s31_52 y53_id3_3 hn; exact absurd hn.1 (by omega)
 | succ n51 ih51 =>
  intro s31_52 y53_id3_3 hn
  rw [Z1_l51]
  by_cases hlt : s31_52 < x48.FArgs.l.length
  ·obtain ⟨h51, hh51⟩ : ∃ x, x48.FArgs.l[s31_52]? = some x := ⟨_, List.getElem?_eq_getElem hlt⟩
   rw [Q.drop_of hh51, Z1_q51]
   refine Q.condT (Q.ltT hlt) ?_
   refine Q.bindPO hh51 fun x59 hx_x59 => ?_
   refine Q.bindO rfl fun x60 => ?_
   refine Q.bindO rfl fun x61 => ?_
   refine Q.bindO rfl fun x62 => ?_
   refine Q.bindO rfl fun x63 => ?_
   refine Q.bindO rfl fun x64 => ?_
   refine Q.bindO (Z2_eq _ _ _ _) fun x65 => ?_
   all_goals exact ih51 _ _ ⟨by omega, by omega⟩
  rw [List.drop_of_length_le (by omega), Z1_q51]
  refine Q.condF (Q.ltF hlt) ?_
  exact hend n51 s31_52 y53_id3_3
def Z1_q39 (a0 : TDoc) (x20 : TDef) : List TField → (Sl TFault) → Option ((Sl TFault))
 | [], y41_id3_3 => some y41_id3_3
 | h39 :: r39, y41_id3_3 => on (h39) fun x48 => Option.bind (Z1_q51 a0 x20 x48 x48.FArgs.l y41_id3_3) fun y53_id3_3 => on (y53_id3_3) fun y46_id3_3 => Z1_q39 a0 x20 (r39) y46_id3_3
theorem Z1_l39_qe {a0 : TDoc} {s17_12 : Nat} {x20 : TDef} {k_next_11 : Nat → (Sl TFault) → Option (Sl TFault)}  (Kb39 : ((Sl TFault)) → Option (Sl TFault)) (hend : ∀ (n39 : Nat) (s24_40 : Nat) (y41_id3_3 : (Sl TFault)), Z1_j21 a0 s17_12 x20 k_next_11 y41_id3_3 = Kb39 y41_id3_3) : ∀ (n39 : Nat) (s24_40 : Nat) (y41_id3_3 : (Sl TFault)), (0 < n39 ∧ x20.FFields.l.length < s24_40 + n39) → Z1_l39 a0 s17_12 x20 k_next_11 n39 s24_40 y41_id3_3 = Option.bind (Z1_q39 a0 x20 (x20.FFields.l.drop s24_40) y41_id3_3) Kb39 := by
 intro n39
 induction n39 with
 | zero => intro s24_40 y41_id3_3 hn; exact absurd hn.1 (by omega)
 | succ n39 ih39 =>
  intro s24_40 y41_id3_3 hn
  rw [Z1_l39]
  by_cases hlt : s24_40 < x20.FFields.l.length
  ·obtain ⟨h39, hh39⟩ : ∃ x, x20.FFields.l[s24_40]? = some x := ⟨_, List.getElem?_eq_getElem hlt⟩
   rw [Q.drop_of hh39, Z1_q39]
   refine Q.condT (Q.ltT hlt) ?_
   refine Q.bindPO hh39 fun x48 hx_x48 => ?_
   refine Q.wrapOO fun Kb51 hKb51 => ?_
   refine Z1_l51_qe  Kb51 ?_ _ _ _ ⟨Nat.succ_pos _, by omega⟩
   intro n51 s31_52 y53_id3_3
   refine Eq.trans ?_ (hKb51 _).symm
   refine Q.wrapPO fun Kj45 hKj45 => ?_
   have hj45 : ∀ (y46_id3_3 : (Sl TFault)), Z1_j45 s24_40 (Z1_l39 a0 s17_12 x20 k_next_11 n39) y46_id3_3 = Kj45 y46_id3_3 := by
    intro y46_id3_3
    refine Eq.trans ?_ (hKj45 _).symm
    unfold Z1_j45
    all_goals exact ih39 _ _ ⟨by omega, by omega⟩
   all_goals exact hj45 _
  rw [List.drop_of_length_le (by omega), Z1_q39]
  refine Q.condF (Q.ltF hlt) ?_
  exact hend n39 s24_40 y41_id3_3
def Z1_q25 (a0 : TDoc) (x20 : TDef) : List TInput → (Sl TFault) → Option ((Sl TFault))
 | [], y27_id3_3 => some y27_id3_3
 | h25 :: r25, y27_id3_3 => on (h25) fun x33 => (catC x20.FName ([46] : Bs)).bind fun x34 => (catC x34 x33.FName).bind fun x35 => (Z2_q x33 x35 a0 y27_id3_3).bind fun x36 => Z1_q25 a0 x20 (r25) x36
theorem Z1_l25_qe {a0 : TDoc} {s17_12 : Nat} {x20 : TDef} {k_next_11 : Nat → (Sl TFault) → Option (Sl TFault)}  (Kb25 : ((Sl TFault)) → Option (Sl TFault)) (hend : ∀ (n25 : Nat) (s54_26 : Nat) (y27_id3_3 : (Sl TFault)), Z1_j17 s17_12 k_next_11 y27_id3_3 = Kb25 y27_id3_3) : ∀ (n25 : Nat) (s54_26 : Nat) (y27_id3_3 : (Sl TFault)), (0 < n25 ∧ x20.FInputs.l.length < s54_26 + n25) → Z1_l25 a0 s17_12 x20 k_next_11 n25 s54_26 y27_id3_3 = Option.bind (Z1_q25 a0 x20 (x20.FInputs.l.drop s54_26) y27_id3_3) Kb25 := by
 intro n25
 induction n25 with
 | zero => intro s54_26 y27_id3_3 hn; exact absurd hn.1 (by omega)
 | succ n25 ih25 =>
  intro s54_26 y27_id3_3 hn
  rw [Z1_l25]
  by_cases hlt : s54_26 < x20.FInputs.l.length
  ·obtain ⟨h25, hh25⟩ : ∃ x, x20.FInputs.l[s54_26]? = some x := ⟨_, List.getElem?_eq_getElem hlt⟩
   rw [Q.drop_of hh25, Z1_q25]
   refine Q.condT (Q.ltT hlt) ?_
   refine Q.bindPO hh25 fun x33 hx_x33 => ?_
   refine Q.bindO rfl fun x34 => ?_
   refine Q.bindO rfl fun x35 => ?_
   refine Q.bindO (Z2_eq _ _ _ _) fun x36 => ?_
   all_goals exact ih25 _ _ ⟨by omega, by omega⟩
  rw [List.drop_of_length_le (by omega), Z1_q25]
  refine Q.condF (Q.ltF hlt) ?_
  exact hend n25 s54_26 y27_id3_3
def Z1_q11 (a0 : TDoc) : List TDef → (Sl TFault) → Option ((Sl TFault))
 | [], y13_id3_3 => some y13_id3_3
 | h11 :: r11, y13_id3_3 => on (h11) fun x20 => Option.bind (Z1_q39 a0 x20 x20.FFields.l y13_id3_3) fun y41_id3_3 => on (y41_id3_3) fun y22_id3_3 => Option.bind (Z1_q25 a0 x20 x20.FInputs.l y22_id3_3) fun y27_id3_3 => on (y27_id3_3) fun y18_id3_3 => Z1_q11 a0 (r11) y18_id3_3
theorem Z1_l11_qe {a0 : TDoc}  (Kb11 : ((Sl TFault)) → Option (Sl TFault)) (hend : ∀ (n11 : Nat) (s17_12 : Nat) (y13_id3_3 : (Sl TFault)), Z1_j6   y13_id3_3 = Kb11 y13_id3_3) : ∀ (n11 : Nat) (s17_12 : Nat) (y13_id3_3 : (Sl TFault)), (0 < n11 ∧ a0.FDefs.l.length < s17_12 + n11) → Z1_l11 a0 n11 s17_12 y13_id3_3 = Option.bind (Z1_q11 a0 (a0.FDefs.l.drop s17_12) y13_id3_3) Kb11 := by
 intro n11
 induction n11 with
 | zero => intro s17_12 y13_id3_3 hn; exact absurd hn.1 (by omega)
 | succ n11 ih11 =>
  intro s17_12 y13_id3_3 hn
  rw [Z1_l11]
  by_cases hlt : s17_12 < a0.FDefs.l.length
  ·obtain ⟨h11, hh11⟩ : ∃ x, a0.FDefs.l[s17_12]? = some x := ⟨_, List.getElem?_eq_getElem hlt⟩
   rw [Q.drop_of hh11, Z1_q11]
   refine Q.condT (Q.ltT hlt) ?_
   refine Q.bindPO hh11 fun x20 hx_x20 => ?_
   refine Q.wrapOO fun Kb39 hKb39 => ?_
   refine Z1_l39_qe  Kb39 ?_ _ _ _ ⟨Nat.succ_pos _, by omega⟩
   intro n39 s24_40 y41_id3_3
   refine Eq.trans ?_ (hKb39 _).symm
   refine Q.wrapPO fun Kj21 hKj21 => ?_
   have hj21 : ∀ (y22_id3_3 : (Sl TFault)), Z1_j21 a0 s17_12 x20 (Z1_l11 a0 n11) y22_id3_3 = Kj21 y22_id3_3 := by
    intro y22_id3_3
    refine Eq.trans ?_ (hKj21 _).symm
    unfold Z1_j21
    refine Q.wrapOO fun Kb25 hKb25 => ?_
    refine Z1_l25_qe  Kb25 ?_ _ _ _ ⟨Nat.succ_pos _, by omega⟩
    intro n25 s54_26 y27_id3_3
    refine Eq.trans ?_ (hKb25 _).symm
    refine Q.wrapPO fun Kj17 hKj17 => ?_
    have hj17 : ∀ (y18_id3_3 : (Sl TFault)), Z1_j17 s17_12 (Z1_l11 a0 n11) y18_id3_3 = Kj17 y18_id3_3 := by
     intro y18_id3_3
     refine Eq.trans ?_ (hKj17 _).symm
     unfold Z1_j17
     all_goals exact ih11 _ _ ⟨by omega, by omega⟩
    all_goals exact hj17 _
   all_goals exact hj21 _
  rw [List.drop_of_length_le (by omega), Z1_q11]
  refine Q.condF (Q.ltF hlt) ?_
  exact hend n11 s17_12 y13_id3_3
def Z1_q (a0 : TDoc) : Option (Sl TFault) := Option.bind (Z1_q11 a0 a0.FDefs.l (Sl.nil : Sl TFault)) fun y13_id3_3 => on (y13_id3_3) fun y7_id3_3 => some y7_id3_3
theorem Z1_eq (a0 : TDoc) : Z1 a0 = Z1_q a0 := by
 unfold Z1 Z1_q
 refine Eq.trans ?_ (Q.some_bind _)
 refine Q.wrapOO fun Kb11 hKb11 => ?_
 refine Z1_l11_qe  Kb11 ?_ _ _ _ ⟨Nat.succ_pos _, by omega⟩
 intro n11 s17_12 y13_id3_3
 refine Eq.trans ?_ (hKb11 _).symm
 refine Q.wrapPO fun Kj6 hKj6 => ?_
 have hj6 : ∀ (y7_id3_3 : (Sl TFault)), Z1_j6  y7_id3_3 = Kj6 y7_id3_3 := by
  intro y7_id3_3
  refine Eq.trans ?_ (hKj6 _).symm
  unfold Z1_j6
  all_goals rfl
 all_goals exact hj6 _
def Z51_q6 (a1 : Bs) : List TDef → Unit ⊕ ((TDef × Bool))
 | [] => Sum.inl ()
 | h6 :: r6 => on (h6) fun x15 => bif ((x15.FName == a1)) then (on (h6) fun x18 => Sum.inr (x18, true)) else (Z51_q6 a1 (r6) )
theorem Z51_l6_qe {a0 : TDoc} {a1 : Bs}  (Kb6 : (Unit ⊕ ((TDef × Bool))) → Option (TDef × Bool)) (hend : ∀ (n6 : Nat) (s6_7 : Nat) (y8_l0 : TDef), Z51_j2   y8_l0 = Kb6 (Sum.inl ())) (hret : ∀ e : (TDef × Bool), some e = Kb6 (Sum.inr e)) : ∀ (n6 : Nat) (s6_7 : Nat) (y8_l0 : TDef), (0 < n6 ∧ a0.FDefs.l.length < s6_7 + n6) → Z51_l6 a0 a1 n6 s6_7 y8_l0 = Kb6 (Z51_q6 a1 (a0.FDefs.l.drop s6_7) ) := by
 intro n6
 induction n6 with
 | zero => intro s6_7 y8_l0 hn; exact absurd hn.1 (by omega)
 | succ n6 ih6 =>
  intro s6_7 y8_l0 hn
  rw [Z51_l6]
  by_cases hlt : s6_7 < a0.FDefs.l.length
  ·obtain ⟨h6, hh6⟩ : ∃ x, a0.FDefs.l[s6_7]? = some x := ⟨_, List.getElem?_eq_getElem hlt⟩
   rw [Q.drop_of hh6, Z51_q6]
   refine Q.condT (Q.ltT hlt) ?_
   refine Q.bindP hh6 fun x15 hx_x15 => ?_
   refine Q.condP ?_ ?_
   ·refine Q.bindP hh6 fun x18 hx_x18 => ?_
    all_goals exact hret _
   all_goals exact ih6 _ _ ⟨by omega, by omega⟩
  rw [List.drop_of_length_le (by omega), Z51_q6]
  refine Q.condF (Q.ltF hlt) ?_
  exact hend n6 s6_7 y8_l0
def Z51_q (a0 : TDoc) (a1 : Bs) : (TDef × Bool) := on (Z51_q6 a1 a0.FDefs.l ) fun o6 => match o6 with | Sum.inl _ => (on (()) fun _ => ((TDef.mk (0 : Int) ([] : Bs) (Sl.nil : Sl Bs) (Sl.nil : Sl TDir) (Sl.nil : Sl TField) (Sl.nil : Sl TMember) (Sl.nil : Sl TInput)), false)) | Sum.inr e6 => (e6)
theorem Z51_eq (a0 : TDoc) (a1 : Bs) : Z51 a0 a1 = some (Z51_q a0 a1) := by
 unfold Z51 Z51_q
 refine Q.wrapPP fun Kb6 hKb6 => ?_
 refine Z51_l6_qe  Kb6 ?_ ?_ _ _ _ ⟨Nat.succ_pos _, by omega⟩
 ·intro n6 s6_7 y8_l0
  refine Eq.trans ?_ (hKb6 _).symm
  try dsimp only
  refine Q.wrapPP fun Kj2 hKj2 => ?_
  have hj2 : ∀ (y3_l0 : TDef), Z51_j2  y3_l0 = Kj2 () := by
   intro y3_l0
   refine Eq.trans ?_ (hKj2 _).symm
   unfold Z51_j2
   all_goals rfl
  all_goals exact hj2 _
 intro e6
 refine Eq.trans ?_ (hKb6 _).symm
 try dsimp only
 all_goals rfl
def Z55_q (a0 : Bs) : Bool := (((((a0 == ([73, 110, 116] : Bs))) || ((a0 == ([83, 116, 114, 105, 110, 103] : Bs)))) || ((a0 == ([66, 111, 111, 108, 101, 97, 110] : Bs)))) || ((a0 == ([73, 68] : Bs))))
theorem Z55_eq (a0 : Bs) : Z55 a0 = some (Z55_q a0) := by
 unfold Z55 Z55_q
 all_goals rfl
def Z54_q (a0 : TDoc) (a1 : Bs) : Bool := on (Z51_q a0 a1) fun x3 => on (Z55_q a1) fun x5 => (x5 || (x3.2 && (decide (x3.1.FKind = (4 : Int)))))
theorem Z54_eq (a0 : TDoc) (a1 : Bs) : Z54 a0 a1 = some (Z54_q a0 a1) := by
 unfold Z54 Z54_q
 refine Q.bindP (Z51_eq _ _) fun x3 hx_x3 => ?_
 refine Q.bindP (Z55_eq _) fun x5 hx_x5 => ?_
 all_goals rfl
def Z53_q (a0 : TDoc) (a1 : Bs) : Bool := on (Z51_q a0 a1) fun x3 => on (Z54_q a0 a1) fun x5 => (x5 || (x3.2 && (decide (x3.1.FKind = (5 : Int)))))
theorem Z53_eq (a0 : TDoc) (a1 : Bs) : Z53 a0 a1 = some (Z53_q a0 a1) := by
 unfold Z53 Z53_q
 refine Q.bindP (Z51_eq _ _) fun x3 hx_x3 => ?_
 refine Q.bindP (Z54_eq _ _) fun x5 hx_x5 => ?_
 all_goals rfl
def Z29_q7 (k_rec_75 : TValue → Option TValue) : List TValue → (Sl TValue) → Option ((Sl TValue))
 | [], s3_8 => some s3_8
 | h7 :: r7, s3_8 => on (h7) fun x15 => (k_rec_75 x15).bind fun x16 => (appC 80 s3_8 (⟨false, [x16]⟩ : Sl TValue)).bind fun x17 => Z29_q7 k_rec_75 (r7) x17
theorem Z29_l7_qe {a0 : (Sl TValue)} {k_rec_75 : TValue → Option TValue}  (Kb7 : ((Sl TValue)) → Option (Sl TValue)) (hend : ∀ (n7 : Nat) (s3_8 : (Sl TValue)) (s4_9 : Nat), Z29_j3   s3_8 = Kb7 s3_8) : ∀ (n7 : Nat) (s3_8 : (Sl TValue)) (s4_9 : Nat), (0 < n7 ∧ a0.l.length < s4_9 + n7) → Z29_l7 a0 k_rec_75 n7 s3_8 s4_9 = Option.bind (Z29_q7 k_rec_75 (a0.l.drop s4_9) s3_8) Kb7 := by
 intro n7
 induction n7 with
 | zero => intro s3_8 s4_9 hn; exact absurd hn.1 (by omega)
 | succ n7 ih7 =>
  intro s3_8 s4_9 hn
  rw [Z29_l7]
  by_cases hlt : s4_9 < a0.l.length
  ·obtain ⟨h7, hh7⟩ : ∃ x, a0.l[s4_9]? = some x := ⟨_, List.getElem?_eq_getElem hlt⟩
   rw [Q.drop_of hh7, Z29_q7]
   refine Q.condT (Q.ltT hlt) ?_
   refine Q.bindPO hh7 fun x15 hx_x15 => ?_
   refine Q.bindO rfl fun x16 => ?_
   refine Q.bindO rfl fun x17 => ?_
   all_goals exact ih7 _ _ ⟨by omega, by omega⟩
  rw [List.drop_of_length_le (by omega), Z29_q7]
  refine Q.condF (Q.ltF hlt) ?_
  exact hend n7 s3_8 s4_9
mutual
def r02_Copy_qn : Nat → TValue → Option TValue
 | 0, _ => none
 | n + 1, a0 => ((Z29_qn n) a0.FItems).bind fun x3 => (appC 16 (⟨false, []⟩ : Sl Bs) a0.FKeys).bind fun x4 => some (TValue.mk a0.FKind a0.FInt a0.FText x3.nl x3.l x4)
def Z29_qn : Nat → (Sl TValue) → Option (Sl TValue)
 | 0, _ => none
 | n + 1, a0 => Option.bind (Z29_q7 (r02_Copy_qn n) a0.l (Sl.nil : Sl TValue)) fun s3_8 => on (s3_8) fun s3_4 => some s3_4
end
theorem r02_Copy_qall : ∀ n : Nat, r02_Copy_n n = r02_Copy_qn n ∧ Z29_n n = Z29_qn n := by
 intro n
 induction n with
 | zero => exact ⟨(by funext a0; first | rfl | (rw [r02_Copy_n, r02_Copy_qn])), (by funext a0; first | rfl | (rw [Z29_n, Z29_qn]))⟩
 | succ n ih =>
  refine ⟨?_, ?_⟩
  ·funext a0
   refine Eq.trans ?_ (Q.some_bind _)
   rw [r02_Copy_n, r02_Copy_qn]
   try rw [ih.1]
   try rw [ih.2]
   refine Q.bindO rfl fun x3 => ?_
   refine Q.bindO rfl fun x4 => ?_
   all_goals rfl
  funext a0
  refine Eq.trans ?_ (Q.some_bind _)
  rw [Z29_n, Z29_qn]
  try rw [ih.1]
  try rw [ih.2]
  refine Q.wrapOO fun Kb7 hKb7 => ?_
  refine Z29_l7_qe  Kb7 ?_ _ _ _ ⟨Nat.succ_pos _, by omega⟩
  intro n7 s3_8 s4_9
  refine Eq.trans ?_ (hKb7 _).symm
  refine Q.wrapPO fun Kj3 hKj3 => ?_
  have hj3 : ∀ (s3_4 : (Sl TValue)), Z29_j3  s3_4 = Kj3 s3_4 := by
   intro s3_4
   refine Eq.trans ?_ (hKj3 _).symm
   unfold Z29_j3
   all_goals rfl
  all_goals exact hj3 _
def r02_Copy_q (a0 : TValue) : Option TValue := r02_Copy_qn F0 a0
theorem r02_Copy_eq (a0 : TValue) : r02_Copy a0 = r02_Copy_q a0 := by
 unfold r02_Copy r02_Copy_q; rw [(r02_Copy_qall F0).1]
def Z26_q10 (a0 : TValue) (a1 : Bs) : List Bs → Nat → Option (Unit ⊕ ((TValue × Bool)))
 | [], s6_11 => some (Sum.inl ())
 | h10 :: r10, s6_11 => on (h10) fun x19 => bif ((x19 == a1)) then (bif (decide (((a0.FItems.l.length : Nat) : Int) ≤ ((s6_11 : Nat) : Int))) then (some (Sum.inr ((TValue.mk (0 : Int) (0 : Int) ([] : Bs) true ([]) (Sl.nil : Sl Bs)), false))) else ((a0.FItems.l[s6_11]?).bind fun x27 => (r02_Copy_q x27).bind fun x28 => some (Sum.inr (x28, true)))) else (Z26_q10 a0 a1 (r10) (s6_11 + 1) )
theorem Z26_l10_qe {a0 : TValue} {a1 : Bs}  (Kb10 : (Unit ⊕ ((TValue × Bool))) → Option (TValue × Bool)) (hend : ∀ (n10 : Nat) (s6_11 : Nat) (y12_l0 : TValue), Z26_j6   y12_l0 = Kb10 (Sum.inl ())) (hret : ∀ e : (TValue × Bool), some e = Kb10 (Sum.inr e)) : ∀ (n10 : Nat) (s6_11 : Nat) (y12_l0 : TValue), (0 < n10 ∧ a0.FKeys.l.length < s6_11 + n10) → Z26_l10 a0 a1 n10 s6_11 y12_l0 = Option.bind (Z26_q10 a0 a1 (a0.FKeys.l.drop s6_11) s6_11 ) Kb10 := by
 intro n10
 induction n10 with
 | zero => intro s6_11 y12_l0 hn; exact absurd hn.1 (by omega)
 | succ n10 ih10 =>
  intro s6_11 y12_l0 hn
  rw [Z26_l10]
  by_cases hlt : s6_11 < a0.FKeys.l.length
  ·obtain ⟨h10, hh10⟩ : ∃ x, a0.FKeys.l[s6_11]? = some x := ⟨_, List.getElem?_eq_getElem hlt⟩
   rw [Q.drop_of hh10, Z26_q10]
   refine Q.condT (Q.ltT hlt) ?_
   refine Q.bindPO hh10 fun x19 hx_x19 => ?_
   refine Q.condO ?_ ?_
   ·refine Q.condO ?_ ?_
    ·all_goals exact hret _
    refine Q.bindO rfl fun x27 => ?_
    refine Q.bindO (r02_Copy_eq _) fun x28 => ?_
    all_goals exact hret _
   all_goals exact ih10 _ _ ⟨by omega, by omega⟩
  rw [List.drop_of_length_le (by omega), Z26_q10]
  refine Q.condF (Q.ltF hlt) ?_
  exact hend n10 s6_11 y12_l0
def Z26_q (a0 : TValue) (a1 : Bs) : Option (TValue × Bool) := bif (!decide (a0.FKind = (6 : Int))) then (some ((TValue.mk (0 : Int) (0 : Int) ([] : Bs) true ([]) (Sl.nil : Sl Bs)), false)) else (Option.bind (Z26_q10 a0 a1 a0.FKeys.l 0 ) fun o10 => match o10 with | Sum.inl _ => (on (()) fun _ => some ((TValue.mk (0 : Int) (0 : Int) ([] : Bs) true ([]) (Sl.nil : Sl Bs)), false)) | Sum.inr e10 => (some e10))
theorem Z26_eq (a0 : TValue) (a1 : Bs) : Z26 a0 a1 = Z26_q a0 a1 := by
 unfold Z26 Z26_q
 refine Eq.trans ?_ (Q.some_bind _)
 refine Q.condO ?_ ?_
 ·all_goals rfl
 refine Q.wrapOO fun Kb10 hKb10 => ?_
 refine Z26_l10_qe  Kb10 ?_ ?_ _ _ _ ⟨Nat.succ_pos _, by omega⟩
 ·intro n10 s6_11 y12_l0
  refine Eq.trans ?_ (hKb10 _).symm
  try dsimp only
  refine Q.wrapPO fun Kj6 hKj6 => ?_
  have hj6 : ∀ (y7_l0 : TValue), Z26_j6  y7_l0 = Kj6 () := by
   intro y7_l0
   refine Eq.trans ?_ (hKj6 _).symm
   unfold Z26_j6
   all_goals rfl
  all_goals exact hj6 _
 intro e10
 refine Eq.trans ?_ (hKb10 _).symm
 try dsimp only
 all_goals rfl
def Z62_q (a0 : R12_work) (a1 : TValue) : Option Bool := bif ((!a0.Flit) || (!decide (a1.FKind = (7 : Int)))) then (some false) else ((Z26_q a0.Fvars a1.FText).bind fun x7 => some (!x7.2))
theorem Z62_eq (a0 : R12_work) (a1 : TValue) : Z62 a0 a1 = Z62_q a0 a1 := by
 unfold Z62 Z62_q
 refine Eq.trans ?_ (Q.some_bind _)
 refine Q.condO ?_ ?_
 ·all_goals rfl
 refine Q.bindO (Z26_eq _ _) fun x7 => ?_
 all_goals rfl
def Z36_q (a0 : TRef) : Bool := on (bif (decide ((0 : Int) < ((a0.FWraps.l.length : Nat) : Int))) then ((a0.FWraps.l)[0]?.getD (0 : Int)) else (0 : Int)) fun x4 => ((decide ((0 : Int) < ((a0.FWraps.l.length : Nat) : Int))) && (decide (x4 = (1 : Int))))
theorem Z36_eq (a0 : TRef) : Z36 a0 = some (Z36_q a0) := by
 unfold Z36 Z36_q
 refine Q.guardT (fun hc => Q.getD_some (by simp at hc; omega)) fun x4 hx_x4 => ?_
 all_goals rfl
def Z61_q (a0 : R12_work) (a1 : Int) : R12_work := bif (decide (a0.Ferr = (0 : Int))) then ((R12_work.mk a0.Fd a0.Fvars a0.Flit a0.Fcount a1)) else (a0)
theorem Z61_eq (a0 : R12_work) (a1 : Int) : Z61 a0 a1 = some (Z61_q a0 a1) := by
 unfold Z61 Z61_q
 refine Q.condP ?_ ?_
 ·all_goals rfl
 all_goals rfl
def Z63_q (a0 : R12_work) (a1 : Int) : Option R12_work := on (bif (decide ((24 : Int) < a1)) then (on (Z61_q a0 (5 : Int)) fun x10 => x10) else (a0)) fun y2_c0 => (addC y2_c0.Fcount (1 : Int)).bind fun x4 => bif (decide ((4096 : Int) < x4)) then (on (Z61_q (R12_work.mk y2_c0.Fd y2_c0.Fvars y2_c0.Flit x4 y2_c0.Ferr) (4 : Int)) fun x7 => some x7) else (some (R12_work.mk y2_c0.Fd y2_c0.Fvars y2_c0.Flit x4 y2_c0.Ferr))
theorem Z63_eq (a0 : R12_work) (a1 : Int) : Z63 a0 a1 = Z63_q a0 a1 := by
 unfold Z63 Z63_q
 refine Eq.trans ?_ (Q.some_bind _)
 refine Q.wrapPO fun Kj1 hKj1 => ?_
 have hj1 : ∀ (y2_c0 : R12_work), Z63_j1  y2_c0 = Kj1 y2_c0 := by
  intro y2_c0
  refine Eq.trans ?_ (hKj1 _).symm
  unfold Z63_j1
  refine Q.bindO rfl fun x4 => ?_
  refine Q.condO ?_ ?_
  ·refine Q.bindPO (Z61_eq _ _) fun x7 hx_x7 => ?_
   all_goals rfl
  all_goals rfl
 refine Q.condP ?_ ?_
 ·refine Q.bindP (Z61_eq _ _) fun x10 hx_x10 => ?_
  all_goals exact hj1 _
 all_goals exact hj1 _
def Z67_q14 (a2 : Int) (k_rec_97 : R12_work → TValue → Int → Option (TValue × R12_work)) : List TValue → R12_work → TValue → Option ((R12_work × TValue))
 | [], y16_c0, y17_l1 => some (y16_c0, y17_l1)
 | h14 :: r14, y16_c0, y17_l1 => bif (decide (y16_c0.Ferr = (0 : Int))) then (on (h14) fun x24 => (addC a2 (1 : Int)).bind fun x25 => (k_rec_97 y16_c0 x24 x25).bind fun x26 => (appC 80 y17_l1.FItems (⟨false, [x26.1]⟩ : Sl TValue)).bind fun x27 => Z67_q14 a2 k_rec_97 (r14) x26.2 (TValue.mk y17_l1.FKind y17_l1.FInt y17_l1.FText x27.nl x27.l y17_l1.FKeys)) else (some (y16_c0, y17_l1))
theorem Z67_l14_qe {a1 : TValue} {a2 : Int} {k_rec_97 : R12_work → TValue → Int → Option (TValue × R12_work)}  (Kb14 : ((R12_work × TValue)) → Option (TValue × R12_work)) (hend : ∀ (n14 : Nat) (s8_15 : Nat) (y16_c0 : R12_work) (y17_l1 : TValue), Z67_j9   y16_c0 y17_l1 = Kb14 (y16_c0, y17_l1)) : ∀ (n14 : Nat) (s8_15 : Nat) (y16_c0 : R12_work) (y17_l1 : TValue), (0 < n14 ∧ a1.FItems.l.length < s8_15 + n14) → Z67_l14 a1 a2 k_rec_97 n14 s8_15 y16_c0 y17_l1 = Option.bind (Z67_q14 a2 k_rec_97 (a1.FItems.l.drop s8_15) y16_c0 y17_l1) Kb14 := by
 intro n14
 induction n14 with
 | zero => intro s8_15 y16_c0 y17_l1 hn; exact absurd hn.1 (by omega)
 | succ n14 ih14 =>
  intro s8_15 y16_c0 y17_l1 hn
  rw [Z67_l14]
  by_cases hlt : s8_15 < a1.FItems.l.length
  ·obtain ⟨h14, hh14⟩ : ∃ x, a1.FItems.l[s8_15]? = some x := ⟨_, List.getElem?_eq_getElem hlt⟩
   rw [Q.drop_of hh14, Z67_q14]
   refine Q.condAT (Q.ltT hlt) ?_
   refine Q.condO ?_ ?_
   ·refine Q.bindPO hh14 fun x24 hx_x24 => ?_
    refine Q.bindO rfl fun x25 => ?_
    refine Q.bindO rfl fun x26 => ?_
    refine Q.bindO rfl fun x27 => ?_
    all_goals exact ih14 _ _ _ ⟨by omega, by omega⟩
   all_goals exact hend n14 s8_15 y16_c0 y17_l1
  rw [List.drop_of_length_le (by omega), Z67_q14]
  refine Q.condAF (Q.ltF hlt) ?_
  exact hend n14 s8_15 y16_c0 y17_l1
def Z67_qn : Nat → R12_work → TValue → Int → Option (TValue × R12_work)
 | 0, _, _, _ => none
 | n + 1, a0, a1, a2 => (Z63_q a0 a2).bind fun x3 => (appC 16 ((TValue.mk a1.FKind a1.FInt a1.FText true ([]) (Sl.nil : Sl Bs)).FKeys) a1.FKeys).bind fun x8 => Option.bind (Z67_q14 a2 (Z67_qn n) a1.FItems.l x3 (TValue.mk ((TValue.mk a1.FKind a1.FInt a1.FText true ([]) (Sl.nil : Sl Bs)).FKind) ((TValue.mk a1.FKind a1.FInt a1.FText true ([]) (Sl.nil : Sl Bs)).FInt) ((TValue.mk a1.FKind a1.FInt a1.FText true ([]) (Sl.nil : Sl Bs)).FText) ((TValue.mk a1.FKind a1.FInt a1.FText true ([]) (Sl.nil : Sl Bs)).FItems).nl ((TValue.mk a1.FKind a1.FInt a1.FText true ([]) (Sl.nil : Sl Bs)).FItems).l x8)) fun z14 => on ((z14.1, z14.2)) fun z9 => some (z9.2, z9.1)
theorem Z67_qall : ∀ n : Nat, Z67_n n = Z67_qn n := by
 intro n
 induction n with
 | zero => exact (by funext a0 a1 a2; first | rfl | (rw [Z67_n, Z67_qn]))
 | succ n ih =>
  funext a0 a1 a2
  refine Eq.trans ?_ (Q.some_bind _)
  rw [Z67_n, Z67_qn]
  try rw [ih]
  refine Q.bindO (Z63_eq _ _) fun x3 => ?_
  refine Q.bindO rfl fun x8 => ?_
  refine Q.wrapOO fun Kb14 hKb14 => ?_
  refine Z67_l14_qe  Kb14 ?_ _ _ _ _ ⟨Nat.succ_pos _, by omega⟩
  intro n14 s8_15 y16_c0 y17_l1
  refine Eq.trans ?_ (hKb14 _).symm
  try dsimp only
  refine Q.wrapPO fun Kj9 hKj9 => ?_
  have hj9 : ∀ (y10_c0 : R12_work) (y11_l1 : TValue), Z67_j9  y10_c0 y11_l1 = Kj9 (y10_c0, y11_l1) := by
   intro y10_c0 y11_l1
   refine Eq.trans ?_ (hKj9 _).symm
   try dsimp only
   unfold Z67_j9
   all_goals rfl
  all_goals exact hj9 _ _
def Z67_q (a0 : R12_work) (a1 : TValue) (a2 : Int) : Option (TValue × R12_work) := Z67_qn F0 a0 a1 a2
theorem Z67_eq (a0 : R12_work) (a1 : TValue) (a2 : Int) : Z67 a0 a1 a2 = Z67_q a0 a1 a2 := by
 unfold Z67 Z67_q; rw [(Z67_qall F0)]
def Z39_q (a0 : TRef) : Option TRef := (partC a0.FWraps (some (1 : Int)) none).bind fun x3 => (appC 8 (⟨false, []⟩ : Sl Int) x3).bind fun x4 => some (TRef.mk a0.FName x4)
theorem Z39_eq (a0 : TRef) : Z39 a0 = Z39_q a0 := by
 unfold Z39 Z39_q
 refine Eq.trans ?_ (Q.some_bind _)
 refine Q.bindO rfl fun x3 => ?_
 refine Q.bindO rfl fun x4 => ?_
 all_goals rfl
def Z37_q (a0 : TRef) : Option TRef := on (Z36_q a0) fun x4 => bif x4 then ((Z39_q a0).bind fun x7 => some x7) else ((appC 8 (⟨false, []⟩ : Sl Int) a0.FWraps).bind fun x9 => some (TRef.mk a0.FName x9))
theorem Z37_eq (a0 : TRef) : Z37 a0 = Z37_q a0 := by
 unfold Z37 Z37_q
 refine Eq.trans ?_ (Q.some_bind _)
 refine Q.bindPO (Z36_eq _) fun x4 hx_x4 => ?_
 refine Q.condO ?_ ?_
 ·refine Q.bindO (Z39_eq _) fun x7 => ?_
  all_goals rfl
 refine Q.bindO rfl fun x9 => ?_
 all_goals rfl
def Z35_q (a0 : TRef) : Option Bool := (Z37_q a0).bind fun x3 => on (bif (decide ((0 : Int) < ((x3.FWraps.l.length : Nat) : Int))) then ((x3.FWraps.l)[0]?.getD (0 : Int)) else (0 : Int)) fun x6 => some ((decide ((0 : Int) < ((x3.FWraps.l.length : Nat) : Int))) && (decide (x6 = (2 : Int))))
theorem Z35_eq (a0 : TRef) : Z35 a0 = Z35_q a0 := by
 unfold Z35 Z35_q
 refine Eq.trans ?_ (Q.some_bind _)
 refine Q.bindO (Z37_eq _) fun x3 => ?_
 refine Q.guardTO (fun hc => Q.getD_some (by simp at hc; omega)) fun x6 hx_x6 => ?_
 all_goals rfl
def Z34_q (a0 : TRef) : Option (TRef × Bool) := (Z35_q a0).bind fun x4 => bif (!x4) then (some ((TRef.mk ([] : Bs) (Sl.nil : Sl Int)), false)) else ((Z37_q a0).bind fun x8 => (Z39_q x8).bind fun x9 => some (x9, true))
theorem Z34_eq (a0 : TRef) : Z34 a0 = Z34_q a0 := by
 unfold Z34 Z34_q
 refine Eq.trans ?_ (Q.some_bind _)
 refine Q.bindO (Z35_eq _) fun x4 => ?_
 refine Q.condO ?_ ?_
 ·all_goals rfl
 refine Q.bindO (Z37_eq _) fun x8 => ?_
 refine Q.bindO (Z39_eq _) fun x9 => ?_
 all_goals rfl
def Z23_qn : Nat → Int → Option Bs
 | 0, _ => none
 | n + 1, a0 => (subC (48 : Int) (Int.tmod a0 (10 : Int))).bind fun x3 => bif (decide ((-10 : Int) < a0)) then (some (bytesC (⟨false, [(IntKind.wrap .u8 x3)]⟩ : Sl Int))) else (((Z23_qn n) (IntKind.wrap .i64 (Int.tdiv a0 (10 : Int)))).bind fun x9 => (catC x9 (bytesC (⟨false, [(IntKind.wrap .u8 x3)]⟩ : Sl Int))).bind fun x10 => some x10)
theorem Z23_qall : ∀ n : Nat, Z23_n n = Z23_qn n := by
 intro n
 induction n with
 | zero => exact (by funext a0; first | rfl | (rw [Z23_n, Z23_qn]))
 | succ n ih =>
  funext a0
  refine Eq.trans ?_ (Q.some_bind _)
  rw [Z23_n, Z23_qn]
  try rw [ih]
  refine Q.bindO rfl fun x3 => ?_
  refine Q.condO ?_ ?_
  ·all_goals rfl
  refine Q.bindO rfl fun x9 => ?_
  refine Q.bindO rfl fun x10 => ?_
  all_goals rfl
def Z23_q (a0 : Int) : Option Bs := Z23_qn F0 a0
theorem Z23_eq (a0 : Int) : Z23 a0 = Z23_q a0 := by
 unfold Z23 Z23_q; rw [(Z23_qall F0)]
def Z20_q (a0 : Int) : Option Bs := bif (decide (a0 < (0 : Int))) then ((Z23_q a0).bind fun x6 => (catC ([45] : Bs) x6).bind fun x7 => some x7) else ((Z23_q (IntKind.wrap .i64 (0 - a0))).bind fun x9 => some x9)
theorem Z20_eq (a0 : Int) : Z20 a0 = Z20_q a0 := by
 unfold Z20 Z20_q
 refine Eq.trans ?_ (Q.some_bind _)
 refine Q.condO ?_ ?_
 ·refine Q.bindO (Z23_eq _) fun x6 => ?_
  refine Q.bindO rfl fun x7 => ?_
  all_goals rfl
 refine Q.bindO (Z23_eq _) fun x9 => ?_
 all_goals rfl
end Go.Proofs

namespace Go.Proofs
open Go Go.Ab
def Z66_q (a0 : R12_work) (a1 : Bs) (a2 : TValue) : Option (TValue × R12_work) := bif (((((a1 == ([73, 110, 116] : Bs))) && (decide (a2.FKind = (2 : Int)))) && (decide ((-2147483648 : Int) ≤ a2.FInt))) && (decide (a2.FInt < (2147483648 : Int)))) then (some (a2, a0)) else (on (bif (((a1 == ([83, 116, 114, 105, 110, 103] : Bs))) && (decide (a2.FKind = (3 : Int)))) then ((((a1 == ([83, 116, 114, 105, 110, 103] : Bs))) && (decide (a2.FKind = (3 : Int))))) else (bif (((a1 == ([66, 111, 111, 108, 101, 97, 110] : Bs))) && (decide (a2.FKind = (1 : Int)))) then ((((a1 == ([66, 111, 111, 108, 101, 97, 110] : Bs))) && (decide (a2.FKind = (1 : Int))))) else ((((a1 == ([73, 68] : Bs))) && (decide (a2.FKind = (3 : Int))))))) fun s26_11 => bif s26_11 then (some (a2, a0)) else (bif (((a1 == ([73, 68] : Bs))) && (decide (a2.FKind = (2 : Int)))) then ((Z20_q a2.FInt).bind fun x17 => some ((TValue.mk (3 : Int) (0 : Int) x17 true ([]) (Sl.nil : Sl Bs)), a0)) else (on (()) fun _ => on (Z61_q a0 (23 : Int)) fun x5 => some ((TValue.mk (0 : Int) (0 : Int) ([] : Bs) true ([]) (Sl.nil : Sl Bs)), x5))))
theorem Z66_eq (a0 : R12_work) (a1 : Bs) (a2 : TValue) : Z66 a0 a1 a2 = Z66_q a0 a1 a2 := by
 unfold Z66 Z66_q
 refine Eq.trans ?_ (Q.some_bind _)
 refine Q.condO ?_ ?_
 ·all_goals rfl
 refine Q.wrapPO fun Kj10 hKj10 => ?_
 have hj10 : ∀ (s26_11 : Bool), Z66_j10 a0 a1 a2 s26_11 = Kj10 s26_11 := by
  intro s26_11
  refine Eq.trans ?_ (hKj10 _).symm
  unfold Z66_j10
  refine Q.condO ?_ ?_
  ·all_goals rfl
  refine Q.condO ?_ ?_
  ·refine Q.bindO (Z20_eq _) fun x17 => ?_
   all_goals rfl
  refine Q.wrapPO fun Kj2 hKj2 => ?_
  have hj2 : ∀ (y3_l0 : TValue), Z66_j2 a0 y3_l0 = Kj2 () := by
   intro y3_l0
   refine Eq.trans ?_ (hKj2 _).symm
   unfold Z66_j2
   refine Q.bindPO (Z61_eq _ _) fun x5 hx_x5 => ?_
   all_goals rfl
  all_goals exact hj2 _
 refine Q.condP ?_ ?_
 ·all_goals exact hj10 _
 refine Q.condP ?_ ?_
 ·all_goals exact hj10 _
 all_goals exact hj10 _
def Z60_q10 (a0 : R12_work) (a2 : TValue) : List TMember → Unit ⊕ ((TValue × R12_work))
 | [] => Sum.inl ()
 | h10 :: r10 => on (h10) fun x19 => bif ((x19.FName == a2.FText)) then (Sum.inr ((TValue.mk (4 : Int) (0 : Int) a2.FText true ([]) (Sl.nil : Sl Bs)), a0)) else (Z60_q10 a0 a2 (r10) )
theorem Z60_l10_qe {a0 : R12_work} {a1 : TDef} {a2 : TValue}  (Kb10 : (Unit ⊕ ((TValue × R12_work))) → Option (TValue × R12_work)) (hend : ∀ (n10 : Nat) (s7_11 : Nat) (y12_l0 : TValue), Z60_j2 a0  y12_l0 = Kb10 (Sum.inl ())) (hret : ∀ e : (TValue × R12_work), some e = Kb10 (Sum.inr e)) : ∀ (n10 : Nat) (s7_11 : Nat) (y12_l0 : TValue), (0 < n10 ∧ a1.FMembers.l.length < s7_11 + n10) → Z60_l10 a0 a1 a2 n10 s7_11 y12_l0 = Kb10 (Z60_q10 a0 a2 (a1.FMembers.l.drop s7_11) ) := by
 intro n10
 induction n10 with
 | zero => intro s7_11 y12_l0 hn; exact absurd hn.1 (by omega)
 | succ n10 ih10 =>
  intro s7_11 y12_l0 hn
  rw [Z60_l10]
  by_cases hlt : s7_11 < a1.FMembers.l.length
  ·obtain ⟨h10, hh10⟩ : ∃ x, a1.FMembers.l[s7_11]? = some x := ⟨_, List.getElem?_eq_getElem hlt⟩
   rw [Q.drop_of hh10, Z60_q10]
   refine Q.condT (Q.ltT hlt) ?_
   refine Q.bindP hh10 fun x19 hx_x19 => ?_
   refine Q.condP ?_ ?_
   ·all_goals exact hret _
   all_goals exact ih10 _ _ ⟨by omega, by omega⟩
  rw [List.drop_of_length_le (by omega), Z60_q10]
  refine Q.condF (Q.ltF hlt) ?_
  exact hend n10 s7_11 y12_l0
def Z60_q (a0 : R12_work) (a1 : TDef) (a2 : TValue) : (TValue × R12_work) := on (fun (_ : Unit) => on (Z61_q a0 (23 : Int)) fun x5 => ((TValue.mk (0 : Int) (0 : Int) ([] : Bs) true ([]) (Sl.nil : Sl Bs)), x5)) fun kj2 => bif ((decide (a2.FKind = (4 : Int))) || ((decide (a2.FKind = (3 : Int))) && (!a0.Flit))) then (on (Z60_q10 a0 a2 a1.FMembers.l ) fun o10 => match o10 with | Sum.inl _ => (kj2 ()) | Sum.inr e10 => (e10)) else (kj2 ())
theorem Z60_eq (a0 : R12_work) (a1 : TDef) (a2 : TValue) : Z60 a0 a1 a2 = some (Z60_q a0 a1 a2) := by
 unfold Z60 Z60_q
 refine Q.mixP fun kj2 hkj2 => ?_
 have hj2 : ∀ (y3_l0 : TValue), Z60_j2 a0 y3_l0 = some (kj2 ()) := by
  intro y3_l0
  unfold Z60_j2
  rw [hkj2]
  try dsimp only
  refine Q.bindP (Z61_eq _ _) fun x5 hx_x5 => ?_
  all_goals rfl
 refine Q.condP ?_ ?_
 ·refine Q.wrapPP fun Kb10 hKb10 => ?_
  refine Z60_l10_qe  Kb10 ?_ ?_ _ _ _ ⟨Nat.succ_pos _, by omega⟩
  ·intro n10 s7_11 y12_l0
   refine Eq.trans ?_ (hKb10 _).symm
   try dsimp only
   all_goals exact hj2 _
  intro e10
  refine Eq.trans ?_ (hKb10 _).symm
  try dsimp only
  all_goals rfl
 all_goals exact hj2 _
def Z52_q6 (a1 : Bs) : List TInput → Unit ⊕ ((TInput × Bool))
 | [] => Sum.inl ()
 | h6 :: r6 => on (h6) fun x15 => bif ((x15.FName == a1)) then (on (h6) fun x18 => Sum.inr (x18, true)) else (Z52_q6 a1 (r6) )
theorem Z52_l6_qe {a0 : (Sl TInput)} {a1 : Bs}  (Kb6 : (Unit ⊕ ((TInput × Bool))) → Option (TInput × Bool)) (hend : ∀ (n6 : Nat) (s6_7 : Nat) (y8_l0 : TInput), Z52_j2   y8_l0 = Kb6 (Sum.inl ())) (hret : ∀ e : (TInput × Bool), some e = Kb6 (Sum.inr e)) : ∀ (n6 : Nat) (s6_7 : Nat) (y8_l0 : TInput), (0 < n6 ∧ a0.l.length < s6_7 + n6) → Z52_l6 a0 a1 n6 s6_7 y8_l0 = Kb6 (Z52_q6 a1 (a0.l.drop s6_7) ) := by
 intro n6
 induction n6 with
 | zero => intro s6_7 y8_l0 hn; exact absurd hn.1 (by omega)
 | succ n6 ih6 =>
  intro s6_7 y8_l0 hn
  rw [Z52_l6]
  by_cases hlt : s6_7 < a0.l.length
  ·obtain ⟨h6, hh6⟩ : ∃ x, a0.l[s6_7]? = some x := ⟨_, List.getElem?_eq_getElem hlt⟩
   rw [Q.drop_of hh6, Z52_q6]
   refine Q.condT (Q.ltT hlt) ?_
   refine Q.bindP hh6 fun x15 hx_x15 => ?_
   refine Q.condP ?_ ?_
   ·refine Q.bindP hh6 fun x18 hx_x18 => ?_
    all_goals exact hret _
   all_goals exact ih6 _ _ ⟨by omega, by omega⟩
  rw [List.drop_of_length_le (by omega), Z52_q6]
  refine Q.condF (Q.ltF hlt) ?_
  exact hend n6 s6_7 y8_l0
def Z52_q (a0 : (Sl TInput)) (a1 : Bs) : (TInput × Bool) := on (Z52_q6 a1 a0.l ) fun o6 => match o6 with | Sum.inl _ => (on (()) fun _ => ((TInput.mk ([] : Bs) TRef.zero false TValue.zero (Sl.nil : Sl TDir)), false)) | Sum.inr e6 => (e6)
theorem Z52_eq (a0 : (Sl TInput)) (a1 : Bs) : Z52 a0 a1 = some (Z52_q a0 a1) := by
 unfold Z52 Z52_q
 refine Q.wrapPP fun Kb6 hKb6 => ?_
 refine Z52_l6_qe  Kb6 ?_ ?_ _ _ _ ⟨Nat.succ_pos _, by omega⟩
 ·intro n6 s6_7 y8_l0
  refine Eq.trans ?_ (hKb6 _).symm
  try dsimp only
  refine Q.wrapPP fun Kj2 hKj2 => ?_
  have hj2 : ∀ (y3_l0 : TInput), Z52_j2  y3_l0 = Kj2 () := by
   intro y3_l0
   refine Eq.trans ?_ (hKj2 _).symm
   unfold Z52_j2
   all_goals rfl
  all_goals exact hj2 _
 intro e6
 refine Eq.trans ?_ (hKb6 _).symm
 try dsimp only
 all_goals rfl
def Z59_q (a0 : (Sl TInput)) (a1 : Int) : Option Bool := Z59 a0 a1
theorem Z59_eq (a0 : (Sl TInput)) (a1 : Int) : Z59 a0 a1 = Z59_q a0 a1 := rfl
def r12_work_list_q12 (a1 : TRef) (a3 : Int) (k_rec_71 : R12_work → TRef → TValue → Int → Option (TValue × R12_work)) : List TValue → R12_work → TValue → Option ((R12_work × TValue))
 | [], y14_c0, y15_l1 => some (y14_c0, y15_l1)
 | h12 :: r12, y14_c0, y15_l1 => bif (decide (y14_c0.Ferr = (0 : Int))) then (on (h12) fun x22 => (addC a3 (1 : Int)).bind fun x23 => (k_rec_71 y14_c0 a1 x22 x23).bind fun x24 => (appC 80 y15_l1.FItems (⟨false, [x24.1]⟩ : Sl TValue)).bind fun x25 => r12_work_list_q12 a1 a3 k_rec_71 (r12) x24.2 (TValue.mk y15_l1.FKind y15_l1.FInt y15_l1.FText x25.nl x25.l y15_l1.FKeys)) else (some (y14_c0, y15_l1))
theorem r12_work_list_l12_qe {a1 : TRef} {a3 : Int} {s9_4 : (Sl TValue)} {k_rec_71 : R12_work → TRef → TValue → Int → Option (TValue × R12_work)}  (Kb12 : ((R12_work × TValue)) → Option (TValue × R12_work)) (hend : ∀ (n12 : Nat) (s11_13 : Nat) (y14_c0 : R12_work) (y15_l1 : TValue), r12_work_list_j7   y14_c0 y15_l1 = Kb12 (y14_c0, y15_l1)) : ∀ (n12 : Nat) (s11_13 : Nat) (y14_c0 : R12_work) (y15_l1 : TValue), (0 < n12 ∧ s9_4.l.length < s11_13 + n12) → r12_work_list_l12 a1 a3 s9_4 k_rec_71 n12 s11_13 y14_c0 y15_l1 = Option.bind (r12_work_list_q12 a1 a3 k_rec_71 (s9_4.l.drop s11_13) y14_c0 y15_l1) Kb12 := by
 intro n12
 induction n12 with
 | zero => intro s11_13 y14_c0 y15_l1 hn; exact absurd hn.1 (by omega)
 | succ n12 ih12 =>
  intro s11_13 y14_c0 y15_l1 hn
  rw [r12_work_list_l12]
  by_cases hlt : s11_13 < s9_4.l.length
  ·obtain ⟨h12, hh12⟩ : ∃ x, s9_4.l[s11_13]? = some x := ⟨_, List.getElem?_eq_getElem hlt⟩
   rw [Q.drop_of hh12, r12_work_list_q12]
   refine Q.condAT (Q.ltT hlt) ?_
   refine Q.condO ?_ ?_
   ·refine Q.bindPO hh12 fun x22 hx_x22 => ?_
    refine Q.bindO rfl fun x23 => ?_
    refine Q.bindO rfl fun x24 => ?_
    refine Q.bindO rfl fun x25 => ?_
    all_goals exact ih12 _ _ _ ⟨by omega, by omega⟩
   all_goals exact hend n12 s11_13 y14_c0 y15_l1
  rw [List.drop_of_length_le (by omega), r12_work_list_q12]
  refine Q.condAF (Q.ltF hlt) ?_
  exact hend n12 s11_13 y14_c0 y15_l1
def r12_work_object_q58 (a1 : TDef) : List Bs → R12_work → R12_work
 | [], y60_c0 => y60_c0
 | h58 :: r58, y60_c0 => on (h58) fun x68 => on (Z52_q a1.FInputs x68) fun x69 => on (bif (!x69.2) then (on (Z61_q y60_c0 (22 : Int)) fun x72 => x72) else (y60_c0)) fun y66_c0 => r12_work_object_q58 a1 (r58) y66_c0
theorem r12_work_object_l58_qe {a1 : TDef} {a2 : TValue} {a3 : Int} {k_rec_119 : R12_work → TRef → TValue → Int → Option (TValue × R12_work)} {k_rec_71 : R12_work → TRef → TValue → Int → Option (TValue × R12_work)}  (Kb58 : (R12_work) → Option (TValue × R12_work)) (hend : ∀ (n58 : Nat) (s9_59 : Nat) (y60_c0 : R12_work), r12_work_object_j8 a1 a2 a3 k_rec_119 k_rec_71 y60_c0 = Kb58 y60_c0) : ∀ (n58 : Nat) (s9_59 : Nat) (y60_c0 : R12_work), (0 < n58 ∧ a2.FKeys.l.length < s9_59 + n58) → r12_work_object_l58 a1 a2 a3 k_rec_119 k_rec_71 n58 s9_59 y60_c0 = Kb58 (r12_work_object_q58 a1 (a2.FKeys.l.drop s9_59) y60_c0) := by
 intro n58
 induction n58 with
 | zero => intro s9_59 y60_c0 hn; exact absurd hn.1 (by omega)
 | succ n58 ih58 =>
  intro s9_59 y60_c0 hn
  rw [r12_work_object_l58]
  by_cases hlt : s9_59 < a2.FKeys.l.length
  ·obtain ⟨h58, hh58⟩ : ∃ x, a2.FKeys.l[s9_59]? = some x := ⟨_, List.getElem?_eq_getElem hlt⟩
   rw [Q.drop_of hh58, r12_work_object_q58]
   refine Q.condT (Q.ltT hlt) ?_
   refine Q.bindP hh58 fun x68 hx_x68 => ?_
   refine Q.bindP (Z52_eq _ _) fun x69 hx_x69 => ?_
   refine Q.wrapPP fun Kj65 hKj65 => ?_
   have hj65 : ∀ (y66_c0 : R12_work), r12_work_object_j65 s9_59 (r12_work_object_l58 a1 a2 a3 k_rec_119 k_rec_71 n58) y66_c0 = Kj65 y66_c0 := by
    intro y66_c0
    refine Eq.trans ?_ (hKj65 _).symm
    unfold r12_work_object_j65
    all_goals exact ih58 _ _ ⟨by omega, by omega⟩
   refine Q.condP ?_ ?_
   ·refine Q.bindP (Z61_eq _ _) fun x72 hx_x72 => ?_
    all_goals exact hj65 _
   all_goals exact hj65 _
  rw [List.drop_of_length_le (by omega), r12_work_object_q58]
  refine Q.condF (Q.ltF hlt) ?_
  exact hend n58 s9_59 y60_c0
def r12_work_object_q18 (a1 : TDef) (a2 : TValue) (a3 : Int) (k_rec_119 : R12_work → TRef → TValue → Int → Option (TValue × R12_work)) (k_rec_71 : R12_work → TRef → TValue → Int → Option (TValue × R12_work)) : List TInput → Nat → R12_work → TValue → Option ((R12_work × TValue))
 | [], s13_19, y20_c0, y21_l1 => some (y20_c0, y21_l1)
 | h18 :: r18, s13_19, y20_c0, y21_l1 => bif (decide (y20_c0.Ferr = (0 : Int))) then (on (h18) fun x30 => (Z59_q a1.FInputs ((s13_19 : Nat) : Int)).bind fun x33 => Option.bind (bif x33 then (some (y20_c0, y21_l1)) else ((Z26_q a2 x30.FName).bind fun x36 => guardO (x36.2) (Z62_q y20_c0 x36.1) false fun x45 => on (fun (y39_c0 : R12_work) (y40_l2 : TValue) => (appC 16 y21_l1.FKeys (⟨false, [x30.FName]⟩ : Sl Bs)).bind fun x42 => (appC 80 y21_l1.FItems (⟨false, [y40_l2]⟩ : Sl TValue)).bind fun x43 => some (y39_c0, (TValue.mk y21_l1.FKind y21_l1.FInt y21_l1.FText x43.nl x43.l x42))) fun kj38 => bif (x36.2 && (!x45)) then ((addC a3 (1 : Int)).bind fun x47 => (k_rec_71 y20_c0 x30.FType x36.1 x47).bind fun x48 => kj38 x48.2 x48.1) else (bif x30.FHas then ((addC a3 (1 : Int)).bind fun x51 => (k_rec_119 y20_c0 x30.FType x30.FDefault x51).bind fun x52 => kj38 x52.2 x52.1) else (on (Z36_q x30.FType) fun x54 => bif x54 then (on (Z61_q y20_c0 (22 : Int)) fun x56 => kj38 x56 TValue.zero) else (some (y20_c0, y21_l1)))))) fun z26 => r12_work_object_q18 a1 a2 a3 k_rec_119 k_rec_71 (r18) (s13_19 + 1) z26.1 z26.2) else (some (y20_c0, y21_l1))
theorem r12_work_object_l18_qe {a1 : TDef} {a2 : TValue} {a3 : Int} {k_rec_119 : R12_work → TRef → TValue → Int → Option (TValue × R12_work)} {k_rec_71 : R12_work → TRef → TValue → Int → Option (TValue × R12_work)}  (Kb18 : ((R12_work × TValue)) → Option (TValue × R12_work)) (hend : ∀ (n18 : Nat) (s13_19 : Nat) (y20_c0 : R12_work) (y21_l1 : TValue), r12_work_object_j13   y20_c0 y21_l1 = Kb18 (y20_c0, y21_l1)) : ∀ (n18 : Nat) (s13_19 : Nat) (y20_c0 : R12_work) (y21_l1 : TValue), (0 < n18 ∧ a1.FInputs.l.length < s13_19 + n18) → r12_work_object_l18 a1 a2 a3 k_rec_119 k_rec_71 n18 s13_19 y20_c0 y21_l1 = Option.bind (r12_work_object_q18 a1 a2 a3 k_rec_119 k_rec_71 (a1.FInputs.l.drop s13_19) s13_19 y20_c0 y21_l1) Kb18 := by
 intro n18
 induction n18 with
 | zero => intro s13_19 y20_c0 y21_l1 hn; exact absurd hn.1 (by omega)
 | succ n18 ih18 =>
  intro s13_19 y20_c0 y21_l1 hn
  rw [r12_work_object_l18]
  by_cases hlt : s13_19 < a1.FInputs.l.length
  ·obtain ⟨h18, hh18⟩ : ∃ x, a1.FInputs.l[s13_19]? = some x := ⟨_, List.getElem?_eq_getElem hlt⟩
   rw [Q.drop_of hh18, r12_work_object_q18]
   refine Q.condAT (Q.ltT hlt) ?_
   refine Q.condO ?_ ?_
   ·refine Q.bindPO hh18 fun x30 hx_x30 => ?_
    refine Q.bindO (Z59_eq _ _) fun x33 => ?_
    refine Q.wrapOO fun Kj26 hKj26 => ?_
    have hj26 : ∀ (y27_c0 : R12_work) (y28_l1 : TValue), r12_work_object_j26 s13_19 (r12_work_object_l18 a1 a2 a3 k_rec_119 k_rec_71 n18) y27_c0 y28_l1 = Kj26 (y27_c0, y28_l1) := by
     intro y27_c0 y28_l1
     refine Eq.trans ?_ (hKj26 _).symm
     try dsimp only
     unfold r12_work_object_j26
     all_goals exact ih18 _ _ _ ⟨by omega, by omega⟩
    refine Q.condO ?_ ?_
    ·all_goals exact hj26 _ _
    refine Q.bindO (Z26_eq _ _) fun x36 => ?_
    refine Q.guardOO (Z62_eq _ _) fun x45 => ?_
    refine Q.mixO fun kj38 hkj38 => ?_
    have hj38 : ∀ (y39_c0 : R12_work) (y40_l2 : TValue), r12_work_object_j38 s13_19 y21_l1 x30 (r12_work_object_l18 a1 a2 a3 k_rec_119 k_rec_71 n18) y39_c0 y40_l2 = Option.bind (kj38 y39_c0 y40_l2) Kj26 := by
     intro y39_c0 y40_l2
     unfold r12_work_object_j38
     rw [hkj38]
     try dsimp only
     refine Q.bindO rfl fun x42 => ?_
     refine Q.bindO rfl fun x43 => ?_
     all_goals exact hj26 _ _
    refine Q.condO ?_ ?_
    ·refine Q.bindO rfl fun x47 => ?_
     refine Q.bindO rfl fun x48 => ?_
     all_goals exact hj38 _ _
    refine Q.condO ?_ ?_
    ·refine Q.bindO rfl fun x51 => ?_
     refine Q.bindO rfl fun x52 => ?_
     all_goals exact hj38 _ _
    refine Q.bindPO (Z36_eq _) fun x54 hx_x54 => ?_
    refine Q.condO ?_ ?_
    ·refine Q.bindPO (Z61_eq _ _) fun x56 hx_x56 => ?_
     all_goals exact hj38 _ _
    all_goals exact hj26 _ _
   all_goals exact hend n18 s13_19 y20_c0 y21_l1
  rw [List.drop_of_length_le (by omega), r12_work_object_q18]
  refine Q.condAF (Q.ltF hlt) ?_
  exact hend n18 s13_19 y20_c0 y21_l1
mutual
def r12_work_coerce_qn : Nat → R12_work → TRef → TValue → Int → Option (TValue × R12_work)
 | 0, _, _, _, _ => none
 | n + 1, a0, a1, a2, a3 => on (Z53_q a0.Fd a1.FName) fun x4 => bif (!x4) then (on (Z61_q a0 (10 : Int)) fun x7 => some ((TValue.mk (0 : Int) (0 : Int) ([] : Bs) true ([]) (Sl.nil : Sl Bs)), x7)) else (on (fun (y10_c0 : R12_work) (y11_l0 : TValue) => (Z63_q y10_c0 a3).bind fun x14 => bif (!decide (x14.Ferr = (0 : Int))) then (some ((TValue.mk (0 : Int) (0 : Int) ([] : Bs) true ([]) (Sl.nil : Sl Bs)), x14)) else (bif (decide (y11_l0.FKind = (0 : Int))) then (on (Z36_q a1) fun x26 => on (bif x26 then (on (Z61_q x14 (23 : Int)) fun x28 => x28) else (x14)) fun y23_c0 => some ((TValue.mk (0 : Int) (0 : Int) ([] : Bs) true ([]) (Sl.nil : Sl Bs)), y23_c0)) else ((Z34_q a1).bind fun x31 => bif x31.2 then (((r12_work_list_qn n) x14 x31.1 y11_l0 a3).bind fun x35 => some (x35.1, x35.2)) else (on (Z55_q a1.FName) fun x38 => bif x38 then ((Z66_q x14 a1.FName y11_l0).bind fun x41 => some (x41.1, x41.2)) else (on (Z51_q x14.Fd a1.FName) fun x43 => bif (decide (x43.1.FKind = (4 : Int))) then (on (Z60_q x14 x43.1 y11_l0) fun x48 => some (x48.1, x48.2)) else (((r12_work_object_qn n) x14 x43.1 y11_l0 a3).bind fun x50 => some (x50.1, x50.2))))))) fun kj9 => bif (a0.Flit && (decide (a2.FKind = (7 : Int)))) then ((Z26_q a0.Fvars a2.FText).bind fun x54 => bif (!decide (x54.1.FKind = (0 : Int))) then ((Z67_q a0 x54.1 a3).bind fun x59 => some (x59.1, x59.2)) else (kj9 a0 (TValue.mk (0 : Int) (0 : Int) ([] : Bs) true ([]) (Sl.nil : Sl Bs)))) else (kj9 a0 a2))
def r12_work_list_qn : Nat → R12_work → TRef → TValue → Int → Option (TValue × R12_work)
 | 0, _, _, _, _ => none
 | n + 1, a0, a1, a2, a3 => on (bif (decide (a2.FKind = (5 : Int))) then (a2.FItems) else ((⟨false, [a2]⟩ : Sl TValue))) fun s9_4 => Option.bind (r12_work_list_q12 a1 a3 (r12_work_coerce_qn n) s9_4.l a0 (TValue.mk (5 : Int) (0 : Int) ([] : Bs) true ([]) (Sl.nil : Sl Bs))) fun z12 => on ((z12.1, z12.2)) fun z7 => some (z7.2, z7.1)
def r12_work_object_qn : Nat → R12_work → TDef → TValue → Int → Option (TValue × R12_work)
 | 0, _, _, _, _ => none
 | n + 1, a0, a1, a2, a3 => bif (!decide (a2.FKind = (6 : Int))) then (on (Z61_q a0 (23 : Int)) fun x6 => some ((TValue.mk (0 : Int) (0 : Int) ([] : Bs) true ([]) (Sl.nil : Sl Bs)), x6)) else (on (r12_work_object_q58 a1 a2.FKeys.l a0) fun y60_c0 => on (y60_c0) fun y9_c0 => Option.bind (r12_work_object_q18 a1 a2 a3 (Z64_qn n) (r12_work_coerce_qn n) a1.FInputs.l 0 y9_c0 (TValue.mk (6 : Int) (0 : Int) ([] : Bs) true ([]) (Sl.nil : Sl Bs))) fun z18 => on ((z18.1, z18.2)) fun z13 => some (z13.2, z13.1))
def Z64_qn : Nat → R12_work → TRef → TValue → Int → Option (TValue × R12_work)
 | 0, _, _, _, _ => none
 | n + 1, a0, a1, a2, a3 => ((r12_work_coerce_qn n) (R12_work.mk a0.Fd (TValue.mk (0 : Int) (0 : Int) ([] : Bs) true ([]) (Sl.nil : Sl Bs)) true a0.Fcount a0.Ferr) a1 a2 a3).bind fun x5 => some (x5.1, (R12_work.mk x5.2.Fd a0.Fvars a0.Flit x5.2.Fcount x5.2.Ferr))
end
theorem r12_work_coerce_qall : ∀ n : Nat, r12_work_coerce_n n = r12_work_coerce_qn n ∧ r12_work_list_n n = r12_work_list_qn n ∧ r12_work_object_n n = r12_work_object_qn n ∧ Z64_n n = Z64_qn n := by
 intro n
 induction n with
 | zero => exact ⟨(by funext a0 a1 a2 a3; first | rfl | (rw [r12_work_coerce_n, r12_work_coerce_qn])), (by funext a0 a1 a2 a3; first | rfl | (rw [r12_work_list_n, r12_work_list_qn])), (by funext a0 a1 a2 a3; first | rfl | (rw [r12_work_object_n, r12_work_object_qn])), (by funext a0 a1 a2 a3; first | rfl | (rw [Z64_n, Z64_qn]))⟩
 | succ n ih =>
  refine ⟨?_, ?_, ?_, ?_⟩
  ·funext a0 a1 a2 a3
   refine Eq.trans ?_ (Q.some_bind _)
   rw [r12_work_coerce_n, r12_work_coerce_qn]
   try rw [ih.1]
   try rw [ih.2.1]
   try rw [ih.2.2.1]
   try rw [ih.2.2.2]
   refine Q.bindPO (Z53_eq _ _) fun x4 hx_x4 => ?_
   refine Q.condO ?_ ?_
   ·refine Q.bindPO (Z61_eq _ _) fun x7 hx_x7 => ?_
    all_goals rfl
   refine Q.mixO fun kj9 hkj9 => ?_
   have hj9 : ∀ (y10_c0 : R12_work) (y11_l0 : TValue) (y12_l1 : TValue), r12_work_coerce_j9 a1 a3 (r12_work_list_qn n) (r12_work_object_qn n) y10_c0 y11_l0 y12_l1 = Option.bind (kj9 y10_c0 y11_l0) some := by
    intro y10_c0 y11_l0 y12_l1
    unfold r12_work_coerce_j9
    rw [hkj9]
    try dsimp only
    refine Q.bindO (Z63_eq _ _) fun x14 => ?_
    refine Q.condO ?_ ?_
    ·all_goals rfl
    refine Q.condO ?_ ?_
    ·refine Q.bindPO (Z36_eq _) fun x26 hx_x26 => ?_
     refine Q.wrapPO fun Kj22 hKj22 => ?_
     have hj22 : ∀ (y23_c0 : R12_work), r12_work_coerce_j22  y23_c0 = Kj22 y23_c0 := by
      intro y23_c0
      refine Eq.trans ?_ (hKj22 _).symm
      unfold r12_work_coerce_j22
      all_goals rfl
     refine Q.condP ?_ ?_
     ·refine Q.bindP (Z61_eq _ _) fun x28 hx_x28 => ?_
      all_goals exact hj22 _
     all_goals exact hj22 _
    refine Q.bindO (Z34_eq _) fun x31 => ?_
    refine Q.condO ?_ ?_
    ·refine Q.bindO rfl fun x35 => ?_
     all_goals rfl
    refine Q.bindPO (Z55_eq _) fun x38 hx_x38 => ?_
    refine Q.condO ?_ ?_
    ·refine Q.bindO (Z66_eq _ _ _) fun x41 => ?_
     all_goals rfl
    refine Q.bindPO (Z51_eq _ _) fun x43 hx_x43 => ?_
    refine Q.condO ?_ ?_
    ·refine Q.bindPO (Z60_eq _ _ _) fun x48 hx_x48 => ?_
     all_goals rfl
    refine Q.bindO rfl fun x50 => ?_
    all_goals rfl
   refine Q.condO ?_ ?_
   ·refine Q.bindO (Z26_eq _ _) fun x54 => ?_
    refine Q.condO ?_ ?_
    ·refine Q.bindO (Z67_eq _ _ _) fun x59 => ?_
     all_goals rfl
    all_goals exact hj9 _ _ _
   all_goals exact hj9 _ _ _
  ·funext a0 a1 a2 a3
   refine Eq.trans ?_ (Q.some_bind _)
   rw [r12_work_list_n, r12_work_list_qn]
   try rw [ih.1]
   try rw [ih.2.1]
   try rw [ih.2.2.1]
   try rw [ih.2.2.2]
   refine Q.wrapPO fun Kj3 hKj3 => ?_
   have hj3 : ∀ (s9_4 : (Sl TValue)), r12_work_list_j3 a0 a1 a3 (r12_work_coerce_qn n) s9_4 = Kj3 s9_4 := by
    intro s9_4
    refine Eq.trans ?_ (hKj3 _).symm
    unfold r12_work_list_j3
    refine Q.wrapOO fun Kb12 hKb12 => ?_
    refine r12_work_list_l12_qe  Kb12 ?_ _ _ _ _ ⟨Nat.succ_pos _, by omega⟩
    intro n12 s11_13 y14_c0 y15_l1
    refine Eq.trans ?_ (hKb12 _).symm
    try dsimp only
    refine Q.wrapPO fun Kj7 hKj7 => ?_
    have hj7 : ∀ (y8_c0 : R12_work) (y9_l1 : TValue), r12_work_list_j7  y8_c0 y9_l1 = Kj7 (y8_c0, y9_l1) := by
     intro y8_c0 y9_l1
     refine Eq.trans ?_ (hKj7 _).symm
     try dsimp only
     unfold r12_work_list_j7
     all_goals rfl
    all_goals exact hj7 _ _
   refine Q.condP ?_ ?_
   ·all_goals exact hj3 _
   all_goals exact hj3 _
  ·funext a0 a1 a2 a3
   refine Eq.trans ?_ (Q.some_bind _)
   rw [r12_work_object_n, r12_work_object_qn]
   try rw [ih.1]
   try rw [ih.2.1]
   try rw [ih.2.2.1]
   try rw [ih.2.2.2]
   refine Q.condO ?_ ?_
   ·refine Q.bindPO (Z61_eq _ _) fun x6 hx_x6 => ?_
    all_goals rfl
   refine Q.wrapPO fun Kb58 hKb58 => ?_
   refine r12_work_object_l58_qe  Kb58 ?_ _ _ _ ⟨Nat.succ_pos _, by omega⟩
   intro n58 s9_59 y60_c0
   refine Eq.trans ?_ (hKb58 _).symm
   refine Q.wrapPO fun Kj8 hKj8 => ?_
   have hj8 : ∀ (y9_c0 : R12_work), r12_work_object_j8 a1 a2 a3 (Z64_qn n) (r12_work_coerce_qn n) y9_c0 = Kj8 y9_c0 := by
    intro y9_c0
    refine Eq.trans ?_ (hKj8 _).symm
    unfold r12_work_object_j8
    refine Q.wrapOO fun Kb18 hKb18 => ?_
    refine r12_work_object_l18_qe  Kb18 ?_ _ _ _ _ ⟨Nat.succ_pos _, by omega⟩
    intro n18 s13_19 y20_c0 y21_l1
    refine Eq.trans ?_ (hKb18 _).symm
    try dsimp only
    refine Q.wrapPO fun Kj13 hKj13 => ?_
    have hj13 : ∀ (y14_c0 : R12_work) (y15_l1 : TValue), r12_work_object_j13  y14_c0 y15_l1 = Kj13 (y14_c0, y15_l1) := by
     intro y14_c0 y15_l1
     refine Eq.trans ?_ (hKj13 _).symm
     try dsimp only
     unfold r12_work_object_j13
     all_goals rfl
    all_goals exact hj13 _ _
   all_goals exact hj8 _
  funext a0 a1 a2 a3
  refine Eq.trans ?_ (Q.some_bind _)
  rw [Z64_n, Z64_qn]
  try rw [ih.1]
  try rw [ih.2.1]
  try rw [ih.2.2.1]
  try rw [ih.2.2.2]
  refine Q.bindO rfl fun x5 => ?_
  all_goals rfl
def r12_work_coerce_q (a0 : R12_work) (a1 : TRef) (a2 : TValue) (a3 : Int) : Option (TValue × R12_work) := r12_work_coerce_qn F0 a0 a1 a2 a3
theorem r12_work_coerce_eq (a0 : R12_work) (a1 : TRef) (a2 : TValue) (a3 : Int) : r12_work_coerce a0 a1 a2 a3 = r12_work_coerce_q a0 a1 a2 a3 := by
 unfold r12_work_coerce r12_work_coerce_q; rw [(r12_work_coerce_qall F0).1]
def Z65_q (a0 : R12_work) (a1 : TRef) (a2 : TValue) : Option (TValue × Int × R12_work) := (r12_work_coerce_q a0 a1 a2 (1 : Int)).bind fun x3 => bif (!decide (x3.2.Ferr = (0 : Int))) then (some ((TValue.mk (0 : Int) (0 : Int) ([] : Bs) true ([]) (Sl.nil : Sl Bs)), x3.2.Ferr, x3.2)) else (some (x3.1, (0 : Int), x3.2))
theorem Z65_eq (a0 : R12_work) (a1 : TRef) (a2 : TValue) : Z65 a0 a1 a2 = Z65_q a0 a1 a2 := by
 unfold Z65 Z65_q
 refine Eq.trans ?_ (Q.some_bind _)
 refine Q.bindO (r12_work_coerce_eq _ _ _ _) fun x3 => ?_
 refine Q.condO ?_ ?_
 ·all_goals rfl
 all_goals rfl
def Z57_q (a0 : TDoc) (a1 : TRef) (a2 : TValue) (a3 : TValue) : Option (TValue × Int) := on (Z53_q a0 a1.FName) fun x6 => guardO (x6) (Z62_q (R12_work.mk a0 a3 true (0 : Int) (0 : Int)) a2) false fun x7 => bif (x6 && x7) then (some ((TValue.mk (0 : Int) (0 : Int) ([] : Bs) true ([]) (Sl.nil : Sl Bs)), (8 : Int))) else ((Z65_q (R12_work.mk a0 a3 true (0 : Int) (0 : Int)) a1 a2).bind fun x11 => some (x11.1, x11.2.1))
theorem Z57_eq (a0 : TDoc) (a1 : TRef) (a2 : TValue) (a3 : TValue) : Z57 a0 a1 a2 a3 = Z57_q a0 a1 a2 a3 := by
 unfold Z57 Z57_q
 refine Eq.trans ?_ (Q.some_bind _)
 refine Q.bindPO (Z53_eq _ _) fun x6 hx_x6 => ?_
 refine Q.guardOO (Z62_eq _ _) fun x7 => ?_
 refine Q.condO ?_ ?_
 ·all_goals rfl
 refine Q.bindO (Z65_eq _ _ _) fun x11 => ?_
 all_goals rfl
def Z58_q7 (a0 : TDoc) (a2 : Bs) (a3 : Bs) (a4 : Bs) : List TInput → (Sl TFault) → Option ((Sl TFault))
 | [], s11_8 => some s11_8
 | h7 :: r7, s11_8 => on (h7) fun x18 => Option.bind (bif (!x18.FHas) then (some s11_8) else (on (h7) fun x21 => on (h7) fun x22 => (Z57_q a0 x21.FType x22.FDefault (TValue.mk (0 : Int) (0 : Int) ([] : Bs) true ([]) (Sl.nil : Sl Bs))).bind fun x23 => bif (!decide (x23.2 = (0 : Int))) then ((catC a2 a3).bind fun x26 => on (h7) fun x27 => (catC x26 x27.FName).bind fun x28 => (catC x28 a4).bind fun x29 => (appC 24 s11_8 (⟨false, [(TFault.mk (23 : Int) x29)]⟩ : Sl TFault)).bind fun x30 => some x30) else (some s11_8))) fun s11_15 => Z58_q7 a0 a2 a3 a4 (r7) s11_15
theorem Z58_l7_qe {a0 : TDoc} {a1 : (Sl TInput)} {a2 : Bs} {a3 : Bs} {a4 : Bs}  (Kb7 : ((Sl TFault)) → Option (Sl TFault)) (hend : ∀ (n7 : Nat) (s11_8 : (Sl TFault)) (s12_9 : Nat), Z58_j3   s11_8 = Kb7 s11_8) : ∀ (n7 : Nat) (s11_8 : (Sl TFault)) (s12_9 : Nat), (0 < n7 ∧ a1.l.length < s12_9 + n7) → Z58_l7 a0 a1 a2 a3 a4 n7 s11_8 s12_9 = Option.bind (Z58_q7 a0 a2 a3 a4 (a1.l.drop s12_9) s11_8) Kb7 := by
 intro n7
 induction n7 with
 | zero => intro s11_8 s12_9 hn; exact absurd hn.1 (by omega)
 | succ n7 ih7 =>
  intro s11_8 s12_9 hn
  rw [Z58_l7]
  by_cases hlt : s12_9 < a1.l.length
  ·obtain ⟨h7, hh7⟩ : ∃ x, a1.l[s12_9]? = some x := ⟨_, List.getElem?_eq_getElem hlt⟩
   rw [Q.drop_of hh7, Z58_q7]
   refine Q.condT (Q.ltT hlt) ?_
   refine Q.bindPO hh7 fun x18 hx_x18 => ?_
   refine Q.wrapOO fun Kj14 hKj14 => ?_
   have hj14 : ∀ (s11_15 : (Sl TFault)), Z58_j14 s12_9 (Z58_l7 a0 a1 a2 a3 a4 n7) s11_15 = Kj14 s11_15 := by
    intro s11_15
    refine Eq.trans ?_ (hKj14 _).symm
    unfold Z58_j14
    all_goals exact ih7 _ _ ⟨by omega, by omega⟩
   refine Q.condO ?_ ?_
   ·all_goals exact hj14 _
   refine Q.bindPO hh7 fun x21 hx_x21 => ?_
   refine Q.bindPO hh7 fun x22 hx_x22 => ?_
   refine Q.bindO (Z57_eq _ _ _ _) fun x23 => ?_
   refine Q.condO ?_ ?_
   ·refine Q.bindO rfl fun x26 => ?_
    refine Q.bindPO hh7 fun x27 hx_x27 => ?_
    refine Q.bindO rfl fun x28 => ?_
    refine Q.bindO rfl fun x29 => ?_
    refine Q.bindO rfl fun x30 => ?_
    all_goals exact hj14 _
   all_goals exact hj14 _
  rw [List.drop_of_length_le (by omega), Z58_q7]
  refine Q.condF (Q.ltF hlt) ?_
  exact hend n7 s11_8 s12_9
def Z58_q (a0 : TDoc) (a1 : (Sl TInput)) (a2 : Bs) (a3 : Bs) (a4 : Bs) : Option (Sl TFault) := Option.bind (Z58_q7 a0 a2 a3 a4 a1.l (Sl.nil : Sl TFault)) fun s11_8 => on (s11_8) fun s11_4 => some s11_4
theorem Z58_eq (a0 : TDoc) (a1 : (Sl TInput)) (a2 : Bs) (a3 : Bs) (a4 : Bs) : Z58 a0 a1 a2 a3 a4 = Z58_q a0 a1 a2 a3 a4 := by
 unfold Z58 Z58_q
 refine Eq.trans ?_ (Q.some_bind _)
 refine Q.wrapOO fun Kb7 hKb7 => ?_
 refine Z58_l7_qe  Kb7 ?_ _ _ _ ⟨Nat.succ_pos _, by omega⟩
 intro n7 s11_8 s12_9
 refine Eq.trans ?_ (hKb7 _).symm
 refine Q.wrapPO fun Kj3 hKj3 => ?_
 have hj3 : ∀ (s11_4 : (Sl TFault)), Z58_j3  s11_4 = Kj3 s11_4 := by
  intro s11_4
  refine Eq.trans ?_ (hKj3 _).symm
  unfold Z58_j3
  all_goals rfl
 all_goals exact hj3 _
def Z56_q23 (a0 : TDoc) (x17 : TDef) : List TField → (Sl TFault) → Option ((Sl TFault))
 | [], s3_24 => some s3_24
 | h23 :: r23, s3_24 => on (h23) fun x31 => (catC x17.FName ([46] : Bs)).bind fun x32 => on (h23) fun x33 => (catC x32 x33.FName).bind fun x34 => (Z58_q a0 x31.FArgs x34 ([40] : Bs) ([41] : Bs)).bind fun x35 => (appC 24 s3_24 x35).bind fun x36 => Z56_q23 a0 x17 (r23) x36
theorem Z56_l23_qe {a0 : TDoc} {s4_9 : Nat} {x17 : TDef} {k_next_7 : (Sl TFault) → Nat → Option (Sl TFault)}  (Kb23 : ((Sl TFault)) → Option (Sl TFault)) (hend : ∀ (n23 : Nat) (s3_24 : (Sl TFault)) (s6_25 : Nat), Z56_j18 a0 s4_9 x17 k_next_7 s3_24 = Kb23 s3_24) : ∀ (n23 : Nat) (s3_24 : (Sl TFault)) (s6_25 : Nat), (0 < n23 ∧ x17.FFields.l.length < s6_25 + n23) → Z56_l23 a0 s4_9 x17 k_next_7 n23 s3_24 s6_25 = Option.bind (Z56_q23 a0 x17 (x17.FFields.l.drop s6_25) s3_24) Kb23 := by
 intro n23
 induction n23 with
 | zero => intro s3_24 s6_25 hn; exact absurd hn.1 (by omega)
 | succ n23 ih23 =>
  intro s3_24 s6_25 hn
  rw [Z56_l23]
  by_cases hlt : s6_25 < x17.FFields.l.length
  ·obtain ⟨h23, hh23⟩ : ∃ x, x17.FFields.l[s6_25]? = some x := ⟨_, List.getElem?_eq_getElem hlt⟩
   rw [Q.drop_of hh23, Z56_q23]
   refine Q.condT (Q.ltT hlt) ?_
   refine Q.bindPO hh23 fun x31 hx_x31 => ?_
   refine Q.bindO rfl fun x32 => ?_
   refine Q.bindPO hh23 fun x33 hx_x33 => ?_
   refine Q.bindO rfl fun x34 => ?_
   refine Q.bindO (Z58_eq _ _ _ _ _) fun x35 => ?_
   refine Q.bindO rfl fun x36 => ?_
   all_goals exact ih23 _ _ ⟨by omega, by omega⟩
  rw [List.drop_of_length_le (by omega), Z56_q23]
  refine Q.condF (Q.ltF hlt) ?_
  exact hend n23 s3_24 s6_25
def Z56_q7 (a0 : TDoc) : List TDef → (Sl TFault) → Option ((Sl TFault))
 | [], s3_8 => some s3_8
 | h7 :: r7, s3_8 => on (h7) fun x17 => Option.bind (Z56_q23 a0 x17 x17.FFields.l s3_8) fun s3_24 => on (s3_24) fun s3_19 => (Z58_q a0 x17.FInputs x17.FName ([46] : Bs) ([] : Bs)).bind fun x20 => (appC 24 s3_19 x20).bind fun x21 => on (x21) fun s3_15 => Z56_q7 a0 (r7) s3_15
theorem Z56_l7_qe {a0 : TDoc}  (Kb7 : ((Sl TFault)) → Option (Sl TFault)) (hend : ∀ (n7 : Nat) (s3_8 : (Sl TFault)) (s4_9 : Nat), Z56_j3   s3_8 = Kb7 s3_8) : ∀ (n7 : Nat) (s3_8 : (Sl TFault)) (s4_9 : Nat), (0 < n7 ∧ a0.FDefs.l.length < s4_9 + n7) → Z56_l7 a0 n7 s3_8 s4_9 = Option.bind (Z56_q7 a0 (a0.FDefs.l.drop s4_9) s3_8) Kb7 := by
 intro n7
 induction n7 with
 | zero => intro s3_8 s4_9 hn; exact absurd hn.1 (by omega)
 | succ n7 ih7 =>
  intro s3_8 s4_9 hn
  rw [Z56_l7]
  by_cases hlt : s4_9 < a0.FDefs.l.length
  ·obtain ⟨h7, hh7⟩ : ∃ x, a0.FDefs.l[s4_9]? = some x := ⟨_, List.getElem?_eq_getElem hlt⟩
   rw [Q.drop_of hh7, Z56_q7]
   refine Q.condT (Q.ltT hlt) ?_
   refine Q.bindPO hh7 fun x17 hx_x17 => ?_
   refine Q.wrapOO fun Kb23 hKb23 => ?_
   refine Z56_l23_qe  Kb23 ?_ _ _ _ ⟨Nat.succ_pos _, by omega⟩
   intro n23 s3_24 s6_25
   refine Eq.trans ?_ (hKb23 _).symm
   refine Q.wrapPO fun Kj18 hKj18 => ?_
   have hj18 : ∀ (s3_19 : (Sl TFault)), Z56_j18 a0 s4_9 x17 (Z56_l7 a0 n7) s3_19 = Kj18 s3_19 := by
    intro s3_19
    refine Eq.trans ?_ (hKj18 _).symm
    unfold Z56_j18
    refine Q.bindO (Z58_eq _ _ _ _ _) fun x20 => ?_
    refine Q.bindO rfl fun x21 => ?_
    refine Q.wrapPO fun Kj14 hKj14 => ?_
    have hj14 : ∀ (s3_15 : (Sl TFault)), Z56_j14 s4_9 (Z56_l7 a0 n7) s3_15 = Kj14 s3_15 := by
     intro s3_15
     refine Eq.trans ?_ (hKj14 _).symm
     unfold Z56_j14
     all_goals exact ih7 _ _ ⟨by omega, by omega⟩
    all_goals exact hj14 _
   all_goals exact hj18 _
  rw [List.drop_of_length_le (by omega), Z56_q7]
  refine Q.condF (Q.ltF hlt) ?_
  exact hend n7 s3_8 s4_9
def Z56_q (a0 : TDoc) : Option (Sl TFault) := Option.bind (Z56_q7 a0 a0.FDefs.l (Sl.nil : Sl TFault)) fun s3_8 => on (s3_8) fun s3_4 => some s3_4
theorem Z56_eq (a0 : TDoc) : Z56 a0 = Z56_q a0 := by
 unfold Z56 Z56_q
 refine Eq.trans ?_ (Q.some_bind _)
 refine Q.wrapOO fun Kb7 hKb7 => ?_
 refine Z56_l7_qe  Kb7 ?_ _ _ _ ⟨Nat.succ_pos _, by omega⟩
 intro n7 s3_8 s4_9
 refine Eq.trans ?_ (hKb7 _).symm
 refine Q.wrapPO fun Kj3 hKj3 => ?_
 have hj3 : ∀ (s3_4 : (Sl TFault)), Z56_j3  s3_4 = Kj3 s3_4 := by
  intro s3_4
  refine Eq.trans ?_ (hKj3 _).symm
  unfold Z56_j3
  all_goals rfl
 all_goals exact hj3 _
end Go.Proofs

namespace Go.Proofs
open Go Go.Ab
def nnW (w : List Int) : Bool := w.head? == some 1
def liW (w : List Int) : Bool := w.head? == some 2
def barS (s : Sl Int) : Sl Int := bif nnW s.l then ⟨s.nl, s.l.drop 1⟩ else s
def bar (t : TRef) : TRef := ⟨t.FName, barS t.FWraps⟩
def innerT (t : TRef) : TRef := ⟨t.FName, ⟨(barS t.FWraps).nl, (barS t.FWraps).l.drop 1⟩⟩
theorem clone_eq {s : Sl Int} (h : SOk s) : Z74_q s = some s := by
 unfold Z74_q
 obtain ⟨nl, l⟩ := s
 cases nl with
 | true => have := h.1 rfl; simp only at this; subst this; rfl
 | false =>
  simp only [cond_false]
  rw [appC_ok (by omega) (by have := h.2; simp at this ⊢; omega)]
  simp
theorem isNonNull_eq (t : TRef) : Z87_q t = nnW t.FWraps.l := by
 unfold Z87_q nnW on
 cases t.FWraps.l with
 | nil => rfl
 | cons a r => simp; by_cases h : a = 1 <;> simp [h]
theorem head_one {w : List Int} (h : nnW w = true) : 1 ≤ w.length := by cases w <;> simp [nnW] at h ⊢
theorem sok_drop {α : Type} {s : Sl α} (n : Nat) (h : SOk s) : SOk ⟨s.nl, s.l.drop n⟩ := ⟨fun e => by simp [h.1 e], by have := h.2; simp; omega⟩
theorem barS_ok {s : Sl Int} (h : SOk s) : SOk (barS s) := by
 unfold barS
 cases nnW s.l with
 | true => exact sok_drop 1 h
 | false => exact h
theorem innerT_ok {t : TRef} (h : SOk t.FWraps) : SOk (innerT t).FWraps := sok_drop 1 (barS_ok h)
theorem nullable_eq {t : TRef} (h : SOk t.FWraps) : Z88_q t = some (bar t) := by
 unfold Z88_q bar barS on
 simp only [isNonNull_eq]
 cases hn : nnW t.FWraps.l with
 | true =>
  simp only [cond_true]
  rw [partC_tail (head_one hn)]
  simp only [Option.bind_some]
  rw [clone_eq (sok_drop 1 h)]; rfl
 | false =>
  simp only [cond_false, Option.bind_some]
  rw [clone_eq h]; rfl
theorem isList_eq {t : TRef} (h : SOk t.FWraps) : Z86_q t = some (liW (barS t.FWraps).l) := by
 unfold Z86_q
 rw [nullable_eq h]
 simp only [Option.bind_some, on, bar, liW]
 cases (barS t.FWraps).l with
 | nil => rfl
 | cons a r => simp; by_cases h : a = 2 <;> simp [h]
theorem list_one {w : List Int} (h : liW w = true) : 1 ≤ w.length := by cases w <;> simp [liW] at h ⊢
theorem inner_eq {t : TRef} (h : SOk t.FWraps) : Z85_q t = some (bif liW (barS t.FWraps).l then (innerT t, true) else (⟨[], Sl.nil⟩, false)) := by
 unfold Z85_q
 rw [isList_eq h]
 simp only [Option.bind_some]
 cases hl : liW (barS t.FWraps).l with
 | false => rfl
 | true =>
  simp only [Bool.not_true, cond_false, cond_true]
  rw [nullable_eq h]
  simp only [Option.bind_some, bar]
  rw [partC_tail (list_one hl)]
  rfl
theorem findAux (l : List TDef) (s : Bs) : Z68_q7 s l = (match l.find? (fun t => t.FName == s) with | some t => Sum.inr (t, true) | none => Sum.inl ()) := by
 induction l with
 | nil => rfl
 | cons a r ih =>
  rw [Z68_q7, List.find?_cons]
  simp only [on, ih]
  cases a.FName == s <;> rfl
def fnd (l : List TDef) (s : Bs) : TDef × Bool := match l.find? (fun t => t.FName == s) with | some t => (t, true) | none => (TDef.zero, false)
theorem find_eq (d : TDoc) (s : Bs) : Z68_q d s = fnd d.FDefs.l s := by
 unfold Z68_q fnd on
 rw [findAux]
 cases d.FDefs.l.find? (fun t => t.FName == s) <;> rfl
theorem fnd_mem (l : List TDef) (s : Bs) : (fnd l s).1 = TDef.zero ∨ (fnd l s).1 ∈ l := by
 unfold fnd
 cases h : l.find? (fun t => t.FName == s) with
 | none => exact .inl rfl
 | some t => exact .inr (List.mem_of_find?_eq_some h)
theorem inputAux (l : List TInput) (s : Bs) : Z69_q7 s l = (match l.find? (fun t => t.FName == s) with | some t => Sum.inr (t, true) | none => Sum.inl ()) := by
 induction l with
 | nil => rfl
 | cons a r ih =>
  rw [Z69_q7, List.find?_cons]
  simp only [on, ih]
  cases a.FName == s <;> rfl
def fndI (l : List TInput) (s : Bs) : TInput × Bool := match l.find? (fun t => t.FName == s) with | some t => (t, true) | none => (TInput.zero, false)
theorem inputOf_eq (t : Sl TInput) (s : Bs) : Z69_q t s = fndI t.l s := by
 unfold Z69_q fndI on
 rw [inputAux]
 cases t.l.find? (fun t => t.FName == s) <;> rfl
theorem r05_isNonNull_eq (t : TRef) : Z36_q t = nnW t.FWraps.l := isNonNull_eq t
def RefEq (a b : TRef) : Prop := a.FName = b.FName ∧ a.FWraps.l = b.FWraps.l
theorem Z39_is {t : TRef} (h : t.FWraps.l.length ≤ 1048576) (h1 : 1 ≤ t.FWraps.l.length) : Z39_q t = some ⟨t.FName, ⟨false, t.FWraps.l.drop 1⟩⟩ := by
 unfold Z39_q
 rw [partC_tail h1]
 simp only [Option.bind_some]
 rw [appC_ok (by omega) (by simp; omega)]
 rfl
theorem r05_nullable_eq {t : TRef} (h : t.FWraps.l.length ≤ 1048576) : Z37_q t = some ⟨t.FName, ⟨false, (barS t.FWraps).l⟩⟩ := by
 unfold Z37_q
 simp only [on, r05_isNonNull_eq, barS]
 cases hn : nnW t.FWraps.l with
 | true => simp only [cond_true]; rw [Z39_is h (head_one hn)]; rfl
 | false =>
  simp only [cond_false]
  rw [appC_ok (by omega) (by simp; omega)]
  rfl
theorem barS_len (s : Sl Int) : (barS s).l.length ≤ s.l.length := by unfold barS; cases nnW s.l <;> simp
theorem r05_isList_eq {t : TRef} (h : t.FWraps.l.length ≤ 1048576) : Z35_q t = some (liW (barS t.FWraps).l) := by
 unfold Z35_q
 rw [r05_nullable_eq h]
 simp only [Option.bind_some, on, liW]
 cases (barS t.FWraps).l with
 | nil => rfl
 | cons a r => simp; by_cases h : a = 2 <;> simp [h]
theorem r05_inner_eq {t : TRef} (h : t.FWraps.l.length ≤ 1048576) : ∃ x, Z34_q t = some (x, liW (barS t.FWraps).l) ∧ (liW (barS t.FWraps).l = true → RefEq (innerT t) x) := by
 unfold Z34_q
 rw [r05_isList_eq h]
 simp only [Option.bind_some]
 cases hl : liW (barS t.FWraps).l with
 | false => exact ⟨_, rfl, fun h => by cases h⟩
 | true =>
  have := barS_len t.FWraps
  simp only [Bool.not_true, cond_false]
  rw [r05_nullable_eq h]
  simp only [Option.bind_some]
  rw [Z39_is (show (barS t.FWraps).l.length ≤ 1048576 by omega) (list_one hl)]
  exact ⟨_, rfl, fun _ => ⟨rfl, rfl⟩⟩
theorem RefEq.bar {a b : TRef} (h : RefEq a b) : (barS a.FWraps).l = (barS b.FWraps).l := by
 unfold barS; rw [h.2]; cases nnW b.FWraps.l <;> simp [h.2]
theorem r10_findAux (l : List TDef) (s : Bs) : Z51_q6 s l = Z68_q7 s l := by
 induction l with
 | nil => rfl
 | cons a r ih => rw [Z51_q6, Z68_q7, ih]; rfl
theorem r10_find_eq (d : TDoc) (s : Bs) : Z51_q d s = fnd d.FDefs.l s := by
 rw [← find_eq]; unfold Z51_q Z68_q; rw [r10_findAux]; all_goals rfl
theorem r10_inputAux (l : List TInput) (s : Bs) : Z52_q6 s l = Z69_q7 s l := by
 induction l with
 | nil => rfl
 | cons a r ih => rw [Z52_q6, Z69_q7, ih]; rfl
theorem r10_inputOf_eq (t : Sl TInput) (s : Bs) : Z52_q t s = fndI t.l s := by
 rw [← inputOf_eq]; unfold Z52_q Z69_q; rw [r10_inputAux]; all_goals rfl
theorem fnd_none (l : List TDef) (s : Bs) (h : (fnd l s).2 = false) : (fnd l s).1 = TDef.zero := by
 unfold fnd at *
 cases e : l.find? (fun t => t.FName == s) with
 | none => rfl
 | some t => rw [e] at h; cases h
theorem r10_leaf_eq (d : TDoc) (s : Bs) : Z54_q d s = Z71_q d s := by
 unfold Z54_q Z71_q Z73_q
 simp only [on, r10_find_eq, find_eq]
 show (Z72_q s || _) = _
 cases h : (fnd d.FDefs.l s).2 with
 | true => cases Z72_q s <;> simp
 | false => rw [fnd_none _ _ h]; cases Z72_q s <;> simp [TDef.zero]
theorem r10_isInput_eq (d : TDoc) (s : Bs) : Z53_q d s = Z70_q d s := by
 unfold Z53_q Z70_q Z73_q
 simp only [on, r10_find_eq, find_eq, r10_leaf_eq]
 cases h : (fnd d.FDefs.l s).2 with
 | true => cases Z71_q d s <;> simp
 | false => rw [fnd_none _ _ h]; cases Z71_q d s <;> simp [TDef.zero]
theorem isInput_kind {d : TDoc} {s : Bs} (h : Z70_q d s = true) (hs : Z72_q s = false) : (fnd d.FDefs.l s).1.FKind = 4 ∨ (fnd d.FDefs.l s).1.FKind = 5 := by
 unfold Z70_q Z71_q Z73_q on at h
 simp only [hs, find_eq, Bool.not_false, cond_true, Bool.false_or] at h
 by_cases h4 : (fnd d.FDefs.l s).1.FKind = 4
 ·exact .inl h4
 ·simp [h4] at h; exact .inr h
end Go.Proofs

namespace Go.Proofs
open Go Go.Ab
def bB : Nat := 549755813888
def Rl : Nat → TValue → TValue → Prop
 | 0, _, _ => False
 | n + 1, v, w => v.FKind = w.FKind ∧ (v.FInt = w.FInt ∧ -9223372036854775808 ≤ v.FInt ∧ v.FInt ≤ 9223372036854775807) ∧ v.FText = w.FText ∧ v.FKeys.l = w.FKeys.l ∧ (v.FKeys.nl = true → v.FKeys.l = []) ∧ v.FKeys.l.length ≤ bB ∧ v.FItems.l.length ≤ bB ∧
  (v.FKind = 3 ∨ v.FKind = 4 → v.FInt = 0 ∧ v.FItems.l = [] ∧ v.FKeys.l = []) ∧ All2 (Rl n) v.FItems.l w.FItems.l
theorem Rl.mono : ∀ {n m : Nat} {v w : TValue}, n ≤ m → Rl n v w → Rl m v w
 | 0, _, _, _, _, h => h.elim
 | n + 1, 0, _, _, hn, _ => by omega
 | n + 1, m + 1, v, w, hn, ⟨a, b, c, d, e, f, g, i, k⟩ => ⟨a, b, c, d, e, f, g, i, k.imp fun _ _ h => Rl.mono (by omega) h⟩
theorem appC80 {α : Type} {s r : Sl α} (h : s.l.length + r.l.length ≤ 1099511627776) : appC 80 s r = some ⟨s.nl && r.l.isEmpty, s.l ++ r.l⟩ := by
 unfold appC; rw [if_pos]
 have : (s.l.length + r.l.length) * 80 ≤ 1099511627776 * 80 := Nat.mul_le_mul_right _ h
 unfold maxN; omega
theorem cloneS_eq {s : Sl Bs} (h : s.nl = true → s.l = []) (hl : s.l.length ≤ bB) : ∃ r, Z75_q s = some r ∧ r.l = s.l ∧ (r.nl = true → r.l = []) := by
 unfold Z75_q
 unfold bB at hl
 cases hn : s.nl with
 | true => exact ⟨Sl.nil, rfl, (h hn).symm, fun _ => rfl⟩
 | false => rw [cond_false, appC_ok32 (by omega) (by simp; omega)]; exact ⟨_, rfl, by simp, fun e => by simp at e⟩
theorem copy_rl : ∀ (n : Nat) {v w : TValue}, Rl n v w → ∀ m, 2 * n ≤ m → ∃ r, value_Copy_qn m v = some r ∧ Rl n r w
 | 0, _, _, h, _, _ => h.elim
 | n + 1, v, w, ⟨h1, h2, h3, h4, h5, h6, h7, h8, h9⟩, m, hm => by
  obtain ⟨m1, rfl⟩ : ∃ m1, m = m1 + 1 + 1 := ⟨m - 2, by omega⟩
  have hl : ∀ (l l' : List TValue) (acc acc' : List TValue) (s : Sl TValue), All2 (Rl n) l l' → All2 (Rl n) acc acc' → s.l = acc → s.l.length + l.length ≤ bB → ∃ s' : Sl TValue, Z91_q8 (value_Copy_qn m1) l s = some s' ∧ All2 (Rl n) s'.l (acc' ++ l') := by
   intro l l' acc acc' s hl
   induction hl generalizing acc acc' s with
   | nil => intro ha e _; exact ⟨s, rfl, by rw [e]; simpa using ha⟩
   | @cons a b t t' hab ht ih =>
    intro ha e hb
    obtain ⟨r, hr, hr'⟩ := copy_rl n hab m1 (by omega)
    rw [Z91_q8]
    simp only [Ab.on, hr, Option.bind_some]
    simp only [List.length_cons] at hb
    rw [appC80 (by unfold bB at hb; simp; omega), Option.bind_some]
    obtain ⟨s', e1, e2⟩ := ih (acc ++ [r]) (acc' ++ [b]) ⟨s.nl && [r].isEmpty, s.l ++ [r]⟩ (ha.append (.cons hr' .nil)) (by simp [e]) (by simp; omega)
    exact ⟨s', e1, by simpa using e2⟩
  obtain ⟨s', e1, e2⟩ := hl v.FItems.l w.FItems.l [] [] Sl.nil h9 .nil rfl (by simpa [Sl.nil] using h7)
  obtain ⟨k, e3, e4, e5⟩ := cloneS_eq h5 h6
  rw [value_Copy_qn, Z91_qn, e1, Option.bind_some]
  simp only [Ab.on, Option.bind_some, e3]
  have hlen := e2.length
  simp only [List.nil_append] at e2 hlen
  refine ⟨_, rfl, h1, h2, h3, ?_, e5, ?_, ?_, fun hk => ?_, e2⟩
  ·show k.l = _; rw [e4]; exact h4
  ·show k.l.length ≤ _; rw [e4]; exact h6
  ·show s'.l.length ≤ _; rw [hlen, ← h9.length]; exact h7
  ·obtain ⟨q1, q2, q3⟩ := h8 hk
   have : s'.l = [] := List.eq_nil_of_length_eq_zero (by rw [hlen, ← h9.length, q2]; rfl)
   exact ⟨q1, this, by show k.l = []; rw [e4]; exact q3⟩
theorem rcopy_rl : ∀ (n : Nat) {v w : TValue}, Rl n v w → ∀ m, 2 * n ≤ m → ∃ r, r02_Copy_qn m w = some r ∧ Rl n v r
 | 0, _, _, h, _, _ => h.elim
 | n + 1, v, w, ⟨h1, h2, h3, h4, h5, h6, h7, h8, h9⟩, m, hm => by
  obtain ⟨m1, rfl⟩ : ∃ m1, m = m1 + 1 + 1 := ⟨m - 2, by omega⟩
  have hl : ∀ (l l' : List TValue) (acc acc' : List TValue) (s : Sl TValue), All2 (Rl n) l l' → All2 (Rl n) acc acc' → s.l = acc' → s.l.length + l'.length ≤ bB → ∃ s' : Sl TValue, Z29_q7 (r02_Copy_qn m1) l' s = some s' ∧ All2 (Rl n) (acc ++ l) s'.l := by
   intro l l' acc acc' s hl
   induction hl generalizing acc acc' s with
   | nil => intro ha e _; exact ⟨s, rfl, by rw [e]; simpa using ha⟩
   | @cons a b t t' hab ht ih =>
    intro ha e hb
    obtain ⟨r, hr, hr'⟩ := rcopy_rl n hab m1 (by omega)
    rw [Z29_q7]
    simp only [Ab.on, hr, Option.bind_some]
    simp only [List.length_cons] at hb
    rw [appC80 (by unfold bB at hb; simp; omega), Option.bind_some]
    obtain ⟨s', e1, e2⟩ := ih (acc ++ [a]) (acc' ++ [r]) ⟨s.nl && [r].isEmpty, s.l ++ [r]⟩ (ha.append (.cons hr' .nil)) (by simp [e]) (by simp; omega)
    exact ⟨s', e1, by simpa using e2⟩
  obtain ⟨s', e1, e2⟩ := hl v.FItems.l w.FItems.l [] [] Sl.nil h9 .nil rfl (by rw [← h9.length]; simpa [Sl.nil] using h7)
  rw [r02_Copy_qn, Z29_qn, e1, Option.bind_some]
  simp only [Ab.on, Option.bind_some]
  rw [appC_ok32 (by omega) (by rw [← h4]; unfold bB at h6; simp; omega), Option.bind_some]
  simp only [List.nil_append] at e2
  exact ⟨_, rfl, h1, h2, h3, (show v.FKeys.l = [] ++ w.FKeys.l by simpa using h4), h5, h6, h7, h8, e2⟩
end Go.Proofs

namespace Go.Proofs
open Go Go.Ab
theorem cnt_both (d : TDoc) (va : TValue) (li : Bool) (n lvl : Int) (hn : 0 ≤ n ∧ n ≤ 4096) :
  (∃ e c' k', e ≠ 0 ∧ Z9_q ⟨d, va, li, n⟩ lvl = some (e, c') ∧ Z63_q ⟨d, va, li, n, 0⟩ lvl = some k' ∧ k'.Ferr = e) ∨
  (lvl ≤ 24 ∧ n + 1 ≤ 4096 ∧ Z9_q ⟨d, va, li, n⟩ lvl = some (0, ⟨d, va, li, n + 1⟩) ∧ Z63_q ⟨d, va, li, n, 0⟩ lvl = some ⟨d, va, li, n + 1, 0⟩) := by
 have ha : addC n (1 : Int) = some (n + 1) := addC_ok (by omega)
 unfold Z9_q Z63_q Z61_q
 simp only [Ab.on, ha, Option.bind_some]
 by_cases h1 : (24 : Int) < lvl
 ·left
  simp only [h1, decide_true, cond_true, ha, Option.bind_some]
  by_cases h2 : (4096 : Int) < n + 1
  ·exact ⟨5, _, _, by omega, rfl, by simp [h2]; rfl, rfl⟩
  ·exact ⟨5, _, _, by omega, rfl, by simp [h2]; rfl, rfl⟩
 ·simp only [h1, decide_false, cond_false, ha, Option.bind_some]
  by_cases h2 : (4096 : Int) < n + 1
  ·left
   exact ⟨4, _, _, by omega, by simp [h2]; rfl, by simp [h2]; rfl, rfl⟩
  ·right
   exact ⟨by omega, by omega, by simp [h2], by simp [h2]⟩
def OutU (n : Nat) (d : TDoc) (va : TValue) (li : Bool) (v : TValue) (p : Option (Int × Coerce_coercer)) (q : Option (TValue × R12_work)) : Prop :=
 (∃ e c' x k', e ≠ 0 ∧ p = some (e, c') ∧ q = some (x, k') ∧ k'.Ferr = e) ∨ (∃ m x, 0 ≤ m ∧ m ≤ 4096 ∧ p = some (0, ⟨d, va, li, m⟩) ∧ q = some (x, ⟨d, va, li, m, 0⟩) ∧ Rl n v x)
theorem use_stop (a2 : Int) (k : R12_work → TValue → Int → Option (TValue × R12_work)) (l : List TValue) (w : R12_work) (x : TValue) (h : w.Ferr ≠ 0) : Z67_q14 a2 k l w x = some (w, x) := by
 cases l with
 | nil => rfl
 | cons a t => rw [Z67_q14]; simp [h]
theorem use_rel : ∀ (n : Nat) {v w : TValue}, Rl n v w → ∀ (m : Nat) (d : TDoc) (va : TValue) (li : Bool) (c lvl : Int), n ≤ m → 0 ≤ c ∧ c ≤ 4096 → 0 ≤ lvl ∧ lvl ≤ 1099511627776 →
  OutU n d va li v (Z15_qn m ⟨d, va, li, c⟩ v lvl) (Z67_qn m ⟨d, va, li, c, 0⟩ w lvl)
 | 0, _, _, h, _, _, _, _, _, _, _, _, _ => h.elim
 | n + 1, v, w, ⟨h1, h2, h3, h4, h5, h6, h7, h8, h9⟩, m, d, va, li, c, lvl, hm, hc, hl => by
  obtain ⟨m, rfl⟩ : ∃ m1, m = m1 + 1 := ⟨m - 1, by omega⟩
  rw [Z15_qn, Z67_qn]
  have hk : appC 16 ((TValue.mk w.FKind w.FInt w.FText true ([]) (Sl.nil : Sl Bs)).FKeys) w.FKeys = some ⟨true && w.FKeys.l.isEmpty, [] ++ w.FKeys.l⟩ := by
   rw [appC_ok32 (by omega) (by show ([] : List Bs).length + _ ≤ _; rw [← h4]; unfold bB at h6; simp; omega)]; rfl
  rcases cnt_both d va li c lvl hc with ⟨e, c', k', he, e1, e2, e3⟩ | ⟨hl2, hc2, e1, e2⟩
  ·left
   rw [e1, e2, Option.bind_some, Option.bind_some, hk, Option.bind_some, use_stop _ _ _ _ _ (by rw [e3]; exact he)]
   exact ⟨e, c', _, k', he, by simp [he], rfl, e3⟩
  ·rw [e1, e2, Option.bind_some, Option.bind_some, hk, Option.bind_some]
   have hloop : ∀ (l l' : List TValue) (acc acc' : List TValue) (x : TValue) (c : Int), All2 (Rl n) l l' → All2 (Rl n) acc acc' → x.FItems.l = acc' → x.FItems.l.length + l'.length ≤ bB → 0 ≤ c ∧ c ≤ 4096 →
     (∃ e c' k' x', e ≠ 0 ∧ Z15_q13 lvl (Z15_qn m) l ⟨d, va, li, c⟩ = some (Sum.inr (e, c')) ∧ Z67_q14 lvl (Z67_qn m) l' ⟨d, va, li, c, 0⟩ x = some (k', x') ∧ k'.Ferr = e) ∨
     (∃ c' x', 0 ≤ c' ∧ c' ≤ 4096 ∧ Z15_q13 lvl (Z15_qn m) l ⟨d, va, li, c⟩ = some (Sum.inl ⟨d, va, li, c'⟩) ∧ Z67_q14 lvl (Z67_qn m) l' ⟨d, va, li, c, 0⟩ x = some (⟨d, va, li, c', 0⟩, x') ∧
      x'.FKind = x.FKind ∧ x'.FInt = x.FInt ∧ x'.FText = x.FText ∧ x'.FKeys = x.FKeys ∧ All2 (Rl n) (acc ++ l) x'.FItems.l) := by
    intro l l' acc acc' x c hall
    induction hall generalizing acc acc' x c with
    | nil => intro ha e hb hc; right; exact ⟨c, x, hc.1, hc.2, rfl, rfl, rfl, rfl, rfl, rfl, by rw [e]; simpa using ha⟩
    | @cons a b t t' hab ht ih =>
     intro ha e hb hc
     simp only [List.length_cons] at hb
     rw [Z15_q13, Z67_q14]
     simp only [Ab.on, addC_ok (show -9223372036854775808 ≤ lvl + 1 ∧ lvl + 1 ≤ 9223372036854775807 by omega), Option.bind_some, decide_true, cond_true]
     rcases use_rel n hab m d va li c (lvl + 1) (by omega) hc (by omega) with ⟨e0, c', y, k', he, p1, p2, p3⟩ | ⟨c', y, hc1, hc2, p1, p2, p3⟩
     ·left
      rw [p1, p2, Option.bind_some, Option.bind_some, appC80 (by unfold bB at hb; simp; omega), Option.bind_some, use_stop _ _ _ _ _ (by rw [p3]; exact he)]
      exact ⟨e0, c', k', _, he, by simp [he], rfl, p3⟩
     ·rw [p1, p2, Option.bind_some, Option.bind_some, appC80 (by unfold bB at hb; simp; omega), Option.bind_some]
      have := ih (acc ++ [a]) (acc' ++ [y]) (TValue.mk x.FKind x.FInt x.FText (x.FItems.nl && [y].isEmpty) (x.FItems.l ++ [y]) x.FKeys) c' (ha.append (.cons p3 .nil)) (by show x.FItems.l ++ [y] = _; rw [e]) (by show (x.FItems.l ++ [y]).length + _ ≤ _; simp; omega) ⟨hc1, hc2⟩
      simp only [decide_true, Bool.not_true, cond_false]
      rcases this with ⟨e2, c2, k2, x2, g0, g1, g2, g3⟩ | ⟨c2, x2, g1, g2, g3, g4, q1, q2, q3, q4, q5⟩
      ·exact .inl ⟨e2, c2, k2, x2, g0, g1, g2, g3⟩
      ·exact .inr ⟨c2, x2, g1, g2, g3, g4, q1, q2, q3, q4, by simpa using q5⟩
   rcases hloop v.FItems.l w.FItems.l [] [] (TValue.mk w.FKind w.FInt w.FText true [] ⟨true && w.FKeys.l.isEmpty, [] ++ w.FKeys.l⟩) (c + 1) h9 .nil rfl (by show ([] : List TValue).length + _ ≤ _; rw [← h9.length]; simpa using h7) (by omega) with
    ⟨e, c', k', x', he, p1, p2, p3⟩ | ⟨c', x', g1, g2, p1, p2, q1, q2, q3, q4, q5⟩
   ·left
    refine ⟨e, c', x', k', he, ?_, ?_, p3⟩
    ·simp only [decide_true, Bool.not_true, cond_false, p1, Option.bind_some]
    ·exact (congrArg (fun o => Option.bind o _) p2)
   ·right
    refine ⟨c', x', g1, g2, ?_, ?_, by rw [q1]; exact h1, ⟨by rw [q2]; exact h2.1, h2.2⟩, by rw [q3]; exact h3, by rw [q4]; show _ = [] ++ w.FKeys.l; simpa using h4, h5, h6, h7, h8, by simpa using q5⟩
    ·simp only [decide_true, Bool.not_true, cond_false, p1, Option.bind_some, Ab.on]
    ·exact (congrArg (fun o => Option.bind o _) p2)
end Go.Proofs

namespace Go.Proofs
open Go Go.Ab
def zv : TValue := TValue.mk (0 : Int) (0 : Int) ([] : Bs) true ([]) (Sl.nil : Sl Bs)
theorem zv_rl : Rl 1 zv zv := ⟨rfl, ⟨rfl, by decide, by decide⟩, rfl, rfl, fun _ => rfl, by show 0 ≤ _; omega, by show 0 ≤ _; omega, fun _ => ⟨rfl, rfl, rfl⟩, .nil⟩
theorem get_rl {n : Nat} {v w : TValue} (h : Rl (n + 1) v w) (hn : n ≤ 1099511627776) (s : Bs) : ∃ x y b, Z89_q v s = some (x, b) ∧ Z26_q w s = some (y, b) ∧ ((b = true ∧ Rl n x y) ∨ (b = false ∧ x = zv ∧ y = zv)) := by
 obtain ⟨h1, h2, h3, h4, h5, h6, h7, h8, h9⟩ := h
 have hk : ∀ (l : List Bs) (i : Nat), (∃ j : Nat, Z80_q6 s l i = Sum.inr (j : Int) ∧ ∀ w : TValue, Z26_q10 w s l i = (bif decide (((w.FItems.l.length : Nat) : Int) ≤ ((j : Nat) : Int)) then some (Sum.inr (zv, false)) else ((w.FItems.l[j]?).bind fun x27 => (r02_Copy_q x27).bind fun x28 => some (Sum.inr (x28, true))))) ∨
   (Z80_q6 s l i = Sum.inl () ∧ ∀ w : TValue, Z26_q10 w s l i = some (Sum.inl ())) := by
  intro l
  induction l with
  | nil => intro i; exact .inr ⟨rfl, fun _ => rfl⟩
  | cons a r ih =>
   intro i
   rw [Z80_q6]
   simp only [Ab.on]
   cases e : (s == a) with
   | true => exact .inl ⟨i, rfl, fun w => by rw [Z26_q10]; simp only [Ab.on, show (a == s) = true by rw [Bool.beq_comm]; exact e, cond_true]; rfl⟩
   | false =>
    have e' : (a == s) = false := by rw [Bool.beq_comm]; exact e
    rcases ih (i + 1) with ⟨j, q1, q2⟩ | ⟨q1, q2⟩
    ·exact .inl ⟨j, q1, fun w => by rw [Z26_q10]; simp only [Ab.on, e', cond_false]; exact q2 w⟩
    ·exact .inr ⟨q1, fun w => by rw [Z26_q10]; simp only [Ab.on, e', cond_false]; exact q2 w⟩
 have hV : ∀ i : Int, Z80_q v.FKeys s = i → Z89_q v s = (if v.FKind = 6 ∧ 0 ≤ i ∧ i < v.FItems.l.length then ((idxC v.FItems.l i).bind fun x9 => (value_Copy_q x9).bind fun x10 => some (x10, true)) else some (zv, false)) := by
  intro i hi
  unfold Z89_q
  rw [hi]
  by_cases q1 : v.FKind = 6 <;> by_cases q2 : i < 0 <;> by_cases q3 : (v.FItems.l.length : Int) ≤ i <;> simp [Ab.on, q1, q2, q3, zv] <;> try omega
  all_goals (rw [if_pos (by omega)])
 unfold Z26_q
 rw [← h1, ← h4]
 rcases hk v.FKeys.l 0 with ⟨j, q1, q2⟩ | ⟨q1, q2⟩
 ·have hi : Z80_q v.FKeys s = (j : Int) := by unfold Z80_q; rw [q1]; rfl
  rw [hV _ hi, q2 w, ← h9.length]
  by_cases h6' : v.FKind = 6
  ·simp only [h6', decide_true, Bool.not_true, cond_false, true_and]
   by_cases hj : j < v.FItems.l.length
   ·obtain ⟨y, hy, hr⟩ := h9.get (List.getElem?_eq_getElem hj)
    obtain ⟨x', e1, r1⟩ := copy_rl n hr F0 (by rw [F0_eq]; omega)
    obtain ⟨y', e2, r2⟩ := rcopy_rl n r1 F0 (by rw [F0_eq]; omega)
    have hq : decide (((v.FItems.l.length : Nat) : Int) ≤ (j : Int)) = false := decide_eq_false (by omega)
    refine ⟨x', y', true, ?_, ?_, .inl ⟨rfl, r2⟩⟩
    ·rw [if_pos (by omega)]
     unfold idxC; rw [if_pos (by omega)]
     rw [show ((j : Int).toNat) = j by omega, List.getElem?_eq_getElem hj, Option.bind_some]
     unfold value_Copy_q; rw [e1]; rfl
    ·rw [hq, cond_false, hy, Option.bind_some]; unfold r02_Copy_q; rw [e2]; rfl
   ·have hq : decide (((v.FItems.l.length : Nat) : Int) ≤ (j : Int)) = true := decide_eq_true (by omega)
    refine ⟨zv, zv, false, by rw [if_neg (by omega)], ?_, .inr ⟨rfl, rfl, rfl⟩⟩
    rw [hq]; rfl
  ·refine ⟨zv, zv, false, by rw [if_neg (fun h => h6' h.1)], ?_, .inr ⟨rfl, rfl, rfl⟩⟩
   simp only [h6', decide_false, Bool.not_false, cond_true]; rfl
 ·have hi : Z80_q v.FKeys s = -1 := by unfold Z80_q; rw [q1]; rfl
  rw [hV _ hi, q2 w]
  refine ⟨zv, zv, false, by rw [if_neg (by omega)], ?_, .inr ⟨rfl, rfl, rfl⟩⟩
  cases decide (v.FKind = 6) <;> rfl
theorem missing_eq {n : Nat} {va : TValue} (h : Rl (n + 1) va va) (hn : n ≤ 1099511627776) (d : TDoc) (li : Bool) (c : Int) {m : Nat} {v w : TValue} (hv : Rl m v w) :
  ∃ b, Z12_q ⟨d, va, li, c⟩ v = some b ∧ Z62_q ⟨d, va, li, c, 0⟩ w = some b := by
 cases m with
 | zero => exact hv.elim
 | succ m =>
  obtain ⟨h1, _, h3, _⟩ := hv
  unfold Z12_q Z62_q
  simp only
  rw [← h1, ← h3]
  obtain ⟨x, y, b, e1, e2, _⟩ := get_rl h hn v.FText
  rw [e1, e2]
  cases li <;> cases hk : decide (v.FKind = 7) <;> exact ⟨_, rfl, rfl⟩
end Go.Proofs

namespace Go.Proofs
open Go Go.Ab
theorem u8_small {n : Nat} (h : n < 256) : IntKind.wrap .u8 (n : Int) = (n : Int) := by
 have : (n : Int) % 256 = n := by omega
 simp [IntKind.wrap, IntKind.bits, IntKind.signed]; omega
theorem bytes_one (k : Nat) : bytesC (⟨false, [((48 + k : Nat) : Int)]⟩ : Sl Int) = [UInt8.ofNat (48 + k)] := by
 show [UInt8.ofNat ((48 + k : Nat) : Int).toNat] = _
 rw [Int.toNat_natCast]
theorem dlen : ∀ (f u : Nat), u < 10 ^ f → (Lib.decDigits u).length ≤ f + 1 := by
 intro f
 induction f with
 | zero =>
  intro u hu
  have : u = 0 := by simpa using hu
  subst this; rw [Lib.decDigits]; simp
 | succ f ih =>
  intro u hu
  rw [Lib.decDigits]
  split
  ·simp
  ·have := ih (u / 10) (by rw [Nat.pow_succ] at hu; omega)
   simp; omega
theorem dlen20 {u : Nat} (h : u ≤ 9223372036854775808) : (Lib.decDigits u).length ≤ 21 := dlen 20 u (by omega)
theorem itoaLen {n : Int} (h0 : -9223372036854775808 ≤ n) (h1 : n ≤ 9223372036854775807) : (Lib.itoa n).length ≤ 22 := by
 unfold Lib.itoa
 split
 ·have := dlen20 (u := n.natAbs) (by omega); simp; omega
 ·have := dlen20 (u := n.toNat) (by omega); omega
theorem digits_eq : ∀ (f u : Nat), u < 10 ^ f → u ≤ 9223372036854775808 → f ≤ 30 → ∀ m, f + 1 ≤ m → Z23_qn m (-(u : Int)) = some (Lib.decDigits u) := by
 intro f
 induction f with
 | zero =>
  intro u hu hb hf m hm
  have : u = 0 := by simpa using hu
  subst this
  obtain ⟨m, rfl⟩ : ∃ k, m = k + 1 := ⟨m - 1, by omega⟩
  rw [Lib.decDigits]; rfl
 | succ f ih =>
  intro u hu hb hf m hm
  obtain ⟨m, rfl⟩ : ∃ k, m = k + 1 := ⟨m - 1, by omega⟩
  have h1 : Int.tmod (-(u : Int)) 10 = -((u % 10 : Nat) : Int) := by rw [Int.neg_tmod]; rfl
  have h2 : Int.tdiv (-(u : Int)) 10 = -((u / 10 : Nat) : Int) := by rw [Int.neg_tdiv]; rfl
  rw [Z23_qn, h1, h2, subC_ok (by omega), Option.bind_some]
  have h3 : (48 : Int) - -((u % 10 : Nat) : Int) = ((48 + u % 10 : Nat) : Int) := by omega
  rw [h3, u8_small (by omega), Lib.decDigits]
  by_cases hs : u < 10
  ·rw [dif_pos hs, show decide ((-10 : Int) < -(u : Int)) = true from decide_eq_true (by omega), cond_true, Nat.mod_eq_of_lt hs, bytes_one]
  ·rw [dif_neg hs, show decide ((-10 : Int) < -(u : Int)) = false from decide_eq_false (by omega), cond_false, IntWalk.i64_in _ (by omega), ih (u / 10) (by rw [Nat.pow_succ] at hu; omega) (by omega) (by omega) m (by omega), Option.bind_some]
   have hl := dlen20 (u := u / 10) (by omega)
   rw [bytes_one, catC_ok (by simp; omega), Option.bind_some]
theorem decimal_eq {n : Int} (h0 : -9223372036854775808 ≤ n) (h1 : n ≤ 9223372036854775807) : Z20_q n = some (Lib.itoa n) := by
 unfold Z20_q Z23_q
 have hF : ∀ u : Nat, u ≤ 9223372036854775808 → Z23_qn F0 (-(u : Int)) = some (Lib.decDigits u) := fun u hu => digits_eq 20 u (by omega) hu (by omega) F0 (by rw [F0_eq]; omega)
 by_cases hn : n < 0
 ·obtain ⟨u, rfl⟩ : ∃ u : Nat, n = -(u : Int) := ⟨n.natAbs, by omega⟩
  rw [show decide (-(u : Int) < 0) = true from decide_eq_true hn, cond_true, hF u (by omega), Option.bind_some]
  have hl := dlen20 (u := u) (by omega)
  rw [catC_ok (by simp; omega), Option.bind_some]
  unfold Lib.itoa; rw [if_pos hn, show (-(u : Int)).natAbs = u by omega]; rfl
 ·obtain ⟨u, rfl⟩ : ∃ u : Nat, n = (u : Int) := ⟨n.natAbs, by omega⟩
  rw [show decide ((u : Int) < 0) = false from decide_eq_false hn, cond_false, IntWalk.i64_in _ (by omega), show (0 : Int) - (u : Int) = -(u : Int) by omega, hF u (by omega), Option.bind_some]
  unfold Lib.itoa; rw [if_neg hn, Int.toNat_natCast]
theorem textDecimal_eq {n : Int} (h0 : -9223372036854775808 ≤ n) (h1 : n ≤ 9223372036854775807) : Z83_q n = some (Lib.itoa n) := by
 unfold Z83_q Z81_q Z81
 rw [if_pos ⟨h0, h1, by have := itoaLen h0 h1; unfold maxS; omega⟩]; rfl
end Go.Proofs

namespace Go.Proofs
open Go Go.Ab
def textV (s : Bs) : TValue := TValue.mk (3 : Int) (0 : Int) s true ([]) (Sl.nil : Sl Bs)
theorem textV_rl (s : Bs) : Rl 1 (textV s) (textV s) := ⟨rfl, ⟨rfl, by show _ ≤ (0 : Int); decide, by show (0 : Int) ≤ _; decide⟩, rfl, rfl, fun _ => rfl, by show 0 ≤ _; omega, by show 0 ≤ _; omega, fun _ => ⟨rfl, rfl, rfl⟩, .nil⟩
def OutL (n : Nat) (d : TDoc) (va : TValue) (li : Bool) (c : Int) (p : Option (TValue × Int)) (q : Option (TValue × R12_work)) : Prop :=
 (∃ x y k', p = some (x, 23) ∧ q = some (y, k') ∧ k'.Ferr = 23) ∨ (∃ x y, p = some (x, 0) ∧ q = some (y, ⟨d, va, li, c, 0⟩) ∧ Rl n x y)
theorem fail_new (d : TDoc) (va : TValue) (li : Bool) (c e : Int) : Z61_q ⟨d, va, li, c, 0⟩ e = ⟨d, va, li, c, e⟩ := rfl
theorem scalar_rel {n : Nat} {v w : TValue} (h : Rl (n + 1) v w) (d : TDoc) (va : TValue) (li : Bool) (c : Int) (s : Bs) (hs : Z72_q s = true) :
  OutL (n + 1) d va li c (Z10_q ⟨d, va, li, c⟩ s v) (Z66_q ⟨d, va, li, c, 0⟩ s w) := by
 obtain ⟨h1, h2, h3, _⟩ := id h
 have htx : Z20_q v.FInt = some (Lib.itoa v.FInt) := decimal_eq h2.2.1 h2.2.2
 have htx' : Z83_q v.FInt = some (Lib.itoa v.FInt) := textDecimal_eq h2.2.1 h2.2.2
 have hT : Z90_q (Lib.itoa v.FInt) = textV (Lib.itoa v.FInt) := rfl
 have hrl : Rl (n + 1) (textV (Lib.itoa v.FInt)) (textV (Lib.itoa v.FInt)) := (textV_rl _).mono (by omega)
 unfold Z10_q Z66_q
 rw [← h1, ← h2.1]
 simp only [Ab.on, fail_new, htx, htx', hT, Option.bind_some]
 unfold Z72_q at hs
 cases e1 : (s == ([73, 110, 116] : Bs))
 ·cases e2 : (s == ([83, 116, 114, 105, 110, 103] : Bs))
  ·cases e3 : (s == ([66, 111, 111, 108, 101, 97, 110] : Bs))
   ·cases e4 : (s == ([73, 68] : Bs))
    ·rw [e1, e2, e3, e4] at hs; cases hs
    ·by_cases k2 : v.FKind = 2
     ·simp only [k2, decide_true, cond_true, cond_false, Bool.false_and, Bool.and_true, Bool.true_and, Option.bind_some]
      exact .inr ⟨_, _, rfl, rfl, hrl⟩
     ·by_cases k3 : v.FKind = 3
      ·simp [k3]
       exact .inr ⟨_, _, rfl, rfl, h⟩
      ·simp [k2, k3]
       exact .inl ⟨_, _, _, rfl, rfl, rfl⟩
   ·by_cases k1 : v.FKind = 1
    ·simp [k1]
     exact .inr ⟨_, _, rfl, rfl, h⟩
    ·simp [k1]
     have e4 : (s == ([73, 68] : Bs)) = false := by
      rw [beq_iff_eq] at e3; rw [e3]; rfl
     simp [e4]
     exact .inl ⟨_, _, _, rfl, rfl, rfl⟩
  ·have e3 : (s == ([66, 111, 111, 108, 101, 97, 110] : Bs)) = false := by rw [beq_iff_eq] at e2; rw [e2]; rfl
   have e4 : (s == ([73, 68] : Bs)) = false := by rw [beq_iff_eq] at e2; rw [e2]; rfl
   by_cases k3 : v.FKind = 3
   ·simp [k3]
    exact .inr ⟨_, _, rfl, rfl, h⟩
   ·simp [k3, e3, e4]
    exact .inl ⟨_, _, _, rfl, rfl, rfl⟩
 ·have e2 : (s == ([83, 116, 114, 105, 110, 103] : Bs)) = false := by rw [beq_iff_eq] at e1; rw [e1]; rfl
  have e3 : (s == ([66, 111, 111, 108, 101, 97, 110] : Bs)) = false := by rw [beq_iff_eq] at e1; rw [e1]; rfl
  have e4 : (s == ([73, 68] : Bs)) = false := by rw [beq_iff_eq] at e1; rw [e1]; rfl
  by_cases k2 : v.FKind = 2 <;> by_cases k3 : (-2147483648 : Int) ≤ v.FInt <;> by_cases k4 : v.FInt < (2147483648 : Int) <;> simp [k2, k3, k4, e2, e3, e4]
  all_goals first
   | exact .inr ⟨_, _, rfl, rfl, h⟩
   | exact .inl ⟨_, _, _, rfl, rfl, rfl⟩
end Go.Proofs

namespace Go.Proofs
open Go Go.Ab
theorem contains_eq (ms : Sl TMember) (p : TMember → Bool) : Z77_q ms p = ms.l.any p := by
 have aux : ∀ (l : List TMember) (i : Nat), (l.any p = true → ∃ j : Nat, Z79_q6 p l i = Sum.inr (j : Int)) ∧ (l.any p = false → Z79_q6 p l i = Sum.inl ()) := by
  intro l
  induction l with
  | nil => intro i; exact ⟨fun h => (by cases h), fun _ => rfl⟩
  | cons a r ih =>
   intro i
   rw [Z79_q6, List.any_cons]
   simp only [Ab.on]
   cases p a with
   | true => exact ⟨fun _ => ⟨i, rfl⟩, fun h => (by cases h)⟩
   | false => simpa using ih (i + 1)
 unfold Z77_q Z79_q
 simp only [Ab.on]
 cases h : ms.l.any p with
 | true => obtain ⟨j, e⟩ := (aux ms.l 0).1 h; rw [e]; exact decide_eq_true (by show (0 : Int) ≤ (j : Int); omega)
 | false => rw [(aux ms.l 0).2 h]; rfl
theorem enum_loop (w : R12_work) (x : TValue) (l : List TMember) : Z60_q10 w x l = (if l.any (fun m => m.FName == x.FText) then Sum.inr (TValue.mk (4 : Int) (0 : Int) x.FText true ([]) (Sl.nil : Sl Bs), w) else Sum.inl ()) := by
 induction l with
 | nil => rfl
 | cons a r ih =>
  rw [Z60_q10, List.any_cons]
  simp only [Ab.on]
  cases a.FName == x.FText with
  | true => rfl
  | false => simpa using ih
theorem notScalar {s : Bs} (hs : Z72_q s = false) : (s == ([73, 110, 116] : Bs)) = false ∧ (s == ([83, 116, 114, 105, 110, 103] : Bs)) = false ∧ (s == ([66, 111, 111, 108, 101, 97, 110] : Bs)) = false ∧ (s == ([73, 68] : Bs)) = false := by
 unfold Z72_q at hs
 simp only [Bool.or_eq_false_iff] at hs
 exact ⟨hs.1.1.1, hs.1.1.2, hs.1.2, hs.2⟩
theorem enum_rel {n : Nat} {v w : TValue} (h : Rl (n + 1) v w) (d : TDoc) (va : TValue) (li : Bool) (c : Int) (s : Bs) (hs : Z72_q s = false) :
  OutL (n + 1) d va li c (Z10_q ⟨d, va, li, c⟩ s v) (some (Z60_q ⟨d, va, li, c, 0⟩ (fnd d.FDefs.l s).1 w)) := by
 obtain ⟨e1, e2, e3, e4⟩ := notScalar hs
 obtain ⟨h1, h2, h3, h4, h5, h6, h7, h8, h9⟩ := id h
 unfold Z10_q Z60_q Z11_q
 rw [← h1]
 simp only [e1, e2, e3, e4, Ab.on, fail_new, cond_false, find_eq, contains_eq, enum_loop, ← h3]
 have good : ∀ x : TValue, x.FKind = 4 → x.FInt = v.FInt → x.FText = v.FText → x.FItems.l = v.FItems.l → x.FKeys = v.FKeys → (v.FKind = 3 ∨ v.FKind = 4) → Rl (n + 1) x (TValue.mk (4 : Int) (0 : Int) v.FText true ([]) (Sl.nil : Sl Bs)) := by
  intro x a b c' d' e hk
  obtain ⟨g1, g2, g3⟩ := h8 hk
  refine ⟨a, ⟨by rw [b, g1]; rfl, by rw [b]; exact h2.2⟩, c', ?_, ?_, ?_, ?_, fun _ => ⟨by rw [b, g1], by rw [d', g2], by rw [e, g3]⟩, ?_⟩
  ·rw [e, g3]; rfl
  ·rw [e]; exact h5
  ·rw [e]; exact h6
  ·rw [d']; exact h7
  ·rw [d', g2]; exact .nil
 by_cases k4 : v.FKind = 4
 ·simp only [k4, decide_true, show decide ((4 : Int) = 3) = false from rfl, Bool.false_and, cond_false, cond_true, Bool.true_and, Bool.true_or]
  cases ha : (fnd d.FDefs.l s).1.FMembers.l.any (fun m => m.FName == v.FText) with
  | true => exact .inr ⟨_, _, rfl, rfl, good v k4 rfl rfl rfl rfl (.inr k4)⟩
  | false => exact .inl ⟨_, _, _, rfl, rfl, rfl⟩
 ·by_cases k3 : v.FKind = 3
  ·cases li with
   | true =>
    simp only [k3, decide_true, show decide ((3 : Int) = 4) = false from rfl, Bool.not_true, Bool.and_false, cond_false, Bool.false_and, Bool.false_or, Bool.not_false, cond_true]
    exact .inl ⟨_, _, _, rfl, rfl, rfl⟩
   | false =>
    simp only [k3, decide_true, Bool.not_false, Bool.and_true, cond_true, Bool.or_true]
    have hk : (TValue.mk (4 : Int) v.FInt v.FText v.FItems.nl v.FItems.l v.FKeys).FKind = 4 := rfl
    have ht : (TValue.mk (4 : Int) v.FInt v.FText v.FItems.nl v.FItems.l v.FKeys).FText = v.FText := rfl
    simp only [hk, ht, decide_true, cond_true, Bool.true_and]
    cases ha : (fnd d.FDefs.l s).1.FMembers.l.any (fun m => m.FName == v.FText) with
    | true => exact .inr ⟨_, _, rfl, rfl, good _ rfl rfl rfl rfl rfl (.inl k3)⟩
    | false => exact .inl ⟨_, _, _, rfl, rfl, rfl⟩
  ·simp only [k3, k4, decide_false, Bool.false_and, cond_false, Bool.not_false, cond_true, Bool.or_false]
   exact .inl ⟨_, _, _, rfl, rfl, rfl⟩
end Go.Proofs

namespace Go.Proofs
open Go Go.Ab
def atTail (n : Nat) (a1 : TRef) (a3 : Int) (y8_c0 : Coerce_coercer) (y9_l0 : TValue) : Option (TValue × Int × Coerce_coercer) :=
 (Z9_q y8_c0 a3).bind fun x13 => bif (!decide (x13.1 = (0 : Int))) then (some (zv, x13.1, x13.2)) else (bif (decide (y9_l0.FKind = (0 : Int))) then (bif Z87_q a1 then (some (zv, (23 : Int), x13.2)) else (some (zv, (0 : Int), x13.2))) else ((Z85_q a1).bind fun x28 => bif x28.2 then (((coerce_coercer_list_qn n) x13.2 x28.1 y9_l0 a3).bind fun x32 => some (x32.1, x32.2.1, x32.2.2)) else (bif (((Z68_q x13.2.Fd a1.FName).2 && (!(bif (Z68_q x13.2.Fd a1.FName).2 then Z72_q a1.FName else false))) && (decide ((Z68_q x13.2.Fd a1.FName).1.FKind = (5 : Int)))) then (((coerce_coercer_object_qn n) x13.2 (Z68_q x13.2.Fd a1.FName).1 y9_l0 a3).bind fun x40 => some (x40.1, x40.2.1, x40.2.2)) else ((Z10_q x13.2 a1.FName y9_l0).bind fun x42 => some (x42.1, x42.2, x13.2)))))
theorem at_unfold (n : Nat) (a0 : Coerce_coercer) (a1 : TRef) (a2 : TValue) (a3 : Int) : coerce_coercer_at_qn (n + 1) a0 a1 a2 a3 =
  bif (!Z70_q a0.Fd a1.FName) then (some (zv, (10 : Int), a0)) else (bif ((decide (a2.FKind = (7 : Int))) && a0.Fliteral) then ((Z89_q a0.Fvars a2.FText).bind fun x46 => bif (!decide (x46.1.FKind = (0 : Int))) then ((Z15_q a0 x46.1 a3).bind fun x50 => bif (!decide (x50.1 = (0 : Int))) then (some (zv, x50.1, x50.2)) else (some (x46.1, (0 : Int), x50.2))) else (atTail n a1 a3 a0 x46.1)) else (atTail n a1 a3 a0 a2)) := by
 rw [coerce_coercer_at_qn]; rfl
def coTail (n : Nat) (a1 : TRef) (a3 : Int) (y10_c0 : R12_work) (y11_l0 : TValue) : Option (TValue × R12_work) :=
 (Z63_q y10_c0 a3).bind fun x14 => bif (!decide (x14.Ferr = (0 : Int))) then (some (zv, x14)) else (bif (decide (y11_l0.FKind = (0 : Int))) then (some (zv, bif Z36_q a1 then Z61_q x14 (23 : Int) else x14)) else ((Z34_q a1).bind fun x31 => bif x31.2 then (((r12_work_list_qn n) x14 x31.1 y11_l0 a3).bind fun x35 => some (x35.1, x35.2)) else (bif Z55_q a1.FName then ((Z66_q x14 a1.FName y11_l0).bind fun x41 => some (x41.1, x41.2)) else (bif (decide ((Z51_q x14.Fd a1.FName).1.FKind = (4 : Int))) then (some ((Z60_q x14 (Z51_q x14.Fd a1.FName).1 y11_l0).1, (Z60_q x14 (Z51_q x14.Fd a1.FName).1 y11_l0).2)) else (((r12_work_object_qn n) x14 (Z51_q x14.Fd a1.FName).1 y11_l0 a3).bind fun x50 => some (x50.1, x50.2))))))
theorem co_unfold (n : Nat) (a0 : R12_work) (a1 : TRef) (a2 : TValue) (a3 : Int) : r12_work_coerce_qn (n + 1) a0 a1 a2 a3 =
  bif (!Z53_q a0.Fd a1.FName) then (some (zv, Z61_q a0 (10 : Int))) else (bif (a0.Flit && (decide (a2.FKind = (7 : Int)))) then ((Z26_q a0.Fvars a2.FText).bind fun x54 => bif (!decide (x54.1.FKind = (0 : Int))) then ((Z67_q a0 x54.1 a3).bind fun x59 => some (x59.1, x59.2)) else (coTail n a1 a3 a0 zv)) else (coTail n a1 a3 a0 a2)) := by
 rw [r12_work_coerce_qn]; rfl
def OutA (M : Nat) (d : TDoc) (va : TValue) (li : Bool) (p : Option (TValue × Int × Coerce_coercer)) (q : Option (TValue × R12_work)) : Prop :=
 (∃ e x c' y k', e ≠ 0 ∧ p = some (x, e, c') ∧ q = some (y, k') ∧ k'.Ferr = e) ∨ (∃ m x y, 0 ≤ m ∧ m ≤ 4096 ∧ p = some (x, 0, ⟨d, va, li, m⟩) ∧ q = some (y, ⟨d, va, li, m, 0⟩) ∧ Rl M x y)
theorem OutA.mono {M M' : Nat} {d : TDoc} {va : TValue} {li : Bool} {p : Option (TValue × Int × Coerce_coercer)} {q : Option (TValue × R12_work)} (h : OutA M d va li p q) (hm : M ≤ M') : OutA M' d va li p q := by
 rcases h with h | ⟨m, x, y, a, b, c, e, f⟩
 ·exact .inl h
 ·exact .inr ⟨m, x, y, a, b, c, e, f.mono hm⟩
theorem OutA.eta {M : Nat} {d : TDoc} {va : TValue} {li : Bool} {p : Option (TValue × Int × Coerce_coercer)} {q : Option (TValue × R12_work)} (h : OutA M d va li p q) :
  OutA M d va li (p.bind fun x => some (x.1, x.2.1, x.2.2)) (q.bind fun x => some (x.1, x.2)) := by
 have e1 : (p.bind fun x => some (x.1, x.2.1, x.2.2)) = p := by cases p <;> rfl
 have e2 : (q.bind fun x => some (x.1, x.2)) = q := by cases q <;> rfl
 rw [e1, e2]; exact h
theorem OutL.outA {n M : Nat} {d : TDoc} {va : TValue} {li : Bool} {c : Int} {p : Option (TValue × Int)} {q : Option (TValue × R12_work)} (h : OutL n d va li c p q) (hc : 0 ≤ c ∧ c ≤ 4096) (hm : n ≤ M) :
  OutA M d va li (p.bind fun x => some (x.1, x.2, (⟨d, va, li, c⟩ : Coerce_coercer))) q := by
 rcases h with ⟨x, y, k', e1, e2, e3⟩ | ⟨x, y, e1, e2, e3⟩
 ·exact .inl ⟨23, x, _, y, k', by decide, by rw [e1]; rfl, e2, e3⟩
 ·exact .inr ⟨c, x, y, hc.1, hc.2, by rw [e1]; rfl, e2, e3.mono hm⟩
def InOk (N : Nat) (x : TInput) : Prop := SOk x.FType.FWraps ∧ (x.FHas = true → Rl N x.FDefault x.FDefault)
def DefOk (N : Nat) (t : TDef) : Prop := t.FInputs.l.length ≤ 1048576 ∧ ∀ x ∈ t.FInputs.l, InOk N x
def ListOk (N M : Nat) (d : TDoc) (n m : Nat) (lvl : Int) : Prop := ∀ (va : TValue) (li : Bool) (c : Int) (t t' : TRef) (v w : TValue), Rl (N + 1) va va → 0 ≤ c ∧ c ≤ 4096 → SOk t.FWraps → RefEq t t' → Rl N v w →
 OutA M d va li (coerce_coercer_list_qn n ⟨d, va, li, c⟩ t v lvl) (r12_work_list_qn m ⟨d, va, li, c, 0⟩ t' w lvl)
def ObjOk (N M : Nat) (d : TDoc) (n m : Nat) (lvl : Int) : Prop := ∀ (va : TValue) (li : Bool) (c : Int) (t : TDef) (v w : TValue), Rl (N + 1) va va → 0 ≤ c ∧ c ≤ 4096 → DefOk N t → Rl N v w →
 OutA M d va li (coerce_coercer_object_qn n ⟨d, va, li, c⟩ t v lvl) (r12_work_object_qn m ⟨d, va, li, c, 0⟩ t w lvl)
theorem tail_rel {N M n m : Nat} {d : TDoc} {lvl : Int} (hM : N ≤ M) (hM1 : 1 ≤ M) (hD : ∀ s, DefOk N (fnd d.FDefs.l s).1) (hl : lvl ≤ 24 → ListOk N M d n m lvl) (ho : lvl ≤ 24 → ObjOk N M d n m lvl) {va : TValue} {li : Bool} {c : Int} {t t' : TRef} {v w : TValue}
  (hva : Rl (N + 1) va va) (hc : 0 ≤ c ∧ c ≤ 4096) (ht : SOk t.FWraps) (he : RefEq t t') (hk : v.FKind = w.FKind) (hv : v.FKind ≠ 0 → Rl N v w) (hi : Z70_q d t.FName = true) :
  OutA M d va li (atTail n t lvl ⟨d, va, li, c⟩ v) (coTail m t' lvl ⟨d, va, li, c, 0⟩ w) := by
 unfold atTail coTail
 rcases cnt_both d va li c lvl hc with ⟨e, c', k', he, e1, e2, e3⟩ | ⟨hl2, hc2, e1, e2⟩
 ·rw [e1, e2]
  exact .inl ⟨e, zv, c', zv, k', he, by simp [he], by simp [e3, he], e3⟩
 ·rw [e1, e2]
  simp only [Option.bind_some, decide_true, Bool.not_true, cond_false]
  rw [← hk, r05_isNonNull_eq, isNonNull_eq, ← he.2]
  by_cases k0 : v.FKind = 0
  ·simp only [k0, decide_true, cond_true, fail_new]
   cases nnW t.FWraps.l with
   | true => exact .inl ⟨23, _, _, _, _, by decide, rfl, rfl, rfl⟩
   | false => exact .inr ⟨c + 1, _, _, by omega, by omega, rfl, rfl, zv_rl.mono hM1⟩
  ·have hv := hv k0
   simp only [k0, decide_false, cond_false]
   have hlen : t'.FWraps.l.length ≤ 1048576 := by rw [← he.2]; exact ht.2
   obtain ⟨x, ex, hx⟩ := r05_inner_eq (t := t') hlen
   rw [ex, inner_eq ht, ← he.bar]
   simp only [Option.bind_some]
   cases hli : liW (barS t.FWraps).l with
   | true =>
    simp only [cond_true]
    refine (hl hl2 va li (c + 1) _ _ v w hva (by omega) (innerT_ok ht) ?_ hv).eta
    have h1 := hx (by rw [← he.bar]; exact hli)
    exact ⟨he.1.trans h1.1, by rw [← h1.2]; show (barS t.FWraps).l.drop 1 = (barS t'.FWraps).l.drop 1; rw [he.bar]⟩
   | false =>
    simp only [cond_false]
    rw [r10_find_eq, find_eq, ← he.1]
    have hs : Z55_q t.FName = Z72_q t.FName := rfl
    rw [hs]
    obtain ⟨N, rfl⟩ : ∃ N', N = N' + 1 := by cases N with | zero => exact hv.elim | succ N => exact ⟨N, rfl⟩
    cases hsc : Z72_q t.FName with
    | true =>
     have : ((fnd d.FDefs.l t.FName).2 && !(bif (fnd d.FDefs.l t.FName).2 then true else false)) = false := by cases (fnd d.FDefs.l t.FName).2 <;> rfl
     simp only [this, Bool.false_and, cond_false, cond_true]
     have := (scalar_rel hv d va li (c + 1) t.FName hsc).outA (M := M) (by omega) hM
     have e2 : ((Z66_q ⟨d, va, li, c + 1, 0⟩ t.FName w).bind fun x41 => some (x41.1, x41.2)) = Z66_q ⟨d, va, li, c + 1, 0⟩ t.FName w := by
      cases Z66_q ⟨d, va, li, c + 1, 0⟩ t.FName w <;> rfl
     rw [e2]; exact this
    | false =>
     simp only [cond_false]
     have hf : (fnd d.FDefs.l t.FName).2 = true := by
      cases hf : (fnd d.FDefs.l t.FName).2 with
      | true => rfl
      | false =>
       have := isInput_kind hi hsc
       rw [fnd_none _ _ hf] at this
       rcases this with h | h <;> cases h
     rw [hf]
     rcases isInput_kind hi hsc with h4 | h5
     ·simp only [h4, decide_true, show decide ((4 : Int) = 5) = false from rfl, Bool.and_false, cond_false, cond_true]
      exact (enum_rel hv d va li (c + 1) t.FName hsc).outA (M := M) (by omega) hM
     ·simp only [h5, decide_true, show decide ((5 : Int) = 4) = false from rfl, cond_true, cond_false, Bool.not_false, Bool.and_true, Bool.and_self]
      exact (ho hl2 va li (c + 1) _ v w hva (by omega) (hD _) hv).eta
end Go.Proofs
