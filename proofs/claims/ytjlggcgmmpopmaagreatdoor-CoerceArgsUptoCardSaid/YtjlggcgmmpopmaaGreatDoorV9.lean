import Derived.Test.YtjlggcgmmpopmaaGreatDoorV8
set_option maxRecDepth 100000
set_option maxHeartbeats 2000000
set_option linter.unusedVariables false
set_option linter.unusedSimpArgs false
namespace Go.Proofs
open Go Go.Ab
def Z49_q10 (a1 : Bool) : List TMember → Option (Unit ⊕ Bool)
 | [] => some (Sum.inl ())
 | h10 :: r10 => on (h10) fun x18 => on (Z21_q x18.FName) fun x19 => on (bif !(!x19) then h10 else TMember.zero) fun x20 => guardO (!(!x19)) (Z46_q x20.FDirs) false fun x21 => on (bif (!((!x19) || (!x21)) && a1) then h10 else TMember.zero) fun x22 => bif (((!x19) || (!x21)) || (a1 && (decide ((0 : Int) < ((x22.FDirs.l.length : Nat) : Int))))) then (some (Sum.inr false)) else (Z49_q10 a1 (r10) )
theorem Z49_l10_qe {a0 : (Sl TMember)} {a1 : Bool}  (Kb10 : (Unit ⊕ Bool) → Option Bool) (hend : ∀ (n10 : Nat) (s5_11 : Nat), Z49_j7    = Kb10 (Sum.inl ())) (hret : ∀ e : Bool, some e = Kb10 (Sum.inr e)) : ∀ (n10 : Nat) (s5_11 : Nat), (0 < n10 ∧ a0.l.length < s5_11 + n10) → Z49_l10 a0 a1 n10 s5_11 = Option.bind (Z49_q10 a1 (a0.l.drop s5_11) ) Kb10 := by
 intro n10
 induction n10 with
 | zero => intro s5_11 hn; exact absurd hn.1 (by omega)
 | succ n10 ih10 =>
  intro s5_11 hn
  rw [Z49_l10]
  by_cases hlt : s5_11 < a0.l.length
  ·obtain ⟨h10, hh10⟩ : ∃ x, a0.l[s5_11]? = some x := ⟨_, List.getElem?_eq_getElem hlt⟩
   rw [Q.drop_of hh10, Z49_q10]
   refine Q.condT (Q.ltT hlt) ?_
   refine Q.bindPO hh10 fun x18 hx_x18 => ?_
   refine Q.bindPO (Z21_eq _) fun x19 hx_x19 => ?_
   refine Q.guardPO hh10 fun x20 hx_x20 => ?_
   refine Q.guardOO (Z46_eq _) fun x21 => ?_
   refine Q.guardPO hh10 fun x22 hx_x22 => ?_
   refine Q.condO ?_ ?_
   ·all_goals exact hret _
   all_goals exact ih10 _ ⟨by omega, by omega⟩
  rw [List.drop_of_length_le (by omega), Z49_q10]
  refine Q.condF (Q.ltF hlt) ?_
  exact hend n10 s5_11
def Z49_q (a0 : (Sl TMember)) (a1 : Bool) : Option Bool := bif ((decide (((a0.l.length : Nat) : Int) < (1 : Int))) || (decide ((64 : Int) < ((a0.l.length : Nat) : Int)))) then (some false) else (Option.bind (Z49_q10 a1 a0.l ) fun o10 => match o10 with | Sum.inl _ => (on (()) fun _ => some true) | Sum.inr e10 => (some e10))
theorem Z49_eq (a0 : (Sl TMember)) (a1 : Bool) : Z49 a0 a1 = Z49_q a0 a1 := by
 unfold Z49 Z49_q
 refine Eq.trans ?_ (Q.some_bind _)
 refine Q.condO ?_ ?_
 ·all_goals rfl
 refine Q.wrapOO fun Kb10 hKb10 => ?_
 refine Z49_l10_qe  Kb10 ?_ ?_ _ _ ⟨Nat.succ_pos _, by omega⟩
 ·intro n10 s5_11
  refine Eq.trans ?_ (hKb10 _).symm
  try dsimp only
  refine Q.wrapPO fun Kj7 hKj7 => ?_
  have hj7 : Z49_j7   = Kj7 () := by
   refine Eq.trans ?_ (hKj7 _).symm
   unfold Z49_j7
   all_goals rfl
  all_goals exact hj7
 intro e10
 refine Eq.trans ?_ (hKb10 _).symm
 try dsimp only
 all_goals rfl
def Z45_q34  : List Bs → Unit ⊕ Bool
 | [] => Sum.inl ()
 | h34 :: r34 => on (h34) fun x42 => on (Z21_q x42) fun x43 => bif (!x43) then (Sum.inr false) else (Z45_q34  (r34) )
theorem Z45_l34_qe {a0 : TDef}  (Kb34 : (Unit ⊕ Bool) → Option Bool) (hend : ∀ (n34 : Nat) (s3_35 : Nat), Z45_j8 a0   = Kb34 (Sum.inl ())) (hret : ∀ e : Bool, some e = Kb34 (Sum.inr e)) : ∀ (n34 : Nat) (s3_35 : Nat), (0 < n34 ∧ a0.FImplements.l.length < s3_35 + n34) → Z45_l34 a0 n34 s3_35 = Kb34 (Z45_q34  (a0.FImplements.l.drop s3_35) ) := by
 intro n34
 induction n34 with
 | zero => intro s3_35 hn; exact absurd hn.1 (by omega)
 | succ n34 ih34 =>
  intro s3_35 hn
  rw [Z45_l34]
  by_cases hlt : s3_35 < a0.FImplements.l.length
  ·obtain ⟨h34, hh34⟩ : ∃ x, a0.FImplements.l[s3_35]? = some x := ⟨_, List.getElem?_eq_getElem hlt⟩
   rw [Q.drop_of hh34, Z45_q34]
   refine Q.condT (Q.ltT hlt) ?_
   refine Q.bindP hh34 fun x42 hx_x42 => ?_
   refine Q.bindP (Z21_eq _) fun x43 hx_x43 => ?_
   refine Q.condP ?_ ?_
   ·all_goals exact hret _
   all_goals exact ih34 _ ⟨by omega, by omega⟩
  rw [List.drop_of_length_le (by omega), Z45_q34]
  refine Q.condF (Q.ltF hlt) ?_
  exact hend n34 s3_35
def Z45_q (a0 : TDef) : Option Bool := on (Z21_q a0.FName) fun x4 => guardO (!(!x4)) (Z46_q a0.FDirs) false fun x5 => bif (((!x4) || (!x5)) || (decide ((64 : Int) < ((a0.FImplements.l.length : Nat) : Int)))) then (some false) else (on (Z45_q34  a0.FImplements.l ) fun o34 => match o34 with | Sum.inl _ => (on (()) fun _ => bif (decide (a0.FKind = (1 : Int))) then ((Z47_q a0.FFields).bind fun x15 => some ((x15 && (decide (((a0.FMembers.l.length : Nat) : Int) = (0 : Int)))) && (decide (((a0.FInputs.l.length : Nat) : Int) = (0 : Int))))) else (bif (decide (a0.FKind = (2 : Int))) then (guardO ((decide (((a0.FImplements.l.length : Nat) : Int) = (0 : Int)))) (Z47_q a0.FFields) false fun x19 => some ((((decide (((a0.FImplements.l.length : Nat) : Int) = (0 : Int))) && x19) && (decide (((a0.FMembers.l.length : Nat) : Int) = (0 : Int)))) && (decide (((a0.FInputs.l.length : Nat) : Int) = (0 : Int))))) else (bif (decide (a0.FKind = (3 : Int))) then (guardO (((decide (((a0.FImplements.l.length : Nat) : Int) = (0 : Int))) && (decide (((a0.FFields.l.length : Nat) : Int) = (0 : Int))))) (Z49_q a0.FMembers true) false fun x23 => some ((((decide (((a0.FImplements.l.length : Nat) : Int) = (0 : Int))) && (decide (((a0.FFields.l.length : Nat) : Int) = (0 : Int)))) && x23) && (decide (((a0.FInputs.l.length : Nat) : Int) = (0 : Int))))) else (bif (decide (a0.FKind = (4 : Int))) then (guardO (((decide (((a0.FImplements.l.length : Nat) : Int) = (0 : Int))) && (decide (((a0.FFields.l.length : Nat) : Int) = (0 : Int))))) (Z49_q a0.FMembers false) false fun x27 => some ((((decide (((a0.FImplements.l.length : Nat) : Int) = (0 : Int))) && (decide (((a0.FFields.l.length : Nat) : Int) = (0 : Int)))) && x27) && (decide (((a0.FInputs.l.length : Nat) : Int) = (0 : Int))))) else (bif (decide (a0.FKind = (5 : Int))) then (guardO (((((decide (((a0.FImplements.l.length : Nat) : Int) = (0 : Int))) && (decide (((a0.FFields.l.length : Nat) : Int) = (0 : Int)))) && (decide (((a0.FMembers.l.length : Nat) : Int) = (0 : Int)))) && (decide ((0 : Int) < ((a0.FInputs.l.length : Nat) : Int))))) (Z48_q a0.FInputs) false fun x31 => some (((((decide (((a0.FImplements.l.length : Nat) : Int) = (0 : Int))) && (decide (((a0.FFields.l.length : Nat) : Int) = (0 : Int)))) && (decide (((a0.FMembers.l.length : Nat) : Int) = (0 : Int)))) && (decide ((0 : Int) < ((a0.FInputs.l.length : Nat) : Int)))) && x31)) else (some false)))))) | Sum.inr e34 => (some e34))
theorem Z45_eq (a0 : TDef) : Z45 a0 = Z45_q a0 := by
 unfold Z45 Z45_q
 refine Eq.trans ?_ (Q.some_bind _)
 refine Q.bindPO (Z21_eq _) fun x4 hx_x4 => ?_
 refine Q.guardOO (Z46_eq _) fun x5 => ?_
 refine Q.condO ?_ ?_
 ·all_goals rfl
 refine Q.wrapPO fun Kb34 hKb34 => ?_
 refine Z45_l34_qe  Kb34 ?_ ?_ _ _ ⟨Nat.succ_pos _, by omega⟩
 ·intro n34 s3_35
  refine Eq.trans ?_ (hKb34 _).symm
  try dsimp only
  refine Q.wrapPO fun Kj8 hKj8 => ?_
  have hj8 : Z45_j8 a0  = Kj8 () := by
   refine Eq.trans ?_ (hKj8 _).symm
   unfold Z45_j8
   refine Q.condO ?_ ?_
   ·refine Q.bindO (Z47_eq _) fun x15 => ?_
    all_goals rfl
   refine Q.condO ?_ ?_
   ·refine Q.guardOO (Z47_eq _) fun x19 => ?_
    all_goals rfl
   refine Q.condO ?_ ?_
   ·refine Q.guardOO (Z49_eq _ _) fun x23 => ?_
    all_goals rfl
   refine Q.condO ?_ ?_
   ·refine Q.guardOO (Z49_eq _ _) fun x27 => ?_
    all_goals rfl
   refine Q.condO ?_ ?_
   ·refine Q.guardOO (Z48_eq _) fun x31 => ?_
    all_goals rfl
   all_goals rfl
  all_goals exact hj8
 intro e34
 refine Eq.trans ?_ (hKb34 _).symm
 try dsimp only
 all_goals rfl
def Z42_q10  : List TDef → Option (Unit ⊕ Bool)
 | [] => some (Sum.inl ())
 | h10 :: r10 => on (h10) fun x18 => (Z45_q x18).bind fun x19 => bif (!x19) then (some (Sum.inr false)) else (Z42_q10  (r10) )
theorem Z42_l10_qe {a0 : TDoc}  (Kb10 : (Unit ⊕ Bool) → Option Bool) (hend : ∀ (n10 : Nat) (s3_11 : Nat), Z42_j7    = Kb10 (Sum.inl ())) (hret : ∀ e : Bool, some e = Kb10 (Sum.inr e)) : ∀ (n10 : Nat) (s3_11 : Nat), (0 < n10 ∧ a0.FDefs.l.length < s3_11 + n10) → Z42_l10 a0 n10 s3_11 = Option.bind (Z42_q10  (a0.FDefs.l.drop s3_11) ) Kb10 := by
 intro n10
 induction n10 with
 | zero => intro s3_11 hn; exact absurd hn.1 (by omega)
 | succ n10 ih10 =>
  intro s3_11 hn
  rw [Z42_l10]
  by_cases hlt : s3_11 < a0.FDefs.l.length
  ·obtain ⟨h10, hh10⟩ : ∃ x, a0.FDefs.l[s3_11]? = some x := ⟨_, List.getElem?_eq_getElem hlt⟩
   rw [Q.drop_of hh10, Z42_q10]
   refine Q.condT (Q.ltT hlt) ?_
   refine Q.bindPO hh10 fun x18 hx_x18 => ?_
   refine Q.bindO (Z45_eq _) fun x19 => ?_
   refine Q.condO ?_ ?_
   ·all_goals exact hret _
   all_goals exact ih10 _ ⟨by omega, by omega⟩
  rw [List.drop_of_length_le (by omega), Z42_q10]
  refine Q.condF (Q.ltF hlt) ?_
  exact hend n10 s3_11
def Z42_q (a0 : TDoc) : Option Bool := bif ((decide (((a0.FDefs.l.length : Nat) : Int) < (1 : Int))) || (decide ((64 : Int) < ((a0.FDefs.l.length : Nat) : Int)))) then (some false) else (Option.bind (Z42_q10  a0.FDefs.l ) fun o10 => match o10 with | Sum.inl _ => (on (()) fun _ => some true) | Sum.inr e10 => (some e10))
theorem Z42_eq (a0 : TDoc) : Z42 a0 = Z42_q a0 := by
 unfold Z42 Z42_q
 refine Eq.trans ?_ (Q.some_bind _)
 refine Q.condO ?_ ?_
 ·all_goals rfl
 refine Q.wrapOO fun Kb10 hKb10 => ?_
 refine Z42_l10_qe  Kb10 ?_ ?_ _ _ ⟨Nat.succ_pos _, by omega⟩
 ·intro n10 s3_11
  refine Eq.trans ?_ (hKb10 _).symm
  try dsimp only
  refine Q.wrapPO fun Kj7 hKj7 => ?_
  have hj7 : Z42_j7   = Kj7 () := by
   refine Eq.trans ?_ (hKj7 _).symm
   unfold Z42_j7
   all_goals rfl
  all_goals exact hj7
 intro e10
 refine Eq.trans ?_ (hKb10 _).symm
 try dsimp only
 all_goals rfl
def Z28_q (a0 : TValue) : Option Bool := (Z29_q a0).bind fun x3 => guardO ((decide (x3 ≤ (4096 : Int)))) (Z25_q a0) (0 : Int) fun x4 => guardO (((decide (x3 ≤ (4096 : Int))) && (decide (x4 ≤ (24 : Int))))) (Z33_q a0 false) false fun x5 => some (((decide (x3 ≤ (4096 : Int))) && (decide (x4 ≤ (24 : Int)))) && x5)
theorem Z28_eq (a0 : TValue) : Z28 a0 = Z28_q a0 := by
 unfold Z28 Z28_q
 refine Eq.trans ?_ (Q.some_bind _)
 refine Q.bindO (Z29_eq _) fun x3 => ?_
 refine Q.guardOO (Z25_eq _) fun x4 => ?_
 refine Q.guardOO (Z33_eq _ _) fun x5 => ?_
 all_goals rfl
def Z19_q (a0 : Supergraphlaw12_Case) (a1 : Bool) : Option Bool := (Z43_q a0.FD (600 : Int)).bind fun x4 => guardO (!(decide ((600 : Int) < x4))) (Z35_q a0.FV (900 : Int)) (0 : Int) fun x5 => guardO (!((decide ((600 : Int) < x4)) || (decide ((900 : Int) < x5)))) (Z35_q a0.FVars (900 : Int)) (0 : Int) fun x6 => guardO (!(((decide ((600 : Int) < x4)) || (decide ((900 : Int) < x5))) || (decide ((900 : Int) < x6)))) (Z42_q a0.FD) false fun x7 => guardO (!((((decide ((600 : Int) < x4)) || (decide ((900 : Int) < x5))) || (decide ((900 : Int) < x6))) || (!x7))) (Z40_q a0.FT) false fun x8 => guardO (!(((((decide ((600 : Int) < x4)) || (decide ((900 : Int) < x5))) || (decide ((900 : Int) < x6))) || (!x7)) || (!x8))) (Z28_q a0.FVars) false fun x9 => bif ((((((decide ((600 : Int) < x4)) || (decide ((900 : Int) < x5))) || (decide ((900 : Int) < x6))) || (!x7)) || (!x8)) || (!x9)) then (some false) else (guardO (a1) (Z27_q a0.FV) false fun x13 => guardO ((!(a1 && x13) && (!a1))) (Z28_q a0.FV) false fun x14 => some ((a1 && x13) || ((!a1) && x14)))
theorem Z19_eq (a0 : Supergraphlaw12_Case) (a1 : Bool) : Z19 a0 a1 = Z19_q a0 a1 := by
 unfold Z19 Z19_q
 refine Eq.trans ?_ (Q.some_bind _)
 refine Q.bindO (Z43_eq _ _) fun x4 => ?_
 refine Q.guardOO (Z35_eq _ _) fun x5 => ?_
 refine Q.guardOO (Z35_eq _ _) fun x6 => ?_
 refine Q.guardOO (Z42_eq _) fun x7 => ?_
 refine Q.guardOO (Z40_eq _) fun x8 => ?_
 refine Q.guardOO (Z28_eq _) fun x9 => ?_
 refine Q.condO ?_ ?_
 ·all_goals rfl
 refine Q.guardOO (Z27_eq _) fun x13 => ?_
 refine Q.guardOO (Z28_eq _) fun x14 => ?_
 all_goals rfl
def Z77_q (a0 : (Sl Bs)) : Option (Sl Bs) := bif a0.nl then (some (Sl.nil : Sl Bs)) else ((appC 16 (⟨false, []⟩ : Sl Bs) a0).bind fun x7 => some x7)
theorem Z77_eq (a0 : (Sl Bs)) : Z77 a0 = Z77_q a0 := by
 unfold Z77 Z77_q
 refine Eq.trans ?_ (Q.some_bind _)
 refine Q.condO ?_ ?_
 ·all_goals rfl
 refine Q.bindO rfl fun x7 => ?_
 all_goals rfl
def Z93_q8 (k_rec_60 : TValue → Option TValue) : List TValue → (Sl TValue) → Option ((Sl TValue))
 | [], s3_9 => some s3_9
 | h8 :: r8, s3_9 => on (h8) fun x16 => (k_rec_60 x16).bind fun x17 => (appC 80 s3_9 (⟨false, [x17]⟩ : Sl TValue)).bind fun x18 => Z93_q8 k_rec_60 (r8) x18
theorem Z93_l8_qe {a0 : (Sl TValue)} {k_rec_60 : TValue → Option TValue}  (Kb8 : ((Sl TValue)) → Option (Sl TValue)) (hend : ∀ (n8 : Nat) (s3_9 : (Sl TValue)) (s8_10 : Nat), Z93_j3   s3_9 = Kb8 s3_9) : ∀ (n8 : Nat) (s3_9 : (Sl TValue)) (s8_10 : Nat), (0 < n8 ∧ a0.l.length < s8_10 + n8) → Z93_l8 a0 k_rec_60 n8 s3_9 s8_10 = Option.bind (Z93_q8 k_rec_60 (a0.l.drop s8_10) s3_9) Kb8 := by
 intro n8
 induction n8 with
 | zero => intro s3_9 s8_10 hn; exact absurd hn.1 (by omega)
 | succ n8 ih8 =>
  intro s3_9 s8_10 hn
  rw [Z93_l8]
  by_cases hlt : s8_10 < a0.l.length
  ·obtain ⟨h8, hh8⟩ : ∃ x, a0.l[s8_10]? = some x := ⟨_, List.getElem?_eq_getElem hlt⟩
   rw [Q.drop_of hh8, Z93_q8]
   refine Q.condT (Q.ltT hlt) ?_
   refine Q.bindPO hh8 fun x16 hx_x16 => ?_
   refine Q.bindO rfl fun x17 => ?_
   refine Q.bindO rfl fun x18 => ?_
   all_goals exact ih8 _ _ ⟨by omega, by omega⟩
  rw [List.drop_of_length_le (by omega), Z93_q8]
  refine Q.condF (Q.ltF hlt) ?_
  exact hend n8 s3_9 s8_10
mutual
def value_Copy_qn : Nat → TValue → Option TValue
 | 0, _ => none
 | n + 1, a0 => ((Z93_qn n) a0.FItems).bind fun x3 => (Z77_q a0.FKeys).bind fun x5 => some (TValue.mk a0.FKind a0.FInt a0.FText x3.nl x3.l x5)
def Z93_qn : Nat → (Sl TValue) → Option (Sl TValue)
 | 0, _ => none
 | n + 1, a0 => Option.bind (Z93_q8 (value_Copy_qn n) a0.l (Sl.nil : Sl TValue)) fun s3_9 => on (s3_9) fun s3_4 => some s3_4
end
theorem value_Copy_qall : ∀ n : Nat, value_Copy_n n = value_Copy_qn n ∧ Z93_n n = Z93_qn n := by
 intro n
 induction n with
 | zero => exact ⟨(by funext a0; first | rfl | (rw [value_Copy_n, value_Copy_qn])), (by funext a0; first | rfl | (rw [Z93_n, Z93_qn]))⟩
 | succ n ih =>
  refine ⟨?_, ?_⟩
  ·funext a0
   refine Eq.trans ?_ (Q.some_bind _)
   rw [value_Copy_n, value_Copy_qn]
   try rw [ih.1]
   try rw [ih.2]
   refine Q.bindO rfl fun x3 => ?_
   refine Q.bindO (Z77_eq _) fun x5 => ?_
   all_goals rfl
  funext a0
  refine Eq.trans ?_ (Q.some_bind _)
  rw [Z93_n, Z93_qn]
  try rw [ih.1]
  try rw [ih.2]
  refine Q.wrapOO fun Kb8 hKb8 => ?_
  refine Z93_l8_qe  Kb8 ?_ _ _ _ ⟨Nat.succ_pos _, by omega⟩
  intro n8 s3_9 s8_10
  refine Eq.trans ?_ (hKb8 _).symm
  refine Q.wrapPO fun Kj3 hKj3 => ?_
  have hj3 : ∀ (s3_4 : (Sl TValue)), Z93_j3  s3_4 = Kj3 s3_4 := by
   intro s3_4
   refine Eq.trans ?_ (hKj3 _).symm
   unfold Z93_j3
   all_goals rfl
  all_goals exact hj3 _
def value_Copy_q (a0 : TValue) : Option TValue := value_Copy_qn F0 a0
theorem value_Copy_eq (a0 : TValue) : value_Copy a0 = value_Copy_q a0 := by
 unfold value_Copy value_Copy_q; rw [(value_Copy_qall F0).1]
def Z82_q6 (a1 : Bs) : List Bs → Nat → Unit ⊕ Int
 | [], s8_7 => Sum.inl ()
 | h6 :: r6, s8_7 => on (h6) fun x14 => bif ((a1 == x14)) then (Sum.inr ((s8_7 : Nat) : Int)) else (Z82_q6 a1 (r6) (s8_7 + 1) )
theorem Z82_l6_qe {a0 : (Sl Bs)} {a1 : Bs}  (Kb6 : (Unit ⊕ Int) → Option Int) (hend : ∀ (n6 : Nat) (s8_7 : Nat), Z82_j2    = Kb6 (Sum.inl ())) (hret : ∀ e : Int, some e = Kb6 (Sum.inr e)) : ∀ (n6 : Nat) (s8_7 : Nat), (0 < n6 ∧ a0.l.length < s8_7 + n6) → Z82_l6 a0 a1 n6 s8_7 = Kb6 (Z82_q6 a1 (a0.l.drop s8_7) s8_7 ) := by
 intro n6
 induction n6 with
 | zero => intro s8_7 hn; exact absurd hn.1 (by omega)
 | succ n6 ih6 =>
  intro s8_7 hn
  rw [Z82_l6]
  by_cases hlt : s8_7 < a0.l.length
  ·obtain ⟨h6, hh6⟩ : ∃ x, a0.l[s8_7]? = some x := ⟨_, List.getElem?_eq_getElem hlt⟩
   rw [Q.drop_of hh6, Z82_q6]
   refine Q.condT (Q.ltT hlt) ?_
   refine Q.bindP hh6 fun x14 hx_x14 => ?_
   refine Q.condP ?_ ?_
   ·all_goals exact hret _
   all_goals exact ih6 _ ⟨by omega, by omega⟩
  rw [List.drop_of_length_le (by omega), Z82_q6]
  refine Q.condF (Q.ltF hlt) ?_
  exact hend n6 s8_7
def Z82_q (a0 : (Sl Bs)) (a1 : Bs) : Int := on (Z82_q6 a1 a0.l 0 ) fun o6 => match o6 with | Sum.inl _ => (on (()) fun _ => (-1 : Int)) | Sum.inr e6 => (e6)
theorem Z82_eq (a0 : (Sl Bs)) (a1 : Bs) : Z82 a0 a1 = some (Z82_q a0 a1) := by
 unfold Z82 Z82_q
 refine Q.wrapPP fun Kb6 hKb6 => ?_
 refine Z82_l6_qe  Kb6 ?_ ?_ _ _ ⟨Nat.succ_pos _, by omega⟩
 ·intro n6 s8_7
  refine Eq.trans ?_ (hKb6 _).symm
  try dsimp only
  refine Q.wrapPP fun Kj2 hKj2 => ?_
  have hj2 : Z82_j2   = Kj2 () := by
   refine Eq.trans ?_ (hKj2 _).symm
   unfold Z82_j2
   all_goals rfl
  all_goals exact hj2
 intro e6
 refine Eq.trans ?_ (hKb6 _).symm
 try dsimp only
 all_goals rfl
def Z91_q (a0 : TValue) (a1 : Bs) : Option (TValue × Bool) := on (Z82_q a0.FKeys a1) fun x3 => bif (((!decide (a0.FKind = (6 : Int))) || (decide (x3 < (0 : Int)))) || (decide (((a0.FItems.l.length : Nat) : Int) ≤ x3))) then (some ((TValue.mk (0 : Int) (0 : Int) ([] : Bs) true ([]) (Sl.nil : Sl Bs)), false)) else ((idxC a0.FItems.l x3).bind fun x9 => (value_Copy_q x9).bind fun x10 => some (x10, true))
theorem Z91_eq (a0 : TValue) (a1 : Bs) : Z91 a0 a1 = Z91_q a0 a1 := by
 unfold Z91 Z91_q
 refine Eq.trans ?_ (Q.some_bind _)
 refine Q.bindPO (Z82_eq _ _) fun x3 hx_x3 => ?_
 refine Q.condO ?_ ?_
 ·all_goals rfl
 refine Q.bindO rfl fun x9 => ?_
 refine Q.bindO (value_Copy_eq _) fun x10 => ?_
 all_goals rfl
def Z10_q (a0 : Coerce_coercer) (a1 : TValue) : Option Bool := bif ((!decide (a1.FKind = (7 : Int))) || (!a0.Fliteral)) then (some false) else ((Z91_q a0.Fvars a1.FText).bind fun x7 => some (!x7.2))
theorem Z10_eq (a0 : Coerce_coercer) (a1 : TValue) : Z10 a0 a1 = Z10_q a0 a1 := by
 unfold Z10 Z10_q
 refine Eq.trans ?_ (Q.some_bind _)
 refine Q.condO ?_ ?_
 ·all_goals rfl
 refine Q.bindO (Z91_eq _ _) fun x7 => ?_
 all_goals rfl
def Z70_q7 (a1 : Bs) : List TDef → Unit ⊕ ((TDef × Bool))
 | [] => Sum.inl ()
 | h7 :: r7 => on (h7) fun x15 => bif ((x15.FName == a1)) then (Sum.inr (x15, true)) else (Z70_q7 a1 (r7) )
theorem Z70_l7_qe {a0 : TDoc} {a1 : Bs}  (Kb7 : (Unit ⊕ ((TDef × Bool))) → Option (TDef × Bool)) (hend : ∀ (n7 : Nat) (s11_8 : Nat) (y9_l0 : TDef), Z70_j2   y9_l0 = Kb7 (Sum.inl ())) (hret : ∀ e : (TDef × Bool), some e = Kb7 (Sum.inr e)) : ∀ (n7 : Nat) (s11_8 : Nat) (y9_l0 : TDef), (0 < n7 ∧ a0.FDefs.l.length < s11_8 + n7) → Z70_l7 a0 a1 n7 s11_8 y9_l0 = Kb7 (Z70_q7 a1 (a0.FDefs.l.drop s11_8) ) := by
 intro n7
 induction n7 with
 | zero => intro s11_8 y9_l0 hn; exact absurd hn.1 (by omega)
 | succ n7 ih7 =>
  intro s11_8 y9_l0 hn
  rw [Z70_l7]
  by_cases hlt : s11_8 < a0.FDefs.l.length
  ·obtain ⟨h7, hh7⟩ : ∃ x, a0.FDefs.l[s11_8]? = some x := ⟨_, List.getElem?_eq_getElem hlt⟩
   rw [Q.drop_of hh7, Z70_q7]
   refine Q.condT (Q.ltT hlt) ?_
   refine Q.bindP hh7 fun x15 hx_x15 => ?_
   refine Q.condP ?_ ?_
   ·all_goals exact hret _
   all_goals exact ih7 _ _ ⟨by omega, by omega⟩
  rw [List.drop_of_length_le (by omega), Z70_q7]
  refine Q.condF (Q.ltF hlt) ?_
  exact hend n7 s11_8 y9_l0
def Z70_q (a0 : TDoc) (a1 : Bs) : (TDef × Bool) := on (Z70_q7 a1 a0.FDefs.l ) fun o7 => match o7 with | Sum.inl _ => (on (()) fun _ => ((TDef.mk (0 : Int) ([] : Bs) (Sl.nil : Sl Bs) (Sl.nil : Sl TDir) (Sl.nil : Sl TField) (Sl.nil : Sl TMember) (Sl.nil : Sl TInput)), false)) | Sum.inr e7 => (e7)
theorem Z70_eq (a0 : TDoc) (a1 : Bs) : Z70 a0 a1 = some (Z70_q a0 a1) := by
 unfold Z70 Z70_q
 refine Q.wrapPP fun Kb7 hKb7 => ?_
 refine Z70_l7_qe  Kb7 ?_ ?_ _ _ _ ⟨Nat.succ_pos _, by omega⟩
 ·intro n7 s11_8 y9_l0
  refine Eq.trans ?_ (hKb7 _).symm
  try dsimp only
  refine Q.wrapPP fun Kj2 hKj2 => ?_
  have hj2 : ∀ (y3_l0 : TDef), Z70_j2  y3_l0 = Kj2 () := by
   intro y3_l0
   refine Eq.trans ?_ (hKj2 _).symm
   unfold Z70_j2
   all_goals rfl
  all_goals exact hj2 _
 intro e7
 refine Eq.trans ?_ (hKb7 _).symm
 try dsimp only
 all_goals rfl
def Z75_q (a0 : TDoc) (a1 : Bs) : Int := on (Z70_q a0 a1) fun x3 => x3.1.FKind
theorem Z75_eq (a0 : TDoc) (a1 : Bs) : Z75 a0 a1 = some (Z75_q a0 a1) := by
 unfold Z75 Z75_q
 refine Q.bindP (Z70_eq _ _) fun x3 hx_x3 => ?_
 all_goals rfl
def Z74_q (a0 : Bs) : Bool := (((((a0 == ([73, 110, 116] : Bs))) || ((a0 == ([83, 116, 114, 105, 110, 103] : Bs)))) || ((a0 == ([66, 111, 111, 108, 101, 97, 110] : Bs)))) || ((a0 == ([73, 68] : Bs))))
theorem Z74_eq (a0 : Bs) : Z74 a0 = some (Z74_q a0) := by
 unfold Z74 Z74_q
 all_goals rfl
def Z73_q (a0 : TDoc) (a1 : Bs) : Bool := on (Z74_q a1) fun x3 => on (bif !x3 then Z75_q a0 a1 else (0 : Int)) fun x4 => (x3 || (decide (x4 = (4 : Int))))
theorem Z73_eq (a0 : TDoc) (a1 : Bs) : Z73 a0 a1 = some (Z73_q a0 a1) := by
 unfold Z73 Z73_q
 refine Q.bindP (Z74_eq _) fun x3 hx_x3 => ?_
 refine Q.guardP (Z75_eq _ _) fun x4 hx_x4 => ?_
 all_goals rfl
def Z72_q (a0 : TDoc) (a1 : Bs) : Bool := on (Z73_q a0 a1) fun x3 => on (bif !x3 then Z75_q a0 a1 else (0 : Int)) fun x4 => (x3 || (decide (x4 = (5 : Int))))
theorem Z72_eq (a0 : TDoc) (a1 : Bs) : Z72 a0 a1 = some (Z72_q a0 a1) := by
 unfold Z72 Z72_q
 refine Q.bindP (Z73_eq _ _) fun x3 hx_x3 => ?_
 refine Q.guardP (Z75_eq _ _) fun x4 hx_x4 => ?_
 all_goals rfl
def Z14_q (a0 : TValue) (a1 : Int) : Option (TValue × Int) := bif (!decide (a1 = (0 : Int))) then (some ((TValue.mk (0 : Int) (0 : Int) ([] : Bs) true ([]) (Sl.nil : Sl Bs)), a1)) else ((value_Copy_q a0).bind fun x7 => some (x7, (0 : Int)))
theorem Z14_eq (a0 : TValue) (a1 : Int) : Z14 a0 a1 = Z14_q a0 a1 := by
 unfold Z14 Z14_q
 refine Eq.trans ?_ (Q.some_bind _)
 refine Q.condO ?_ ?_
 ·all_goals rfl
 refine Q.bindO (value_Copy_eq _) fun x7 => ?_
 all_goals rfl
def Z89_q (a0 : TRef) : Bool := on (bif (decide ((0 : Int) < ((a0.FWraps.l.length : Nat) : Int))) then ((a0.FWraps.l)[0]?.getD (0 : Int)) else (0 : Int)) fun x4 => ((decide ((0 : Int) < ((a0.FWraps.l.length : Nat) : Int))) && (decide (x4 = (1 : Int))))
theorem Z89_eq (a0 : TRef) : Z89 a0 = some (Z89_q a0) := by
 unfold Z89 Z89_q
 refine Q.guardT (fun hc => Q.getD_some (by simp at hc; omega)) fun x4 hx_x4 => ?_
 all_goals rfl
def Z7_q (a0 : Coerce_coercer) (a1 : Int) : Option (Int × Coerce_coercer) := bif (decide ((24 : Int) < a1)) then (some ((5 : Int), a0)) else ((addC a0.Fnodes (1 : Int)).bind fun x7 => bif (decide ((4096 : Int) < x7)) then (some ((4 : Int), (Coerce_coercer.mk a0.Fd a0.Fvars a0.Fliteral x7))) else (some ((0 : Int), (Coerce_coercer.mk a0.Fd a0.Fvars a0.Fliteral x7))))
theorem Z7_eq (a0 : Coerce_coercer) (a1 : Int) : Z7 a0 a1 = Z7_q a0 a1 := by
 unfold Z7 Z7_q
 refine Eq.trans ?_ (Q.some_bind _)
 refine Q.condO ?_ ?_
 ·all_goals rfl
 refine Q.bindO rfl fun x7 => ?_
 refine Q.condO ?_ ?_
 ·all_goals rfl
 all_goals rfl
def Z13_q13 (a2 : Int) (k_rec_61 : Coerce_coercer → TValue → Int → Option (Int × Coerce_coercer)) : List TValue → Coerce_coercer → Option (Coerce_coercer ⊕ ((Int × Coerce_coercer)))
 | [], y15_c0 => some (Sum.inl y15_c0)
 | h13 :: r13, y15_c0 => on (h13) fun x21 => (addC a2 (1 : Int)).bind fun x23 => (k_rec_61 y15_c0 x21 x23).bind fun x24 => bif (!decide (x24.1 = (0 : Int))) then (some (Sum.inr (x24.1, x24.2))) else (Z13_q13 a2 k_rec_61 (r13) x24.2)
theorem Z13_l13_qe {a1 : TValue} {a2 : Int} {k_rec_61 : Coerce_coercer → TValue → Int → Option (Int × Coerce_coercer)}  (Kb13 : (Coerce_coercer ⊕ ((Int × Coerce_coercer))) → Option (Int × Coerce_coercer)) (hend : ∀ (n13 : Nat) (s20_14 : Nat) (y15_c0 : Coerce_coercer), Z13_j8   y15_c0 = Kb13 (Sum.inl y15_c0)) (hret : ∀ e : (Int × Coerce_coercer), some e = Kb13 (Sum.inr e)) : ∀ (n13 : Nat) (s20_14 : Nat) (y15_c0 : Coerce_coercer), (0 < n13 ∧ a1.FItems.l.length < s20_14 + n13) → Z13_l13 a1 a2 k_rec_61 n13 s20_14 y15_c0 = Option.bind (Z13_q13 a2 k_rec_61 (a1.FItems.l.drop s20_14) y15_c0) Kb13 := by
 intro n13
 induction n13 with
 | zero => intro s20_14 y15_c0 hn; exact absurd hn.1 (by omega)
 | succ n13 ih13 =>
  intro s20_14 y15_c0 hn
  rw [Z13_l13]
  by_cases hlt : s20_14 < a1.FItems.l.length
  ·obtain ⟨h13, hh13⟩ : ∃ x, a1.FItems.l[s20_14]? = some x := ⟨_, List.getElem?_eq_getElem hlt⟩
   rw [Q.drop_of hh13, Z13_q13]
   refine Q.condT (Q.ltT hlt) ?_
   refine Q.bindPO hh13 fun x21 hx_x21 => ?_
   refine Q.bindO rfl fun x23 => ?_
   refine Q.bindO rfl fun x24 => ?_
   refine Q.condO ?_ ?_
   ·all_goals exact hret _
   all_goals exact ih13 _ _ ⟨by omega, by omega⟩
  rw [List.drop_of_length_le (by omega), Z13_q13]
  refine Q.condF (Q.ltF hlt) ?_
  exact hend n13 s20_14 y15_c0
def Z13_qn : Nat → Coerce_coercer → TValue → Int → Option (Int × Coerce_coercer)
 | 0, _, _, _ => none
 | n + 1, a0, a1, a2 => (Z7_q a0 a2).bind fun x4 => bif (!decide (x4.1 = (0 : Int))) then (some (x4.1, x4.2)) else (Option.bind (Z13_q13 a2 (Z13_qn n) a1.FItems.l x4.2) fun o13 => match o13 with | Sum.inl y15_c0 => (on (y15_c0) fun y9_c0 => some ((0 : Int), y9_c0)) | Sum.inr e13 => (some e13))
theorem Z13_qall : ∀ n : Nat, Z13_n n = Z13_qn n := by
 intro n
 induction n with
 | zero => exact (by funext a0 a1 a2; first | rfl | (rw [Z13_n, Z13_qn]))
 | succ n ih =>
  funext a0 a1 a2
  refine Eq.trans ?_ (Q.some_bind _)
  rw [Z13_n, Z13_qn]
  try rw [ih]
  refine Q.bindO (Z7_eq _ _) fun x4 => ?_
  refine Q.condO ?_ ?_
  ·all_goals rfl
  refine Q.wrapOO fun Kb13 hKb13 => ?_
  refine Z13_l13_qe  Kb13 ?_ ?_ _ _ _ ⟨Nat.succ_pos _, by omega⟩
  ·intro n13 s20_14 y15_c0
   refine Eq.trans ?_ (hKb13 _).symm
   try dsimp only
   refine Q.wrapPO fun Kj8 hKj8 => ?_
   have hj8 : ∀ (y9_c0 : Coerce_coercer), Z13_j8  y9_c0 = Kj8 y9_c0 := by
    intro y9_c0
    refine Eq.trans ?_ (hKj8 _).symm
    unfold Z13_j8
    all_goals rfl
   all_goals exact hj8 _
  intro e13
  refine Eq.trans ?_ (hKb13 _).symm
  try dsimp only
  all_goals rfl
def Z13_q (a0 : Coerce_coercer) (a1 : TValue) (a2 : Int) : Option (Int × Coerce_coercer) := Z13_qn F0 a0 a1 a2
theorem Z13_eq (a0 : Coerce_coercer) (a1 : TValue) (a2 : Int) : Z13 a0 a1 a2 = Z13_q a0 a1 a2 := by
 unfold Z13 Z13_q; rw [(Z13_qall F0)]
def Z76_q (a0 : (Sl Int)) : Option (Sl Int) := bif a0.nl then (some (Sl.nil : Sl Int)) else ((appC 8 (⟨false, []⟩ : Sl Int) a0).bind fun x7 => some x7)
theorem Z76_eq (a0 : (Sl Int)) : Z76 a0 = Z76_q a0 := by
 unfold Z76 Z76_q
 refine Eq.trans ?_ (Q.some_bind _)
 refine Q.condO ?_ ?_
 ·all_goals rfl
 refine Q.bindO rfl fun x7 => ?_
 all_goals rfl
def Z90_q (a0 : TRef) : Option TRef := on (Z89_q a0) fun x8 => Option.bind (bif x8 then ((partC a0.FWraps (some (1 : Int)) none).bind fun x10 => some x10) else (some a0.FWraps)) fun s3_4 => (Z76_q s3_4).bind fun x6 => some (TRef.mk a0.FName x6)
theorem Z90_eq (a0 : TRef) : Z90 a0 = Z90_q a0 := by
 unfold Z90 Z90_q
 refine Eq.trans ?_ (Q.some_bind _)
 refine Q.bindPO (Z89_eq _) fun x8 hx_x8 => ?_
 refine Q.wrapOO fun Kj3 hKj3 => ?_
 have hj3 : ∀ (s3_4 : (Sl Int)), Z90_j3 a0 s3_4 = Kj3 s3_4 := by
  intro s3_4
  refine Eq.trans ?_ (hKj3 _).symm
  unfold Z90_j3
  refine Q.bindO (Z76_eq _) fun x6 => ?_
  all_goals rfl
 refine Q.condO ?_ ?_
 ·refine Q.bindO rfl fun x10 => ?_
  all_goals exact hj3 _
 all_goals exact hj3 _
def Z88_q (a0 : TRef) : Option Bool := (Z90_q a0).bind fun x3 => on (bif (decide ((0 : Int) < ((x3.FWraps.l.length : Nat) : Int))) then ((x3.FWraps.l)[0]?.getD (0 : Int)) else (0 : Int)) fun x6 => some ((decide ((0 : Int) < ((x3.FWraps.l.length : Nat) : Int))) && (decide (x6 = (2 : Int))))
theorem Z88_eq (a0 : TRef) : Z88 a0 = Z88_q a0 := by
 unfold Z88 Z88_q
 refine Eq.trans ?_ (Q.some_bind _)
 refine Q.bindO (Z90_eq _) fun x3 => ?_
 refine Q.guardTO (fun hc => Q.getD_some (by simp at hc; omega)) fun x6 hx_x6 => ?_
 all_goals rfl
def Z87_q (a0 : TRef) : Option (TRef × Bool) := (Z88_q a0).bind fun x4 => bif (!x4) then (some ((TRef.mk ([] : Bs) (Sl.nil : Sl Int)), false)) else ((Z90_q a0).bind fun x8 => (partC x8.FWraps (some (1 : Int)) none).bind fun x10 => some ((TRef.mk x8.FName x10), true))
theorem Z87_eq (a0 : TRef) : Z87 a0 = Z87_q a0 := by
 unfold Z87 Z87_q
 refine Eq.trans ?_ (Q.some_bind _)
 refine Q.bindO (Z88_eq _) fun x4 => ?_
 refine Q.condO ?_ ?_
 ·all_goals rfl
 refine Q.bindO (Z90_eq _) fun x8 => ?_
 refine Q.bindO rfl fun x10 => ?_
 all_goals rfl
def Z71_q7 (a1 : Bs) : List TInput → Unit ⊕ ((TInput × Bool))
 | [] => Sum.inl ()
 | h7 :: r7 => on (h7) fun x15 => bif ((x15.FName == a1)) then (Sum.inr (x15, true)) else (Z71_q7 a1 (r7) )
theorem Z71_l7_qe {a0 : (Sl TInput)} {a1 : Bs}  (Kb7 : (Unit ⊕ ((TInput × Bool))) → Option (TInput × Bool)) (hend : ∀ (n7 : Nat) (s10_8 : Nat) (y9_l0 : TInput), Z71_j2   y9_l0 = Kb7 (Sum.inl ())) (hret : ∀ e : (TInput × Bool), some e = Kb7 (Sum.inr e)) : ∀ (n7 : Nat) (s10_8 : Nat) (y9_l0 : TInput), (0 < n7 ∧ a0.l.length < s10_8 + n7) → Z71_l7 a0 a1 n7 s10_8 y9_l0 = Kb7 (Z71_q7 a1 (a0.l.drop s10_8) ) := by
 intro n7
 induction n7 with
 | zero => intro s10_8 y9_l0 hn; exact absurd hn.1 (by omega)
 | succ n7 ih7 =>
  intro s10_8 y9_l0 hn
  rw [Z71_l7]
  by_cases hlt : s10_8 < a0.l.length
  ·obtain ⟨h7, hh7⟩ : ∃ x, a0.l[s10_8]? = some x := ⟨_, List.getElem?_eq_getElem hlt⟩
   rw [Q.drop_of hh7, Z71_q7]
   refine Q.condT (Q.ltT hlt) ?_
   refine Q.bindP hh7 fun x15 hx_x15 => ?_
   refine Q.condP ?_ ?_
   ·all_goals exact hret _
   all_goals exact ih7 _ _ ⟨by omega, by omega⟩
  rw [List.drop_of_length_le (by omega), Z71_q7]
  refine Q.condF (Q.ltF hlt) ?_
  exact hend n7 s10_8 y9_l0
def Z71_q (a0 : (Sl TInput)) (a1 : Bs) : (TInput × Bool) := on (Z71_q7 a1 a0.l ) fun o7 => match o7 with | Sum.inl _ => (on (()) fun _ => ((TInput.mk ([] : Bs) TRef.zero false TValue.zero (Sl.nil : Sl TDir)), false)) | Sum.inr e7 => (e7)
theorem Z71_eq (a0 : (Sl TInput)) (a1 : Bs) : Z71 a0 a1 = some (Z71_q a0 a1) := by
 unfold Z71 Z71_q
 refine Q.wrapPP fun Kb7 hKb7 => ?_
 refine Z71_l7_qe  Kb7 ?_ ?_ _ _ _ ⟨Nat.succ_pos _, by omega⟩
 ·intro n7 s10_8 y9_l0
  refine Eq.trans ?_ (hKb7 _).symm
  try dsimp only
  refine Q.wrapPP fun Kj2 hKj2 => ?_
  have hj2 : ∀ (y3_l0 : TInput), Z71_j2  y3_l0 = Kj2 () := by
   intro y3_l0
   refine Eq.trans ?_ (hKj2 _).symm
   unfold Z71_j2
   all_goals rfl
  all_goals exact hj2 _
 intro e7
 refine Eq.trans ?_ (hKb7 _).symm
 try dsimp only
 all_goals rfl
def Z12_q (a0 : TValue) (a1 : Bool) (a2 : Coerce_coercer) : Coerce_coercer := (Coerce_coercer.mk a2.Fd a0 a1 a2.Fnodes)
theorem Z12_eq (a0 : TValue) (a1 : Bool) (a2 : Coerce_coercer) : Z12 a0 a1 a2 = some (Z12_q a0 a1 a2) := by
 unfold Z12 Z12_q
 all_goals rfl
def Z85_q (a0 : Int) : Option Bs := (Z83_q a0).bind fun x3 => some x3
theorem Z85_eq (a0 : Int) : Z85 a0 = Z85_q a0 := by
 unfold Z85 Z85_q
 refine Eq.trans ?_ (Q.some_bind _)
 refine Q.bindO (Z83_eq _) fun x3 => ?_
 all_goals rfl
def Z92_q (a0 : Bs) : TValue := (TValue.mk (3 : Int) (0 : Int) a0 true ([]) (Sl.nil : Sl Bs))
theorem Z92_eq (a0 : Bs) : Z92 a0 = some (Z92_q a0) := by
 unfold Z92 Z92_q
 all_goals rfl
def Z81_q6 (a1 : (TMember → Bool)) : List TMember → Nat → Unit ⊕ Int
 | [], s8_7 => Sum.inl ()
 | h6 :: r6, s8_7 => on (h6) fun x14 => on (a1 x14) fun x15 => bif x15 then (Sum.inr ((s8_7 : Nat) : Int)) else (Z81_q6 a1 (r6) (s8_7 + 1) )
theorem Z81_l6_qe {a0 : (Sl TMember)} {a1 : (TMember → Bool)}  (Kb6 : (Unit ⊕ Int) → Option Int) (hend : ∀ (n6 : Nat) (s8_7 : Nat), Z81_j2    = Kb6 (Sum.inl ())) (hret : ∀ e : Int, some e = Kb6 (Sum.inr e)) : ∀ (n6 : Nat) (s8_7 : Nat), (0 < n6 ∧ a0.l.length < s8_7 + n6) → Z81_l6 a0 (fun y0 => some (a1 y0)) n6 s8_7 = Kb6 (Z81_q6 a1 (a0.l.drop s8_7) s8_7 ) := by
 intro n6
 induction n6 with
 | zero => intro s8_7 hn; exact absurd hn.1 (by omega)
 | succ n6 ih6 =>
  intro s8_7 hn
  rw [Z81_l6]
  by_cases hlt : s8_7 < a0.l.length
  ·obtain ⟨h6, hh6⟩ : ∃ x, a0.l[s8_7]? = some x := ⟨_, List.getElem?_eq_getElem hlt⟩
   rw [Q.drop_of hh6, Z81_q6]
   refine Q.condT (Q.ltT hlt) ?_
   refine Q.bindP hh6 fun x14 hx_x14 => ?_
   refine Q.bindP rfl fun x15 hx_x15 => ?_
   refine Q.condP ?_ ?_
   ·all_goals exact hret _
   all_goals exact ih6 _ ⟨by omega, by omega⟩
  rw [List.drop_of_length_le (by omega), Z81_q6]
  refine Q.condF (Q.ltF hlt) ?_
  exact hend n6 s8_7
def Z81_q (a0 : (Sl TMember)) (a1 : (TMember → Bool)) : Int := on (Z81_q6 a1 a0.l 0 ) fun o6 => match o6 with | Sum.inl _ => (on (()) fun _ => (-1 : Int)) | Sum.inr e6 => (e6)
theorem Z81_eq (a0 : (Sl TMember)) (a1 : (TMember → Bool)) : Z81 a0 (fun y0 => some (a1 y0)) = some (Z81_q a0 a1) := by
 unfold Z81 Z81_q
 refine Q.wrapPP fun Kb6 hKb6 => ?_
 refine Z81_l6_qe  Kb6 ?_ ?_ _ _ ⟨Nat.succ_pos _, by omega⟩
 ·intro n6 s8_7
  refine Eq.trans ?_ (hKb6 _).symm
  try dsimp only
  refine Q.wrapPP fun Kj2 hKj2 => ?_
  have hj2 : Z81_j2   = Kj2 () := by
   refine Eq.trans ?_ (hKj2 _).symm
   unfold Z81_j2
   all_goals rfl
  all_goals exact hj2
 intro e6
 refine Eq.trans ?_ (hKb6 _).symm
 try dsimp only
 all_goals rfl
def Z79_q (a0 : (Sl TMember)) (a1 : (TMember → Bool)) : Bool := on (Z81_q a0 a1) fun x3 => (decide ((0 : Int) ≤ x3))
theorem Z79_eq (a0 : (Sl TMember)) (a1 : (TMember → Bool)) : Z79 a0 (fun y0 => some (a1 y0)) = some (Z79_q a0 a1) := by
 unfold Z79 Z79_q
 refine Q.bindP (Z81_eq _ _) fun x3 hx_x3 => ?_
 all_goals rfl
def Z9_q (a0 : TMember) (a1 : TValue) : Bool := ((a0.FName == a1.FText))
theorem Z9_eq (a0 : TMember) (a1 : TValue) : Z9 a0 a1 = some (Z9_q a0 a1) := by
 unfold Z9 Z9_q
 all_goals rfl
def Z8_q (a0 : Coerce_coercer) (a1 : Bs) (a2 : TValue) : Option (TValue × Int) := on (fun (s8_4 : Bool) (y5_l0 : TValue) => bif (!s8_4) then (some ((TValue.mk (0 : Int) (0 : Int) ([] : Bs) true ([]) (Sl.nil : Sl Bs)), (23 : Int))) else (some (y5_l0, (0 : Int)))) fun kj3 => bif ((a1 == ([73, 110, 116] : Bs))) then (kj3 (((decide (a2.FKind = (2 : Int))) && (decide ((-2147483648 : Int) ≤ a2.FInt))) && (decide (a2.FInt < (2147483648 : Int)))) a2) else (bif ((a1 == ([83, 116, 114, 105, 110, 103] : Bs))) then (kj3 (decide (a2.FKind = (3 : Int))) a2) else (bif ((a1 == ([66, 111, 111, 108, 101, 97, 110] : Bs))) then (kj3 (decide (a2.FKind = (1 : Int))) a2) else (bif ((a1 == ([73, 68] : Bs))) then (Option.bind (bif (decide (a2.FKind = (2 : Int))) then ((Z85_q a2.FInt).bind fun x24 => on (Z92_q x24) fun x25 => some x25) else (some a2)) fun y21_l0 => kj3 (decide (y21_l0.FKind = (3 : Int))) y21_l0) else (on (bif ((decide (a2.FKind = (3 : Int))) && (!a0.Fliteral)) then ((TValue.mk (4 : Int) a2.FInt a2.FText a2.FItems.nl a2.FItems.l a2.FKeys)) else (a2)) fun y27_l0 => on (Z70_q a0.Fd a1) fun x29 => on (bif (decide (y27_l0.FKind = (4 : Int))) then Z79_q x29.1.FMembers (fun y0 => Z9_q y0 y27_l0) else false) fun x30 => bif (!((decide (y27_l0.FKind = (4 : Int))) && x30)) then (some ((TValue.mk (0 : Int) (0 : Int) ([] : Bs) true ([]) (Sl.nil : Sl Bs)), (23 : Int))) else (some (y27_l0, (0 : Int)))))))
theorem Z8_eq (a0 : Coerce_coercer) (a1 : Bs) (a2 : TValue) : Z8 a0 a1 a2 = Z8_q a0 a1 a2 := by
 unfold Z8 Z8_q
 refine Eq.trans ?_ (Q.some_bind _)
 refine Q.mixO fun kj3 hkj3 => ?_
 have hj3 : ∀ (s8_4 : Bool) (y5_l0 : TValue), Z8_j3  s8_4 y5_l0 = Option.bind (kj3 s8_4 y5_l0) some := by
  intro s8_4 y5_l0
  unfold Z8_j3
  rw [hkj3]
  try dsimp only
  refine Q.condO ?_ ?_
  ·all_goals rfl
  all_goals rfl
 refine Q.condO ?_ ?_
 ·all_goals exact hj3 _ _
 refine Q.condO ?_ ?_
 ·all_goals exact hj3 _ _
 refine Q.condO ?_ ?_
 ·all_goals exact hj3 _ _
 refine Q.condO ?_ ?_
 ·refine Q.wrapOO fun Kj20 hKj20 => ?_
  have hj20 : ∀ (y21_l0 : TValue), Z8_j20  y21_l0 = Kj20 y21_l0 := by
   intro y21_l0
   refine Eq.trans ?_ (hKj20 _).symm
   unfold Z8_j20
   all_goals exact hj3 _ _
  refine Q.condO ?_ ?_
  ·refine Q.bindO (Z85_eq _) fun x24 => ?_
   refine Q.bindPO (Z92_eq _) fun x25 hx_x25 => ?_
   all_goals exact hj20 _
  all_goals exact hj20 _
 refine Q.wrapPO fun Kj26 hKj26 => ?_
 have hj26 : ∀ (y27_l0 : TValue), Z8_j26 a0 a1 y27_l0 = Kj26 y27_l0 := by
  intro y27_l0
  refine Eq.trans ?_ (hKj26 _).symm
  unfold Z8_j26
  refine Q.bindPO (Z70_eq _ _) fun x29 hx_x29 => ?_
  refine Q.guardPO (by simp only [Z9_eq, Z79_eq]) fun x30 hx_x30 => ?_
  refine Q.condO ?_ ?_
  ·all_goals rfl
  all_goals rfl
 refine Q.condP ?_ ?_
 ·all_goals exact hj26 _
 all_goals exact hj26 _
end Go.Proofs

namespace Go.Proofs
open Go Go.Ab
def coerce_coercer_list_q14 (a1 : TRef) (a3 : Int) (k_rec_32 : Coerce_coercer → TRef → TValue → Int → Option (TValue × Int × Coerce_coercer)) : List TValue → Coerce_coercer → TValue → Option (((Coerce_coercer × TValue)) ⊕ ((TValue × Int × Coerce_coercer)))
 | [], y16_c0, y18_l1 => some (Sum.inl (y16_c0, y18_l1))
 | h14 :: r14, y16_c0, y18_l1 => on (h14) fun x24 => (addC a3 (1 : Int)).bind fun x26 => (k_rec_32 y16_c0 a1 x24 x26).bind fun x27 => bif (!decide (x27.2.1 = (0 : Int))) then (some (Sum.inr ((TValue.mk (0 : Int) (0 : Int) ([] : Bs) true ([]) (Sl.nil : Sl Bs)), x27.2.1, x27.2.2))) else ((appC 80 y18_l1.FItems (⟨false, [x27.1]⟩ : Sl TValue)).bind fun x32 => coerce_coercer_list_q14 a1 a3 k_rec_32 (r14) x27.2.2 (TValue.mk y18_l1.FKind y18_l1.FInt y18_l1.FText x32.nl x32.l y18_l1.FKeys))
theorem coerce_coercer_list_l14_qe {a1 : TRef} {a3 : Int} {s10_4 : (Sl TValue)} {k_rec_32 : Coerce_coercer → TRef → TValue → Int → Option (TValue × Int × Coerce_coercer)}  (Kb14 : (((Coerce_coercer × TValue)) ⊕ ((TValue × Int × Coerce_coercer))) → Option (TValue × Int × Coerce_coercer)) (hend : ∀ (n14 : Nat) (s26_15 : Nat) (y16_c0 : Coerce_coercer) (y17_l0 : TValue) (y18_l1 : TValue), coerce_coercer_list_j7   y16_c0 y17_l0 y18_l1 = Kb14 (Sum.inl (y16_c0, y18_l1))) (hret : ∀ e : (TValue × Int × Coerce_coercer), some e = Kb14 (Sum.inr e)) : ∀ (n14 : Nat) (s26_15 : Nat) (y16_c0 : Coerce_coercer) (y17_l0 : TValue) (y18_l1 : TValue), (0 < n14 ∧ s10_4.l.length < s26_15 + n14) → coerce_coercer_list_l14 a1 a3 s10_4 k_rec_32 n14 s26_15 y16_c0 y17_l0 y18_l1 = Option.bind (coerce_coercer_list_q14 a1 a3 k_rec_32 (s10_4.l.drop s26_15) y16_c0 y18_l1) Kb14 := by
 intro n14
 induction n14 with
 | zero => intro s26_15 y16_c0 y17_l0 y18_l1 hn; exact absurd hn.1 (by omega)
 | succ n14 ih14 =>
  intro s26_15 y16_c0 y17_l0 y18_l1 hn
  rw [coerce_coercer_list_l14]
  by_cases hlt : s26_15 < s10_4.l.length
  ·obtain ⟨h14, hh14⟩ : ∃ x, s10_4.l[s26_15]? = some x := ⟨_, List.getElem?_eq_getElem hlt⟩
   rw [Q.drop_of hh14, coerce_coercer_list_q14]
   refine Q.condT (Q.ltT hlt) ?_
   refine Q.bindPO hh14 fun x24 hx_x24 => ?_
   refine Q.bindO rfl fun x26 => ?_
   refine Q.bindO rfl fun x27 => ?_
   refine Q.condO ?_ ?_
   ·all_goals exact hret _
   refine Q.bindO rfl fun x32 => ?_
   all_goals exact ih14 _ _ _ _ ⟨by omega, by omega⟩
  rw [List.drop_of_length_le (by omega), coerce_coercer_list_q14]
  refine Q.condF (Q.ltF hlt) ?_
  exact hend n14 s26_15 y16_c0 y17_l0 y18_l1
def coerce_coercer_object_q66 (a0 : Coerce_coercer) (a1 : TDef) : List Bs → Unit ⊕ ((TValue × Int × Coerce_coercer))
 | [] => Sum.inl ()
 | h66 :: r66 => on (h66) fun x74 => on (Z71_q a1.FInputs x74) fun x76 => bif (!x76.2) then (Sum.inr ((TValue.mk (0 : Int) (0 : Int) ([] : Bs) true ([]) (Sl.nil : Sl Bs)), (22 : Int), a0)) else (coerce_coercer_object_q66 a0 a1 (r66) )
theorem coerce_coercer_object_l66_qe {a0 : Coerce_coercer} {a1 : TDef} {a2 : TValue} {a3 : Int} {k_rec_32 : Coerce_coercer → TRef → TValue → Int → Option (TValue × Int × Coerce_coercer)} {k_rec_91 : Coerce_coercer → TInput → Int → Option (TValue × Int × Coerce_coercer)}  (Kb66 : (Unit ⊕ ((TValue × Int × Coerce_coercer))) → Option (TValue × Int × Coerce_coercer)) (hend : ∀ (n66 : Nat) (s30_67 : Nat) (y68_l0 : TValue), coerce_coercer_object_j6 a0 a1 a2 a3 k_rec_32 k_rec_91 y68_l0 = Kb66 (Sum.inl ())) (hret : ∀ e : (TValue × Int × Coerce_coercer), some e = Kb66 (Sum.inr e)) : ∀ (n66 : Nat) (s30_67 : Nat) (y68_l0 : TValue), (0 < n66 ∧ a2.FKeys.l.length < s30_67 + n66) → coerce_coercer_object_l66 a0 a1 a2 a3 k_rec_32 k_rec_91 n66 s30_67 y68_l0 = Kb66 (coerce_coercer_object_q66 a0 a1 (a2.FKeys.l.drop s30_67) ) := by
 intro n66
 induction n66 with
 | zero => intro s30_67 y68_l0 hn; exact absurd hn.1 (by omega)
 | succ n66 ih66 =>
  intro s30_67 y68_l0 hn
  rw [coerce_coercer_object_l66]
  by_cases hlt : s30_67 < a2.FKeys.l.length
  ·obtain ⟨h66, hh66⟩ : ∃ x, a2.FKeys.l[s30_67]? = some x := ⟨_, List.getElem?_eq_getElem hlt⟩
   rw [Q.drop_of hh66, coerce_coercer_object_q66]
   refine Q.condT (Q.ltT hlt) ?_
   refine Q.bindP hh66 fun x74 hx_x74 => ?_
   refine Q.bindP (Z71_eq _ _) fun x76 hx_x76 => ?_
   refine Q.condP ?_ ?_
   ·all_goals exact hret _
   all_goals exact ih66 _ _ ⟨by omega, by omega⟩
  rw [List.drop_of_length_le (by omega), coerce_coercer_object_q66]
  refine Q.condF (Q.ltF hlt) ?_
  exact hend n66 s30_67 y68_l0
def coerce_coercer_object_q18 (a1 : TDef) (a2 : TValue) (a3 : Int) (k_rec_32 : Coerce_coercer → TRef → TValue → Int → Option (TValue × Int × Coerce_coercer)) (k_rec_91 : Coerce_coercer → TInput → Int → Option (TValue × Int × Coerce_coercer)) : List TInput → Nat → Coerce_coercer → TValue → Option (((Coerce_coercer × TValue)) ⊕ ((TValue × Int × Coerce_coercer)))
 | [], s49_19, y20_c0, y22_l1 => some (Sum.inl (y20_c0, y22_l1))
 | h18 :: r18, s49_19, y20_c0, y22_l1 => on (h18) fun x31 => on ((⟨a1.FInputs.nl, a1.FInputs.l.take s49_19⟩ : Sl TInput)) fun x34 => on (Z71_q x34 x31.FName) fun x35 => on (fun (y27_c0 : Coerce_coercer) (y29_l1 : TValue) => coerce_coercer_object_q18 a1 a2 a3 k_rec_32 k_rec_91 (r18) (s49_19 + 1) y27_c0 y29_l1) fun kj26 => bif x35.2 then (kj26 y20_c0 y22_l1) else ((Z91_q a2 x31.FName).bind fun x39 => guardO (x39.2) (Z10_q y20_c0 x39.1) false fun x53 => on (fun (s22_43 : Int) (y44_c0 : Coerce_coercer) (y45_l2 : TValue) => bif (!decide (s22_43 = (0 : Int))) then (some (Sum.inr ((TValue.mk (0 : Int) (0 : Int) ([] : Bs) true ([]) (Sl.nil : Sl Bs)), s22_43, y44_c0))) else ((appC 16 y22_l1.FKeys (⟨false, [x31.FName]⟩ : Sl Bs)).bind fun x50 => (appC 80 y22_l1.FItems (⟨false, [y45_l2]⟩ : Sl TValue)).bind fun x51 => kj26 y44_c0 (TValue.mk y22_l1.FKind y22_l1.FInt y22_l1.FText x51.nl x51.l x50))) fun kj42 => bif (x39.2 && (!x53)) then ((addC a3 (1 : Int)).bind fun x55 => (k_rec_32 y20_c0 x31.FType x39.1 x55).bind fun x56 => kj42 x56.2.1 x56.2.2 x56.1) else (bif x31.FHas then ((addC a3 (1 : Int)).bind fun x59 => (k_rec_91 y20_c0 x31 x59).bind fun x60 => kj42 x60.2.1 x60.2.2 x60.1) else (on (Z89_q x31.FType) fun x62 => bif x62 then (kj42 (22 : Int) y20_c0 TValue.zero) else (kj26 y20_c0 y22_l1))))
theorem coerce_coercer_object_l18_qe {a1 : TDef} {a2 : TValue} {a3 : Int} {k_rec_32 : Coerce_coercer → TRef → TValue → Int → Option (TValue × Int × Coerce_coercer)} {k_rec_91 : Coerce_coercer → TInput → Int → Option (TValue × Int × Coerce_coercer)}  (Kb18 : (((Coerce_coercer × TValue)) ⊕ ((TValue × Int × Coerce_coercer))) → Option (TValue × Int × Coerce_coercer)) (hend : ∀ (n18 : Nat) (s49_19 : Nat) (y20_c0 : Coerce_coercer) (y21_l0 : TValue) (y22_l1 : TValue), coerce_coercer_object_j11   y20_c0 y21_l0 y22_l1 = Kb18 (Sum.inl (y20_c0, y22_l1))) (hret : ∀ e : (TValue × Int × Coerce_coercer), some e = Kb18 (Sum.inr e)) : ∀ (n18 : Nat) (s49_19 : Nat) (y20_c0 : Coerce_coercer) (y21_l0 : TValue) (y22_l1 : TValue), (0 < n18 ∧ a1.FInputs.l.length < s49_19 + n18) → coerce_coercer_object_l18 a1 a2 a3 k_rec_32 k_rec_91 n18 s49_19 y20_c0 y21_l0 y22_l1 = Option.bind (coerce_coercer_object_q18 a1 a2 a3 k_rec_32 k_rec_91 (a1.FInputs.l.drop s49_19) s49_19 y20_c0 y22_l1) Kb18 := by
 intro n18
 induction n18 with
 | zero => intro s49_19 y20_c0 y21_l0 y22_l1 hn; exact absurd hn.1 (by omega)
 | succ n18 ih18 =>
  intro s49_19 y20_c0 y21_l0 y22_l1 hn
  rw [coerce_coercer_object_l18]
  by_cases hlt : s49_19 < a1.FInputs.l.length
  ·obtain ⟨h18, hh18⟩ : ∃ x, a1.FInputs.l[s49_19]? = some x := ⟨_, List.getElem?_eq_getElem hlt⟩
   rw [Q.drop_of hh18, coerce_coercer_object_q18]
   refine Q.condT (Q.ltT hlt) ?_
   refine Q.bindPO hh18 fun x31 hx_x31 => ?_
   refine Q.bindPO (Q.partC_take (by omega)) fun x34 hx_x34 => ?_
   refine Q.bindPO (Z71_eq _ _) fun x35 hx_x35 => ?_
   refine Q.mixO fun kj26 hkj26 => ?_
   have hj26 : ∀ (y27_c0 : Coerce_coercer) (y28_l0 : TValue) (y29_l1 : TValue), coerce_coercer_object_j26 s49_19 (coerce_coercer_object_l18 a1 a2 a3 k_rec_32 k_rec_91 n18) y27_c0 y28_l0 y29_l1 = Option.bind (kj26 y27_c0 y29_l1) Kb18 := by
    intro y27_c0 y28_l0 y29_l1
    unfold coerce_coercer_object_j26
    rw [hkj26]
    try dsimp only
    all_goals exact ih18 _ _ _ _ ⟨by omega, by omega⟩
   refine Q.condO ?_ ?_
   ·all_goals exact hj26 _ _ _
   refine Q.bindO (Z91_eq _ _) fun x39 => ?_
   refine Q.guardOO (Z10_eq _ _) fun x53 => ?_
   refine Q.mixO fun kj42 hkj42 => ?_
   have hj42 : ∀ (s22_43 : Int) (y44_c0 : Coerce_coercer) (y45_l2 : TValue), coerce_coercer_object_j42 s49_19 y21_l0 y22_l1 x31 (coerce_coercer_object_l18 a1 a2 a3 k_rec_32 k_rec_91 n18) s22_43 y44_c0 y45_l2 = Option.bind (kj42 s22_43 y44_c0 y45_l2) Kb18 := by
    intro s22_43 y44_c0 y45_l2
    unfold coerce_coercer_object_j42
    rw [hkj42]
    try dsimp only
    refine Q.condO ?_ ?_
    ·all_goals exact hret _
    refine Q.bindO rfl fun x50 => ?_
    refine Q.bindO rfl fun x51 => ?_
    all_goals exact hj26 _ _ _
   refine Q.condO ?_ ?_
   ·refine Q.bindO rfl fun x55 => ?_
    refine Q.bindO rfl fun x56 => ?_
    all_goals exact hj42 _ _ _
   refine Q.condO ?_ ?_
   ·refine Q.bindO rfl fun x59 => ?_
    refine Q.bindO rfl fun x60 => ?_
    all_goals exact hj42 _ _ _
   refine Q.bindPO (Z89_eq _) fun x62 hx_x62 => ?_
   refine Q.condO ?_ ?_
   ·all_goals exact hj42 _ _ _
   all_goals exact hj26 _ _ _
  rw [List.drop_of_length_le (by omega), coerce_coercer_object_q18]
  refine Q.condF (Q.ltF hlt) ?_
  exact hend n18 s49_19 y20_c0 y21_l0 y22_l1
mutual
def coerce_coercer_at_qn : Nat → Coerce_coercer → TRef → TValue → Int → Option (TValue × Int × Coerce_coercer)
 | 0, _, _, _, _ => none
 | n + 1, a0, a1, a2, a3 => on (Z72_q a0.Fd a1.FName) fun x4 => bif (!x4) then (some ((TValue.mk (0 : Int) (0 : Int) ([] : Bs) true ([]) (Sl.nil : Sl Bs)), (10 : Int), a0)) else (on (fun (y8_c0 : Coerce_coercer) (y9_l0 : TValue) => (Z7_q y8_c0 a3).bind fun x13 => bif (!decide (x13.1 = (0 : Int))) then (some ((TValue.mk (0 : Int) (0 : Int) ([] : Bs) true ([]) (Sl.nil : Sl Bs)), x13.1, x13.2)) else (bif (decide (y9_l0.FKind = (0 : Int))) then (on (Z89_q a1) fun x22 => bif x22 then (some ((TValue.mk (0 : Int) (0 : Int) ([] : Bs) true ([]) (Sl.nil : Sl Bs)), (23 : Int), x13.2)) else (some ((TValue.mk (0 : Int) (0 : Int) ([] : Bs) true ([]) (Sl.nil : Sl Bs)), (0 : Int), x13.2))) else ((Z87_q a1).bind fun x28 => bif x28.2 then (((coerce_coercer_list_qn n) x13.2 x28.1 y9_l0 a3).bind fun x32 => some (x32.1, x32.2.1, x32.2.2)) else (on (Z70_q x13.2.Fd a1.FName) fun x35 => on (bif x35.2 then Z74_q a1.FName else false) fun x37 => bif ((x35.2 && (!x37)) && (decide (x35.1.FKind = (5 : Int)))) then (((coerce_coercer_object_qn n) x13.2 x35.1 y9_l0 a3).bind fun x40 => some (x40.1, x40.2.1, x40.2.2)) else ((Z8_q x13.2 a1.FName y9_l0).bind fun x42 => some (x42.1, x42.2, x13.2)))))) fun kj7 => bif ((decide (a2.FKind = (7 : Int))) && a0.Fliteral) then ((Z91_q a0.Fvars a2.FText).bind fun x46 => bif (!decide (x46.1.FKind = (0 : Int))) then ((Z13_q a0 x46.1 a3).bind fun x50 => bif (!decide (x50.1 = (0 : Int))) then (some ((TValue.mk (0 : Int) (0 : Int) ([] : Bs) true ([]) (Sl.nil : Sl Bs)), x50.1, x50.2)) else (some (x46.1, (0 : Int), x50.2))) else (kj7 a0 x46.1)) else (kj7 a0 a2))
def coerce_coercer_list_qn : Nat → Coerce_coercer → TRef → TValue → Int → Option (TValue × Int × Coerce_coercer)
 | 0, _, _, _, _ => none
 | n + 1, a0, a1, a2, a3 => on (bif (!decide (a2.FKind = (5 : Int))) then ((⟨false, [a2]⟩ : Sl TValue)) else (a2.FItems)) fun s10_4 => Option.bind (coerce_coercer_list_q14 a1 a3 (coerce_coercer_at_qn n) s10_4.l a0 (TValue.mk (5 : Int) (0 : Int) ([] : Bs) true ([]) (Sl.nil : Sl Bs))) fun o14 => match o14 with | Sum.inl z14 => (on ((z14.1, z14.2)) fun z7 => some (z7.2, (0 : Int), z7.1)) | Sum.inr e14 => (some e14)
def coerce_coercer_object_qn : Nat → Coerce_coercer → TDef → TValue → Int → Option (TValue × Int × Coerce_coercer)
 | 0, _, _, _, _ => none
 | n + 1, a0, a1, a2, a3 => bif (!decide (a2.FKind = (6 : Int))) then (some ((TValue.mk (0 : Int) (0 : Int) ([] : Bs) true ([]) (Sl.nil : Sl Bs)), (23 : Int), a0)) else (on (coerce_coercer_object_q66 a0 a1 a2.FKeys.l ) fun o66 => match o66 with | Sum.inl _ => (on (()) fun _ => Option.bind (coerce_coercer_object_q18 a1 a2 a3 (coerce_coercer_at_qn n) (Z11_qn n) a1.FInputs.l 0 a0 (TValue.mk (6 : Int) (0 : Int) ([] : Bs) true ([]) (Sl.nil : Sl Bs))) fun o18 => match o18 with | Sum.inl z18 => (on ((z18.1, z18.2)) fun z11 => some (z11.2, (0 : Int), z11.1)) | Sum.inr e18 => (some e18)) | Sum.inr e66 => (some e66))
def Z11_qn : Nat → Coerce_coercer → TInput → Int → Option (TValue × Int × Coerce_coercer)
 | 0, _, _, _ => none
 | n + 1, a0, a1, a2 => ((coerce_coercer_at_qn n) (Coerce_coercer.mk a0.Fd (TValue.mk (0 : Int) (0 : Int) ([] : Bs) true ([]) (Sl.nil : Sl Bs)) true a0.Fnodes) a1.FType a1.FDefault a2).bind fun x5 => on (Z12_q a0.Fvars a0.Fliteral x5.2.2) fun x6 => some (x5.1, x5.2.1, x6)
end
theorem coerce_coercer_at_qall : ∀ n : Nat, coerce_coercer_at_n n = coerce_coercer_at_qn n ∧ coerce_coercer_list_n n = coerce_coercer_list_qn n ∧ coerce_coercer_object_n n = coerce_coercer_object_qn n ∧ Z11_n n = Z11_qn n := by
 intro n
 induction n with
 | zero => exact ⟨(by funext a0 a1 a2 a3; first | rfl | (rw [coerce_coercer_at_n, coerce_coercer_at_qn])), (by funext a0 a1 a2 a3; first | rfl | (rw [coerce_coercer_list_n, coerce_coercer_list_qn])), (by funext a0 a1 a2 a3; first | rfl | (rw [coerce_coercer_object_n, coerce_coercer_object_qn])), (by funext a0 a1 a2; first | rfl | (rw [Z11_n, Z11_qn]))⟩
 | succ n ih =>
  refine ⟨?_, ?_, ?_, ?_⟩
  ·funext a0 a1 a2 a3
   refine Eq.trans ?_ (Q.some_bind _)
   rw [coerce_coercer_at_n, coerce_coercer_at_qn]
   try rw [ih.1]
   try rw [ih.2.1]
   try rw [ih.2.2.1]
   try rw [ih.2.2.2]
   refine Q.bindPO (Z72_eq _ _) fun x4 hx_x4 => ?_
   refine Q.condO ?_ ?_
   ·all_goals rfl
   refine Q.mixO fun kj7 hkj7 => ?_
   have hj7 : ∀ (y8_c0 : Coerce_coercer) (y9_l0 : TValue) (y10_l1 : TValue), coerce_coercer_at_j7 a1 a3 (coerce_coercer_list_qn n) (coerce_coercer_object_qn n) y8_c0 y9_l0 y10_l1 = Option.bind (kj7 y8_c0 y9_l0) some := by
    intro y8_c0 y9_l0 y10_l1
    unfold coerce_coercer_at_j7
    rw [hkj7]
    try dsimp only
    refine Q.bindO (Z7_eq _ _) fun x13 => ?_
    refine Q.condO ?_ ?_
    ·all_goals rfl
    refine Q.condO ?_ ?_
    ·refine Q.bindPO (Z89_eq _) fun x22 hx_x22 => ?_
     refine Q.condO ?_ ?_
     ·all_goals rfl
     all_goals rfl
    refine Q.bindO (Z87_eq _) fun x28 => ?_
    refine Q.condO ?_ ?_
    ·refine Q.bindO rfl fun x32 => ?_
     all_goals rfl
    refine Q.bindPO (Z70_eq _ _) fun x35 hx_x35 => ?_
    refine Q.guardPO (Z74_eq _) fun x37 hx_x37 => ?_
    refine Q.condO ?_ ?_
    ·refine Q.bindO rfl fun x40 => ?_
     all_goals rfl
    refine Q.bindO (Z8_eq _ _ _) fun x42 => ?_
    all_goals rfl
   refine Q.condO ?_ ?_
   ·refine Q.bindO (Z91_eq _ _) fun x46 => ?_
    refine Q.condO ?_ ?_
    ·refine Q.bindO (Z13_eq _ _ _) fun x50 => ?_
     refine Q.condO ?_ ?_
     ·all_goals rfl
     all_goals rfl
    all_goals exact hj7 _ _ _
   all_goals exact hj7 _ _ _
  ·funext a0 a1 a2 a3
   refine Eq.trans ?_ (Q.some_bind _)
   rw [coerce_coercer_list_n, coerce_coercer_list_qn]
   try rw [ih.1]
   try rw [ih.2.1]
   try rw [ih.2.2.1]
   try rw [ih.2.2.2]
   refine Q.wrapPO fun Kj3 hKj3 => ?_
   have hj3 : ∀ (s10_4 : (Sl TValue)), coerce_coercer_list_j3 a0 a1 a3 (coerce_coercer_at_qn n) s10_4 = Kj3 s10_4 := by
    intro s10_4
    refine Eq.trans ?_ (hKj3 _).symm
    unfold coerce_coercer_list_j3
    refine Q.wrapOO fun Kb14 hKb14 => ?_
    refine coerce_coercer_list_l14_qe  Kb14 ?_ ?_ _ _ _ _ _ ⟨Nat.succ_pos _, by omega⟩
    ·intro n14 s26_15 y16_c0 y17_l0 y18_l1
     refine Eq.trans ?_ (hKb14 _).symm
     try dsimp only
     refine Q.wrapPO fun Kj7 hKj7 => ?_
     have hj7 : ∀ (y8_c0 : Coerce_coercer) (y9_l0 : TValue) (y10_l1 : TValue), coerce_coercer_list_j7  y8_c0 y9_l0 y10_l1 = Kj7 (y8_c0, y10_l1) := by
      intro y8_c0 y9_l0 y10_l1
      refine Eq.trans ?_ (hKj7 _).symm
      try dsimp only
      unfold coerce_coercer_list_j7
      all_goals rfl
     all_goals exact hj7 _ _ _
    intro e14
    refine Eq.trans ?_ (hKb14 _).symm
    try dsimp only
    all_goals rfl
   refine Q.condP ?_ ?_
   ·all_goals exact hj3 _
   all_goals exact hj3 _
  ·funext a0 a1 a2 a3
   refine Eq.trans ?_ (Q.some_bind _)
   rw [coerce_coercer_object_n, coerce_coercer_object_qn]
   try rw [ih.1]
   try rw [ih.2.1]
   try rw [ih.2.2.1]
   try rw [ih.2.2.2]
   refine Q.condO ?_ ?_
   ·all_goals rfl
   refine Q.wrapPO fun Kb66 hKb66 => ?_
   refine coerce_coercer_object_l66_qe  Kb66 ?_ ?_ _ _ _ ⟨Nat.succ_pos _, by omega⟩
   ·intro n66 s30_67 y68_l0
    refine Eq.trans ?_ (hKb66 _).symm
    try dsimp only
    refine Q.wrapPO fun Kj6 hKj6 => ?_
    have hj6 : ∀ (y7_l0 : TValue), coerce_coercer_object_j6 a0 a1 a2 a3 (coerce_coercer_at_qn n) (Z11_qn n) y7_l0 = Kj6 () := by
     intro y7_l0
     refine Eq.trans ?_ (hKj6 _).symm
     unfold coerce_coercer_object_j6
     refine Q.wrapOO fun Kb18 hKb18 => ?_
     refine coerce_coercer_object_l18_qe  Kb18 ?_ ?_ _ _ _ _ _ ⟨Nat.succ_pos _, by omega⟩
     ·intro n18 s49_19 y20_c0 y21_l0 y22_l1
      refine Eq.trans ?_ (hKb18 _).symm
      try dsimp only
      refine Q.wrapPO fun Kj11 hKj11 => ?_
      have hj11 : ∀ (y12_c0 : Coerce_coercer) (y13_l0 : TValue) (y14_l1 : TValue), coerce_coercer_object_j11  y12_c0 y13_l0 y14_l1 = Kj11 (y12_c0, y14_l1) := by
       intro y12_c0 y13_l0 y14_l1
       refine Eq.trans ?_ (hKj11 _).symm
       try dsimp only
       unfold coerce_coercer_object_j11
       all_goals rfl
      all_goals exact hj11 _ _ _
     intro e18
     refine Eq.trans ?_ (hKb18 _).symm
     try dsimp only
     all_goals rfl
    all_goals exact hj6 _
   intro e66
   refine Eq.trans ?_ (hKb66 _).symm
   try dsimp only
   all_goals rfl
  funext a0 a1 a2
  refine Eq.trans ?_ (Q.some_bind _)
  rw [Z11_n, Z11_qn]
  try rw [ih.1]
  try rw [ih.2.1]
  try rw [ih.2.2.1]
  try rw [ih.2.2.2]
  refine Q.bindO rfl fun x5 => ?_
  refine Q.bindPO (Z12_eq _ _ _) fun x6 hx_x6 => ?_
  all_goals rfl
def coerce_coercer_at_q (a0 : Coerce_coercer) (a1 : TRef) (a2 : TValue) (a3 : Int) : Option (TValue × Int × Coerce_coercer) := coerce_coercer_at_qn F0 a0 a1 a2 a3
theorem coerce_coercer_at_eq (a0 : Coerce_coercer) (a1 : TRef) (a2 : TValue) (a3 : Int) : coerce_coercer_at a0 a1 a2 a3 = coerce_coercer_at_q a0 a1 a2 a3 := by
 unfold coerce_coercer_at coerce_coercer_at_q; rw [(coerce_coercer_at_qall F0).1]
def Z2_q (a0 : TDoc) (a1 : TRef) (a2 : TValue) (a3 : TValue) : Option (TValue × Int) := (Z10_q (Coerce_coercer.mk a0 a3 true (0 : Int)) a2).bind fun x6 => bif x6 then (on (Z72_q a0 a1.FName) fun x10 => bif (!x10) then (some ((TValue.mk (0 : Int) (0 : Int) ([] : Bs) true ([]) (Sl.nil : Sl Bs)), (10 : Int))) else (some ((TValue.mk (0 : Int) (0 : Int) ([] : Bs) true ([]) (Sl.nil : Sl Bs)), (8 : Int)))) else ((coerce_coercer_at_q (Coerce_coercer.mk a0 a3 true (0 : Int)) a1 a2 (1 : Int)).bind fun x15 => (Z14_q x15.1 x15.2.1).bind fun x16 => some (x16.1, x16.2))
theorem Z2_eq (a0 : TDoc) (a1 : TRef) (a2 : TValue) (a3 : TValue) : Z2 a0 a1 a2 a3 = Z2_q a0 a1 a2 a3 := by
 unfold Z2 Z2_q
 refine Eq.trans ?_ (Q.some_bind _)
 refine Q.bindO (Z10_eq _ _) fun x6 => ?_
 refine Q.condO ?_ ?_
 ·refine Q.bindPO (Z72_eq _ _) fun x10 hx_x10 => ?_
  refine Q.condO ?_ ?_
  ·all_goals rfl
  all_goals rfl
 refine Q.bindO (coerce_coercer_at_eq _ _ _ _) fun x15 => ?_
 refine Q.bindO (Z14_eq _ _) fun x16 => ?_
 all_goals rfl
def Z6_q7 (a1 : Bs) : List TArg → Unit ⊕ ((TValue × Bool))
 | [] => Sum.inl ()
 | h7 :: r7 => on (h7) fun x15 => bif ((x15.FName == a1)) then (Sum.inr (x15.FValue, true)) else (Z6_q7 a1 (r7) )
theorem Z6_l7_qe {a0 : (Sl TArg)} {a1 : Bs}  (Kb7 : (Unit ⊕ ((TValue × Bool))) → Option (TValue × Bool)) (hend : ∀ (n7 : Nat) (s10_8 : Nat) (y9_l0 : TValue), Z6_j2   y9_l0 = Kb7 (Sum.inl ())) (hret : ∀ e : (TValue × Bool), some e = Kb7 (Sum.inr e)) : ∀ (n7 : Nat) (s10_8 : Nat) (y9_l0 : TValue), (0 < n7 ∧ a0.l.length < s10_8 + n7) → Z6_l7 a0 a1 n7 s10_8 y9_l0 = Kb7 (Z6_q7 a1 (a0.l.drop s10_8) ) := by
 intro n7
 induction n7 with
 | zero => intro s10_8 y9_l0 hn; exact absurd hn.1 (by omega)
 | succ n7 ih7 =>
  intro s10_8 y9_l0 hn
  rw [Z6_l7]
  by_cases hlt : s10_8 < a0.l.length
  ·obtain ⟨h7, hh7⟩ : ∃ x, a0.l[s10_8]? = some x := ⟨_, List.getElem?_eq_getElem hlt⟩
   rw [Q.drop_of hh7, Z6_q7]
   refine Q.condT (Q.ltT hlt) ?_
   refine Q.bindP hh7 fun x15 hx_x15 => ?_
   refine Q.condP ?_ ?_
   ·all_goals exact hret _
   all_goals exact ih7 _ _ ⟨by omega, by omega⟩
  rw [List.drop_of_length_le (by omega), Z6_q7]
  refine Q.condF (Q.ltF hlt) ?_
  exact hend n7 s10_8 y9_l0
def Z6_q (a0 : (Sl TArg)) (a1 : Bs) : (TValue × Bool) := on (Z6_q7 a1 a0.l ) fun o7 => match o7 with | Sum.inl _ => (on (()) fun _ => ((TValue.mk (0 : Int) (0 : Int) ([] : Bs) true ([]) (Sl.nil : Sl Bs)), false)) | Sum.inr e7 => (e7)
theorem Z6_eq (a0 : (Sl TArg)) (a1 : Bs) : Z6 a0 a1 = some (Z6_q a0 a1) := by
 unfold Z6 Z6_q
 refine Q.wrapPP fun Kb7 hKb7 => ?_
 refine Z6_l7_qe  Kb7 ?_ ?_ _ _ _ ⟨Nat.succ_pos _, by omega⟩
 ·intro n7 s10_8 y9_l0
  refine Eq.trans ?_ (hKb7 _).symm
  try dsimp only
  refine Q.wrapPP fun Kj2 hKj2 => ?_
  have hj2 : ∀ (y3_l0 : TValue), Z6_j2  y3_l0 = Kj2 () := by
   intro y3_l0
   refine Eq.trans ?_ (hKj2 _).symm
   unfold Z6_j2
   all_goals rfl
  all_goals exact hj2 _
 intro e7
 refine Eq.trans ?_ (hKb7 _).symm
 try dsimp only
 all_goals rfl
def Z0_q50 (a1 : (Sl TInput)) (a2 : (Sl TArg)) : List TArg → Nat → Unit ⊕ (((Sl TArg) × Int))
 | [], s27_51 => Sum.inl ()
 | h50 :: r50, s27_51 => on (h50) fun x57 => on (Z71_q a1 x57.FName) fun x59 => on ((⟨a2.nl, a2.l.take s27_51⟩ : Sl TArg)) fun x61 => on (Z6_q x61 x57.FName) fun x62 => bif ((!x59.2) || x62.2) then (Sum.inr ((Sl.nil : Sl TArg), (22 : Int))) else (Z0_q50 a1 a2 (r50) (s27_51 + 1) )
theorem Z0_l50_qe {a0 : TDoc} {a1 : (Sl TInput)} {a2 : (Sl TArg)} {a3 : TValue}  (Kb50 : (Unit ⊕ (((Sl TArg) × Int))) → Option ((Sl TArg) × Int)) (hend : ∀ (n50 : Nat) (s27_51 : Nat), Z0_j2 a0 a1 a2 a3   = Kb50 (Sum.inl ())) (hret : ∀ e : ((Sl TArg) × Int), some e = Kb50 (Sum.inr e)) : ∀ (n50 : Nat) (s27_51 : Nat), (0 < n50 ∧ a2.l.length < s27_51 + n50) → Z0_l50 a0 a1 a2 a3 n50 s27_51 = Kb50 (Z0_q50 a1 a2 (a2.l.drop s27_51) s27_51 ) := by
 intro n50
 induction n50 with
 | zero => intro s27_51 hn; exact absurd hn.1 (by omega)
 | succ n50 ih50 =>
  intro s27_51 hn
  rw [Z0_l50]
  by_cases hlt : s27_51 < a2.l.length
  ·obtain ⟨h50, hh50⟩ : ∃ x, a2.l[s27_51]? = some x := ⟨_, List.getElem?_eq_getElem hlt⟩
   rw [Q.drop_of hh50, Z0_q50]
   refine Q.condT (Q.ltT hlt) ?_
   refine Q.bindP hh50 fun x57 hx_x57 => ?_
   refine Q.bindP (Z71_eq _ _) fun x59 hx_x59 => ?_
   refine Q.bindP (Q.partC_take (by omega)) fun x61 hx_x61 => ?_
   refine Q.bindP (Z6_eq _ _) fun x62 hx_x62 => ?_
   refine Q.condP ?_ ?_
   ·all_goals exact hret _
   all_goals exact ih50 _ ⟨by omega, by omega⟩
  rw [List.drop_of_length_le (by omega), Z0_q50]
  refine Q.condF (Q.ltF hlt) ?_
  exact hend n50 s27_51
def Z0_q11 (a0 : TDoc) (a1 : (Sl TInput)) (a2 : (Sl TArg)) (a3 : TValue) : List TInput → Nat → (Sl TArg) → Option (((Sl TArg)) ⊕ (((Sl TArg) × Int)))
 | [], s60_13, s17_12 => some (Sum.inl s17_12)
 | h11 :: r11, s60_13, s17_12 => on (h11) fun x20 => on ((⟨a1.nl, a1.l.take s60_13⟩ : Sl TInput)) fun x23 => on (Z71_q x23 x20.FName) fun x24 => on (fun (s17_18 : (Sl TArg)) => Z0_q11 a0 a1 a2 a3 (r11) (s60_13 + 1) s17_18) fun kj17 => bif x24.2 then (kj17 s17_12) else (on (Z6_q a2 x20.FName) fun x28 => guardO (x28.2) (Z10_q (Coerce_coercer.mk a0 a3 true (0 : Int)) x28.1) false fun x39 => on (fun (s24_31 : Int) (y32_l0 : TValue) => bif (!decide (s24_31 = (0 : Int))) then (some (Sum.inr ((Sl.nil : Sl TArg), s24_31))) else ((appC 96 s17_12 (⟨false, [(TArg.mk x20.FName y32_l0)]⟩ : Sl TArg)).bind fun x37 => kj17 x37)) fun kj30 => bif (x28.2 && (!x39)) then ((Z2_q a0 x20.FType x28.1 a3).bind fun x41 => kj30 x41.2 x41.1) else (bif x20.FHas then ((Z2_q a0 x20.FType x20.FDefault (TValue.mk (0 : Int) (0 : Int) ([] : Bs) true ([]) (Sl.nil : Sl Bs))).bind fun x44 => kj30 x44.2 x44.1) else (on (Z89_q x20.FType) fun x46 => bif x46 then (kj30 (22 : Int) x28.1) else (kj17 s17_12))))
theorem Z0_l11_qe {a0 : TDoc} {a1 : (Sl TInput)} {a2 : (Sl TArg)} {a3 : TValue}  (Kb11 : (((Sl TArg)) ⊕ (((Sl TArg) × Int))) → Option ((Sl TArg) × Int)) (hend : ∀ (n11 : Nat) (s17_12 : (Sl TArg)) (s60_13 : Nat), Z0_j6   s17_12 = Kb11 (Sum.inl s17_12)) (hret : ∀ e : ((Sl TArg) × Int), some e = Kb11 (Sum.inr e)) : ∀ (n11 : Nat) (s17_12 : (Sl TArg)) (s60_13 : Nat), (0 < n11 ∧ a1.l.length < s60_13 + n11) → Z0_l11 a0 a1 a2 a3 n11 s17_12 s60_13 = Option.bind (Z0_q11 a0 a1 a2 a3 (a1.l.drop s60_13) s60_13 s17_12) Kb11 := by
 intro n11
 induction n11 with
 | zero => intro s17_12 s60_13 hn; exact absurd hn.1 (by omega)
 | succ n11 ih11 =>
  intro s17_12 s60_13 hn
  rw [Z0_l11]
  by_cases hlt : s60_13 < a1.l.length
  ·obtain ⟨h11, hh11⟩ : ∃ x, a1.l[s60_13]? = some x := ⟨_, List.getElem?_eq_getElem hlt⟩
   rw [Q.drop_of hh11, Z0_q11]
   refine Q.condT (Q.ltT hlt) ?_
   refine Q.bindPO hh11 fun x20 hx_x20 => ?_
   refine Q.bindPO (Q.partC_take (by omega)) fun x23 hx_x23 => ?_
   refine Q.bindPO (Z71_eq _ _) fun x24 hx_x24 => ?_
   refine Q.mixO fun kj17 hkj17 => ?_
   have hj17 : ∀ (s17_18 : (Sl TArg)), Z0_j17 s60_13 (Z0_l11 a0 a1 a2 a3 n11) s17_18 = Option.bind (kj17 s17_18) Kb11 := by
    intro s17_18
    unfold Z0_j17
    rw [hkj17]
    try dsimp only
    all_goals exact ih11 _ _ ⟨by omega, by omega⟩
   refine Q.condO ?_ ?_
   ·all_goals exact hj17 _
   refine Q.bindPO (Z6_eq _ _) fun x28 hx_x28 => ?_
   refine Q.guardOO (Z10_eq _ _) fun x39 => ?_
   refine Q.mixO fun kj30 hkj30 => ?_
   have hj30 : ∀ (s24_31 : Int) (y32_l0 : TValue), Z0_j30 s17_12 s60_13 x20 (Z0_l11 a0 a1 a2 a3 n11) s24_31 y32_l0 = Option.bind (kj30 s24_31 y32_l0) Kb11 := by
    intro s24_31 y32_l0
    unfold Z0_j30
    rw [hkj30]
    try dsimp only
    refine Q.condO ?_ ?_
    ·all_goals exact hret _
    refine Q.bindO rfl fun x37 => ?_
    all_goals exact hj17 _
   refine Q.condO ?_ ?_
   ·refine Q.bindO (Z2_eq _ _ _ _) fun x41 => ?_
    all_goals exact hj30 _ _
   refine Q.condO ?_ ?_
   ·refine Q.bindO (Z2_eq _ _ _ _) fun x44 => ?_
    all_goals exact hj30 _ _
   refine Q.bindPO (Z89_eq _) fun x46 hx_x46 => ?_
   refine Q.condO ?_ ?_
   ·all_goals exact hj30 _ _
   all_goals exact hj17 _
  rw [List.drop_of_length_le (by omega), Z0_q11]
  refine Q.condF (Q.ltF hlt) ?_
  exact hend n11 s17_12 s60_13
def Z0_q (a0 : TDoc) (a1 : (Sl TInput)) (a2 : (Sl TArg)) (a3 : TValue) : Option ((Sl TArg) × Int) := on (Z0_q50 a1 a2 a2.l 0 ) fun o50 => match o50 with | Sum.inl _ => (on (()) fun _ => Option.bind (Z0_q11 a0 a1 a2 a3 a1.l 0 (Sl.nil : Sl TArg)) fun o11 => match o11 with | Sum.inl s17_12 => (on (s17_12) fun s17_7 => some (s17_7, (0 : Int))) | Sum.inr e11 => (some e11)) | Sum.inr e50 => (some e50)
theorem Z0_eq (a0 : TDoc) (a1 : (Sl TInput)) (a2 : (Sl TArg)) (a3 : TValue) : Z0 a0 a1 a2 a3 = Z0_q a0 a1 a2 a3 := by
 unfold Z0 Z0_q
 refine Eq.trans ?_ (Q.some_bind _)
 refine Q.wrapPO fun Kb50 hKb50 => ?_
 refine Z0_l50_qe  Kb50 ?_ ?_ _ _ ⟨Nat.succ_pos _, by omega⟩
 ·intro n50 s27_51
  refine Eq.trans ?_ (hKb50 _).symm
  try dsimp only
  refine Q.wrapPO fun Kj2 hKj2 => ?_
  have hj2 : Z0_j2 a0 a1 a2 a3  = Kj2 () := by
   refine Eq.trans ?_ (hKj2 _).symm
   unfold Z0_j2
   refine Q.wrapOO fun Kb11 hKb11 => ?_
   refine Z0_l11_qe  Kb11 ?_ ?_ _ _ _ ⟨Nat.succ_pos _, by omega⟩
   ·intro n11 s17_12 s60_13
    refine Eq.trans ?_ (hKb11 _).symm
    try dsimp only
    refine Q.wrapPO fun Kj6 hKj6 => ?_
    have hj6 : ∀ (s17_7 : (Sl TArg)), Z0_j6  s17_7 = Kj6 s17_7 := by
     intro s17_7
     refine Eq.trans ?_ (hKj6 _).symm
     unfold Z0_j6
     all_goals rfl
    all_goals exact hj6 _
   intro e11
   refine Eq.trans ?_ (hKb11 _).symm
   try dsimp only
   all_goals rfl
  all_goals exact hj2
 intro e50
 refine Eq.trans ?_ (hKb50 _).symm
 try dsimp only
 all_goals rfl
def Z34_q24 (a1 : TValue) : List Bs → Nat → Option (Unit ⊕ Bool)
 | [], s5_25 => some (Sum.inl ())
 | h24 :: r24, s5_25 => on (h24) fun x32 => (a1.FKeys.l[s5_25]?).bind fun x33 => bif (!(x32 == x33)) then (some (Sum.inr false)) else (Z34_q24 a1 (r24) (s5_25 + 1) )
theorem Z34_l24_qe {a0 : TValue} {a1 : TValue} {k_rec_12 : TValue → TValue → Option Bool}  (Kb24 : (Unit ⊕ Bool) → Option Bool) (hend : ∀ (n24 : Nat) (s5_25 : Nat), Z34_j6 a0 a1 k_rec_12  = Kb24 (Sum.inl ())) (hret : ∀ e : Bool, some e = Kb24 (Sum.inr e)) : ∀ (n24 : Nat) (s5_25 : Nat), (0 < n24 ∧ a0.FKeys.l.length < s5_25 + n24) → Z34_l24 a0 a1 k_rec_12 n24 s5_25 = Option.bind (Z34_q24 a1 (a0.FKeys.l.drop s5_25) s5_25 ) Kb24 := by
 intro n24
 induction n24 with
 | zero => intro s5_25 hn; exact absurd hn.1 (by omega)
 | succ n24 ih24 =>
  intro s5_25 hn
  rw [Z34_l24]
  by_cases hlt : s5_25 < a0.FKeys.l.length
  ·obtain ⟨h24, hh24⟩ : ∃ x, a0.FKeys.l[s5_25]? = some x := ⟨_, List.getElem?_eq_getElem hlt⟩
   rw [Q.drop_of hh24, Z34_q24]
   refine Q.condT (Q.ltT hlt) ?_
   refine Q.bindPO hh24 fun x32 hx_x32 => ?_
   refine Q.bindO rfl fun x33 => ?_
   refine Q.condO ?_ ?_
   ·all_goals exact hret _
   all_goals exact ih24 _ ⟨by omega, by omega⟩
  rw [List.drop_of_length_le (by omega), Z34_q24]
  refine Q.condF (Q.ltF hlt) ?_
  exact hend n24 s5_25
def Z34_q10 (a1 : TValue) (k_rec_12 : TValue → TValue → Option Bool) : List TValue → Nat → Option (Unit ⊕ Bool)
 | [], s6_11 => some (Sum.inl ())
 | h10 :: r10, s6_11 => on (h10) fun x18 => (a1.FItems.l[s6_11]?).bind fun x19 => (k_rec_12 x18 x19).bind fun x20 => bif (!x20) then (some (Sum.inr false)) else (Z34_q10 a1 k_rec_12 (r10) (s6_11 + 1) )
theorem Z34_l10_qe {a0 : TValue} {a1 : TValue} {k_rec_12 : TValue → TValue → Option Bool}  (Kb10 : (Unit ⊕ Bool) → Option Bool) (hend : ∀ (n10 : Nat) (s6_11 : Nat), Z34_j7    = Kb10 (Sum.inl ())) (hret : ∀ e : Bool, some e = Kb10 (Sum.inr e)) : ∀ (n10 : Nat) (s6_11 : Nat), (0 < n10 ∧ a0.FItems.l.length < s6_11 + n10) → Z34_l10 a0 a1 k_rec_12 n10 s6_11 = Option.bind (Z34_q10 a1 k_rec_12 (a0.FItems.l.drop s6_11) s6_11 ) Kb10 := by
 intro n10
 induction n10 with
 | zero => intro s6_11 hn; exact absurd hn.1 (by omega)
 | succ n10 ih10 =>
  intro s6_11 hn
  rw [Z34_l10]
  by_cases hlt : s6_11 < a0.FItems.l.length
  ·obtain ⟨h10, hh10⟩ : ∃ x, a0.FItems.l[s6_11]? = some x := ⟨_, List.getElem?_eq_getElem hlt⟩
   rw [Q.drop_of hh10, Z34_q10]
   refine Q.condT (Q.ltT hlt) ?_
   refine Q.bindPO hh10 fun x18 hx_x18 => ?_
   refine Q.bindO rfl fun x19 => ?_
   refine Q.bindO rfl fun x20 => ?_
   refine Q.condO ?_ ?_
   ·all_goals exact hret _
   all_goals exact ih10 _ ⟨by omega, by omega⟩
  rw [List.drop_of_length_le (by omega), Z34_q10]
  refine Q.condF (Q.ltF hlt) ?_
  exact hend n10 s6_11
def Z34_qn : Nat → TValue → TValue → Option Bool
 | 0, _, _ => none
 | n + 1, a0, a1 => bif (((((!decide (a0.FKind = a1.FKind)) || (!decide (a0.FInt = a1.FInt))) || (!(a0.FText == a1.FText))) || (!decide (((a0.FItems.l.length : Nat) : Int) = ((a1.FItems.l.length : Nat) : Int)))) || (!decide (((a0.FKeys.l.length : Nat) : Int) = ((a1.FKeys.l.length : Nat) : Int)))) then (some false) else (Option.bind (Z34_q24 a1 a0.FKeys.l 0 ) fun o24 => match o24 with | Sum.inl _ => (on (()) fun _ => Option.bind (Z34_q10 a1 (Z34_qn n) a0.FItems.l 0 ) fun o10 => match o10 with | Sum.inl _ => (on (()) fun _ => some true) | Sum.inr e10 => (some e10)) | Sum.inr e24 => (some e24))
theorem Z34_qall : ∀ n : Nat, Z34_n n = Z34_qn n := by
 intro n
 induction n with
 | zero => exact (by funext a0 a1; first | rfl | (rw [Z34_n, Z34_qn]))
 | succ n ih =>
  funext a0 a1
  refine Eq.trans ?_ (Q.some_bind _)
  rw [Z34_n, Z34_qn]
  try rw [ih]
  refine Q.condO ?_ ?_
  ·all_goals rfl
  refine Q.wrapOO fun Kb24 hKb24 => ?_
  refine Z34_l24_qe  Kb24 ?_ ?_ _ _ ⟨Nat.succ_pos _, by omega⟩
  ·intro n24 s5_25
   refine Eq.trans ?_ (hKb24 _).symm
   try dsimp only
   refine Q.wrapPO fun Kj6 hKj6 => ?_
   have hj6 : Z34_j6 a0 a1 (Z34_qn n)  = Kj6 () := by
    refine Eq.trans ?_ (hKj6 _).symm
    unfold Z34_j6
    refine Q.wrapOO fun Kb10 hKb10 => ?_
    refine Z34_l10_qe  Kb10 ?_ ?_ _ _ ⟨Nat.succ_pos _, by omega⟩
    ·intro n10 s6_11
     refine Eq.trans ?_ (hKb10 _).symm
     try dsimp only
     refine Q.wrapPO fun Kj7 hKj7 => ?_
     have hj7 : Z34_j7   = Kj7 () := by
      refine Eq.trans ?_ (hKj7 _).symm
      unfold Z34_j7
      all_goals rfl
     all_goals exact hj7
    intro e10
    refine Eq.trans ?_ (hKb10 _).symm
    try dsimp only
    all_goals rfl
   all_goals exact hj6
  intro e24
  refine Eq.trans ?_ (hKb24 _).symm
  try dsimp only
  all_goals rfl
def Z34_q (a0 : TValue) (a1 : TValue) : Option Bool := Z34_qn F0 a0 a1
theorem Z34_eq (a0 : TValue) (a1 : TValue) : Z34 a0 a1 = Z34_q a0 a1 := by
 unfold Z34 Z34_q; rw [(Z34_qall F0)]
def Z17_q (a0 : (Sl TInput)) : Option Bool := bif (decide ((16 : Int) < ((a0.l.length : Nat) : Int))) then (some false) else ((Z43_q (TDoc.mk (⟨false, [(TDef.mk (5 : Int) ([65] : Bs) (Sl.nil : Sl Bs) (Sl.nil : Sl TDir) (Sl.nil : Sl TField) (Sl.nil : Sl TMember) a0)]⟩ : Sl TDef)) (300 : Int)).bind fun x9 => guardO (((decide (x9 ≤ (300 : Int))) && !(decide (((a0.l.length : Nat) : Int) = (0 : Int))))) (Z42_q (TDoc.mk (⟨false, [(TDef.mk (5 : Int) ([65] : Bs) (Sl.nil : Sl Bs) (Sl.nil : Sl TDir) (Sl.nil : Sl TField) (Sl.nil : Sl TMember) a0)]⟩ : Sl TDef))) false fun x10 => some ((decide (x9 ≤ (300 : Int))) && ((decide (((a0.l.length : Nat) : Int) = (0 : Int))) || x10)))
theorem Z17_eq (a0 : (Sl TInput)) : Z17 a0 = Z17_q a0 := by
 unfold Z17 Z17_q
 refine Eq.trans ?_ (Q.some_bind _)
 refine Q.condO ?_ ?_
 ·all_goals rfl
 refine Q.bindO (Z43_eq _ _) fun x9 => ?_
 refine Q.guardOO (Z42_eq _) fun x10 => ?_
 all_goals rfl
def Z53_q6 (a1 : Bs) : List TDef → Unit ⊕ ((TDef × Bool))
 | [] => Sum.inl ()
 | h6 :: r6 => on (h6) fun x15 => bif ((x15.FName == a1)) then (on (h6) fun x18 => Sum.inr (x18, true)) else (Z53_q6 a1 (r6) )
theorem Z53_l6_qe {a0 : TDoc} {a1 : Bs}  (Kb6 : (Unit ⊕ ((TDef × Bool))) → Option (TDef × Bool)) (hend : ∀ (n6 : Nat) (s6_7 : Nat) (y8_l0 : TDef), Z53_j2   y8_l0 = Kb6 (Sum.inl ())) (hret : ∀ e : (TDef × Bool), some e = Kb6 (Sum.inr e)) : ∀ (n6 : Nat) (s6_7 : Nat) (y8_l0 : TDef), (0 < n6 ∧ a0.FDefs.l.length < s6_7 + n6) → Z53_l6 a0 a1 n6 s6_7 y8_l0 = Kb6 (Z53_q6 a1 (a0.FDefs.l.drop s6_7) ) := by
 intro n6
 induction n6 with
 | zero => intro s6_7 y8_l0 hn; exact absurd hn.1 (by omega)
 | succ n6 ih6 =>
  intro s6_7 y8_l0 hn
  rw [Z53_l6]
  by_cases hlt : s6_7 < a0.FDefs.l.length
  ·obtain ⟨h6, hh6⟩ : ∃ x, a0.FDefs.l[s6_7]? = some x := ⟨_, List.getElem?_eq_getElem hlt⟩
   rw [Q.drop_of hh6, Z53_q6]
   refine Q.condT (Q.ltT hlt) ?_
   refine Q.bindP hh6 fun x15 hx_x15 => ?_
   refine Q.condP ?_ ?_
   ·refine Q.bindP hh6 fun x18 hx_x18 => ?_
    all_goals exact hret _
   all_goals exact ih6 _ _ ⟨by omega, by omega⟩
  rw [List.drop_of_length_le (by omega), Z53_q6]
  refine Q.condF (Q.ltF hlt) ?_
  exact hend n6 s6_7 y8_l0
def Z53_q (a0 : TDoc) (a1 : Bs) : (TDef × Bool) := on (Z53_q6 a1 a0.FDefs.l ) fun o6 => match o6 with | Sum.inl _ => (on (()) fun _ => ((TDef.mk (0 : Int) ([] : Bs) (Sl.nil : Sl Bs) (Sl.nil : Sl TDir) (Sl.nil : Sl TField) (Sl.nil : Sl TMember) (Sl.nil : Sl TInput)), false)) | Sum.inr e6 => (e6)
theorem Z53_eq (a0 : TDoc) (a1 : Bs) : Z53 a0 a1 = some (Z53_q a0 a1) := by
 unfold Z53 Z53_q
 refine Q.wrapPP fun Kb6 hKb6 => ?_
 refine Z53_l6_qe  Kb6 ?_ ?_ _ _ _ ⟨Nat.succ_pos _, by omega⟩
 ·intro n6 s6_7 y8_l0
  refine Eq.trans ?_ (hKb6 _).symm
  try dsimp only
  refine Q.wrapPP fun Kj2 hKj2 => ?_
  have hj2 : ∀ (y3_l0 : TDef), Z53_j2  y3_l0 = Kj2 () := by
   intro y3_l0
   refine Eq.trans ?_ (hKj2 _).symm
   unfold Z53_j2
   all_goals rfl
  all_goals exact hj2 _
 intro e6
 refine Eq.trans ?_ (hKb6 _).symm
 try dsimp only
 all_goals rfl
def Z57_q (a0 : Bs) : Bool := (((((a0 == ([73, 110, 116] : Bs))) || ((a0 == ([83, 116, 114, 105, 110, 103] : Bs)))) || ((a0 == ([66, 111, 111, 108, 101, 97, 110] : Bs)))) || ((a0 == ([73, 68] : Bs))))
theorem Z57_eq (a0 : Bs) : Z57 a0 = some (Z57_q a0) := by
 unfold Z57 Z57_q
 all_goals rfl
def Z56_q (a0 : TDoc) (a1 : Bs) : Bool := on (Z53_q a0 a1) fun x3 => on (Z57_q a1) fun x5 => (x5 || (x3.2 && (decide (x3.1.FKind = (4 : Int)))))
theorem Z56_eq (a0 : TDoc) (a1 : Bs) : Z56 a0 a1 = some (Z56_q a0 a1) := by
 unfold Z56 Z56_q
 refine Q.bindP (Z53_eq _ _) fun x3 hx_x3 => ?_
 refine Q.bindP (Z57_eq _) fun x5 hx_x5 => ?_
 all_goals rfl
def Z55_q (a0 : TDoc) (a1 : Bs) : Bool := on (Z53_q a0 a1) fun x3 => on (Z56_q a0 a1) fun x5 => (x5 || (x3.2 && (decide (x3.1.FKind = (5 : Int)))))
theorem Z55_eq (a0 : TDoc) (a1 : Bs) : Z55 a0 a1 = some (Z55_q a0 a1) := by
 unfold Z55 Z55_q
 refine Q.bindP (Z53_eq _ _) fun x3 hx_x3 => ?_
 refine Q.bindP (Z56_eq _ _) fun x5 hx_x5 => ?_
 all_goals rfl
def Z30_q7 (k_rec_75 : TValue → Option TValue) : List TValue → (Sl TValue) → Option ((Sl TValue))
 | [], s3_8 => some s3_8
 | h7 :: r7, s3_8 => on (h7) fun x15 => (k_rec_75 x15).bind fun x16 => (appC 80 s3_8 (⟨false, [x16]⟩ : Sl TValue)).bind fun x17 => Z30_q7 k_rec_75 (r7) x17
theorem Z30_l7_qe {a0 : (Sl TValue)} {k_rec_75 : TValue → Option TValue}  (Kb7 : ((Sl TValue)) → Option (Sl TValue)) (hend : ∀ (n7 : Nat) (s3_8 : (Sl TValue)) (s4_9 : Nat), Z30_j3   s3_8 = Kb7 s3_8) : ∀ (n7 : Nat) (s3_8 : (Sl TValue)) (s4_9 : Nat), (0 < n7 ∧ a0.l.length < s4_9 + n7) → Z30_l7 a0 k_rec_75 n7 s3_8 s4_9 = Option.bind (Z30_q7 k_rec_75 (a0.l.drop s4_9) s3_8) Kb7 := by
 intro n7
 induction n7 with
 | zero => intro s3_8 s4_9 hn; exact absurd hn.1 (by omega)
 | succ n7 ih7 =>
  intro s3_8 s4_9 hn
  rw [Z30_l7]
  by_cases hlt : s4_9 < a0.l.length
  ·obtain ⟨h7, hh7⟩ : ∃ x, a0.l[s4_9]? = some x := ⟨_, List.getElem?_eq_getElem hlt⟩
   rw [Q.drop_of hh7, Z30_q7]
   refine Q.condT (Q.ltT hlt) ?_
   refine Q.bindPO hh7 fun x15 hx_x15 => ?_
   refine Q.bindO rfl fun x16 => ?_
   refine Q.bindO rfl fun x17 => ?_
   all_goals exact ih7 _ _ ⟨by omega, by omega⟩
  rw [List.drop_of_length_le (by omega), Z30_q7]
  refine Q.condF (Q.ltF hlt) ?_
  exact hend n7 s3_8 s4_9
mutual
def r02_Copy_qn : Nat → TValue → Option TValue
 | 0, _ => none
 | n + 1, a0 => ((Z30_qn n) a0.FItems).bind fun x3 => (appC 16 (⟨false, []⟩ : Sl Bs) a0.FKeys).bind fun x4 => some (TValue.mk a0.FKind a0.FInt a0.FText x3.nl x3.l x4)
def Z30_qn : Nat → (Sl TValue) → Option (Sl TValue)
 | 0, _ => none
 | n + 1, a0 => Option.bind (Z30_q7 (r02_Copy_qn n) a0.l (Sl.nil : Sl TValue)) fun s3_8 => on (s3_8) fun s3_4 => some s3_4
end
theorem r02_Copy_qall : ∀ n : Nat, r02_Copy_n n = r02_Copy_qn n ∧ Z30_n n = Z30_qn n := by
 intro n
 induction n with
 | zero => exact ⟨(by funext a0; first | rfl | (rw [r02_Copy_n, r02_Copy_qn])), (by funext a0; first | rfl | (rw [Z30_n, Z30_qn]))⟩
 | succ n ih =>
  refine ⟨?_, ?_⟩
  ·funext a0
   refine Eq.trans ?_ (Q.some_bind _)
   rw [r02_Copy_n, r02_Copy_qn]
   try rw [ih.1]
   try rw [ih.2]
   refine Q.bindO rfl fun x3 => ?_
   refine Q.bindO rfl fun x4 => ?_
   all_goals rfl
  funext a0
  refine Eq.trans ?_ (Q.some_bind _)
  rw [Z30_n, Z30_qn]
  try rw [ih.1]
  try rw [ih.2]
  refine Q.wrapOO fun Kb7 hKb7 => ?_
  refine Z30_l7_qe  Kb7 ?_ _ _ _ ⟨Nat.succ_pos _, by omega⟩
  intro n7 s3_8 s4_9
  refine Eq.trans ?_ (hKb7 _).symm
  refine Q.wrapPO fun Kj3 hKj3 => ?_
  have hj3 : ∀ (s3_4 : (Sl TValue)), Z30_j3  s3_4 = Kj3 s3_4 := by
   intro s3_4
   refine Eq.trans ?_ (hKj3 _).symm
   unfold Z30_j3
   all_goals rfl
  all_goals exact hj3 _
def r02_Copy_q (a0 : TValue) : Option TValue := r02_Copy_qn F0 a0
theorem r02_Copy_eq (a0 : TValue) : r02_Copy a0 = r02_Copy_q a0 := by
 unfold r02_Copy r02_Copy_q; rw [(r02_Copy_qall F0).1]
end Go.Proofs
