import Derived.Test.YtjlggcgmmpopmaaGreatDoorV8
set_option maxRecDepth 100000
set_option maxHeartbeats 2000000
set_option linter.unusedVariables false
set_option linter.unusedSimpArgs false
namespace Go.Proofs
open Go Go.Ab
def Z75_q (a0 : (Sl Bs)) : Option (Sl Bs) := bif a0.nl then (some (Sl.nil : Sl Bs)) else ((appC 16 (⟨false, []⟩ : Sl Bs) a0).bind fun x7 => some x7)
theorem Z75_eq (a0 : (Sl Bs)) : Z75 a0 = Z75_q a0 := by
 unfold Z75 Z75_q
 refine Eq.trans ?_ (Q.some_bind _)
 refine Q.condO ?_ ?_
 ·all_goals rfl
 refine Q.bindO rfl fun x7 => ?_
 all_goals rfl
def Z91_q8 (k_rec_60 : TValue → Option TValue) : List TValue → (Sl TValue) → Option ((Sl TValue))
 | [], s3_9 => some s3_9
 | h8 :: r8, s3_9 => on (h8) fun x16 => (k_rec_60 x16).bind fun x17 => (appC 80 s3_9 (⟨false, [x17]⟩ : Sl TValue)).bind fun x18 => Z91_q8 k_rec_60 (r8) x18
theorem Z91_l8_qe {a0 : (Sl TValue)} {k_rec_60 : TValue → Option TValue}  (Kb8 : ((Sl TValue)) → Option (Sl TValue)) (hend : ∀ (n8 : Nat) (s3_9 : (Sl TValue)) (s8_10 : Nat), Z91_j3   s3_9 = Kb8 s3_9) : ∀ (n8 : Nat) (s3_9 : (Sl TValue)) (s8_10 : Nat), (0 < n8 ∧ a0.l.length < s8_10 + n8) → Z91_l8 a0 k_rec_60 n8 s3_9 s8_10 = Option.bind (Z91_q8 k_rec_60 (a0.l.drop s8_10) s3_9) Kb8 := by
 intro n8
 induction n8 with
 | zero => intro s3_9 s8_10 hn; exact absurd hn.1 (by omega)
 | succ n8 ih8 =>
  intro s3_9 s8_10 hn
  rw [Z91_l8]
  by_cases hlt : s8_10 < a0.l.length
  ·obtain ⟨h8, hh8⟩ : ∃ x, a0.l[s8_10]? = some x := ⟨_, List.getElem?_eq_getElem hlt⟩
   rw [Q.drop_of hh8, Z91_q8]
   refine Q.condT (Q.ltT hlt) ?_
   refine Q.bindPO hh8 fun x16 hx_x16 => ?_
   refine Q.bindO rfl fun x17 => ?_
   refine Q.bindO rfl fun x18 => ?_
   all_goals exact ih8 _ _ ⟨by omega, by omega⟩
  rw [List.drop_of_length_le (by omega), Z91_q8]
  refine Q.condF (Q.ltF hlt) ?_
  exact hend n8 s3_9 s8_10
mutual
def value_Copy_qn : Nat → TValue → Option TValue
 | 0, _ => none
 | n + 1, a0 => ((Z91_qn n) a0.FItems).bind fun x3 => (Z75_q a0.FKeys).bind fun x5 => some (TValue.mk a0.FKind a0.FInt a0.FText x3.nl x3.l x5)
def Z91_qn : Nat → (Sl TValue) → Option (Sl TValue)
 | 0, _ => none
 | n + 1, a0 => Option.bind (Z91_q8 (value_Copy_qn n) a0.l (Sl.nil : Sl TValue)) fun s3_9 => on (s3_9) fun s3_4 => some s3_4
end
theorem value_Copy_qall : ∀ n : Nat, value_Copy_n n = value_Copy_qn n ∧ Z91_n n = Z91_qn n := by
 intro n
 induction n with
 | zero => exact ⟨(by funext a0; first | rfl | (rw [value_Copy_n, value_Copy_qn])), (by funext a0; first | rfl | (rw [Z91_n, Z91_qn]))⟩
 | succ n ih =>
  refine ⟨?_, ?_⟩
  ·funext a0
   refine Eq.trans ?_ (Q.some_bind _)
   rw [value_Copy_n, value_Copy_qn]
   try rw [ih.1]
   try rw [ih.2]
   refine Q.bindO rfl fun x3 => ?_
   refine Q.bindO (Z75_eq _) fun x5 => ?_
   all_goals rfl
  funext a0
  refine Eq.trans ?_ (Q.some_bind _)
  rw [Z91_n, Z91_qn]
  try rw [ih.1]
  try rw [ih.2]
  refine Q.wrapOO fun Kb8 hKb8 => ?_
  refine Z91_l8_qe  Kb8 ?_ _ _ _ ⟨Nat.succ_pos _, by omega⟩
  intro n8 s3_9 s8_10
  refine Eq.trans ?_ (hKb8 _).symm
  refine Q.wrapPO fun Kj3 hKj3 => ?_
  have hj3 : ∀ (s3_4 : (Sl TValue)), Z91_j3  s3_4 = Kj3 s3_4 := by
   intro s3_4
   refine Eq.trans ?_ (hKj3 _).symm
   unfold Z91_j3
   all_goals rfl
  all_goals exact hj3 _
def value_Copy_q (a0 : TValue) : Option TValue := value_Copy_qn F0 a0
theorem value_Copy_eq (a0 : TValue) : value_Copy a0 = value_Copy_q a0 := by
 unfold value_Copy value_Copy_q; rw [(value_Copy_qall F0).1]
def Z80_q6 (a1 : Bs) : List Bs → Nat → Unit ⊕ Int
 | [], s8_7 => Sum.inl ()
 | h6 :: r6, s8_7 => on (h6) fun x14 => bif ((a1 == x14)) then (Sum.inr ((s8_7 : Nat) : Int)) else (Z80_q6 a1 (r6) (s8_7 + 1) )
theorem Z80_l6_qe {a0 : (Sl Bs)} {a1 : Bs}  (Kb6 : (Unit ⊕ Int) → Option Int) (hend : ∀ (n6 : Nat) (s8_7 : Nat), Z80_j2    = Kb6 (Sum.inl ())) (hret : ∀ e : Int, some e = Kb6 (Sum.inr e)) : ∀ (n6 : Nat) (s8_7 : Nat), (0 < n6 ∧ a0.l.length < s8_7 + n6) → Z80_l6 a0 a1 n6 s8_7 = Kb6 (Z80_q6 a1 (a0.l.drop s8_7) s8_7 ) := by
 intro n6
 induction n6 with
 | zero => intro s8_7 hn; exact absurd hn.1 (by omega)
 | succ n6 ih6 =>
  intro s8_7 hn
  rw [Z80_l6]
  by_cases hlt : s8_7 < a0.l.length
  ·obtain ⟨h6, hh6⟩ : ∃ x, a0.l[s8_7]? = some x := ⟨_, List.getElem?_eq_getElem hlt⟩
   rw [Q.drop_of hh6, Z80_q6]
   refine Q.condT (Q.ltT hlt) ?_
   refine Q.bindP hh6 fun x14 hx_x14 => ?_
   refine Q.condP ?_ ?_
   ·all_goals exact hret _
   all_goals exact ih6 _ ⟨by omega, by omega⟩
  rw [List.drop_of_length_le (by omega), Z80_q6]
  refine Q.condF (Q.ltF hlt) ?_
  exact hend n6 s8_7
def Z80_q (a0 : (Sl Bs)) (a1 : Bs) : Int := on (Z80_q6 a1 a0.l 0 ) fun o6 => match o6 with | Sum.inl _ => (on (()) fun _ => (-1 : Int)) | Sum.inr e6 => (e6)
theorem Z80_eq (a0 : (Sl Bs)) (a1 : Bs) : Z80 a0 a1 = some (Z80_q a0 a1) := by
 unfold Z80 Z80_q
 refine Q.wrapPP fun Kb6 hKb6 => ?_
 refine Z80_l6_qe  Kb6 ?_ ?_ _ _ ⟨Nat.succ_pos _, by omega⟩
 ·intro n6 s8_7
  refine Eq.trans ?_ (hKb6 _).symm
  try dsimp only
  refine Q.wrapPP fun Kj2 hKj2 => ?_
  have hj2 : Z80_j2   = Kj2 () := by
   refine Eq.trans ?_ (hKj2 _).symm
   unfold Z80_j2
   all_goals rfl
  all_goals exact hj2
 intro e6
 refine Eq.trans ?_ (hKb6 _).symm
 try dsimp only
 all_goals rfl
def Z89_q (a0 : TValue) (a1 : Bs) : Option (TValue × Bool) := on (Z80_q a0.FKeys a1) fun x3 => bif (((!decide (a0.FKind = (6 : Int))) || (decide (x3 < (0 : Int)))) || (decide (((a0.FItems.l.length : Nat) : Int) ≤ x3))) then (some ((TValue.mk (0 : Int) (0 : Int) ([] : Bs) true ([]) (Sl.nil : Sl Bs)), false)) else ((idxC a0.FItems.l x3).bind fun x9 => (value_Copy_q x9).bind fun x10 => some (x10, true))
theorem Z89_eq (a0 : TValue) (a1 : Bs) : Z89 a0 a1 = Z89_q a0 a1 := by
 unfold Z89 Z89_q
 refine Eq.trans ?_ (Q.some_bind _)
 refine Q.bindPO (Z80_eq _ _) fun x3 hx_x3 => ?_
 refine Q.condO ?_ ?_
 ·all_goals rfl
 refine Q.bindO rfl fun x9 => ?_
 refine Q.bindO (value_Copy_eq _) fun x10 => ?_
 all_goals rfl
def Z12_q (a0 : Coerce_coercer) (a1 : TValue) : Option Bool := bif ((!decide (a1.FKind = (7 : Int))) || (!a0.Fliteral)) then (some false) else ((Z89_q a0.Fvars a1.FText).bind fun x7 => some (!x7.2))
theorem Z12_eq (a0 : Coerce_coercer) (a1 : TValue) : Z12 a0 a1 = Z12_q a0 a1 := by
 unfold Z12 Z12_q
 refine Eq.trans ?_ (Q.some_bind _)
 refine Q.condO ?_ ?_
 ·all_goals rfl
 refine Q.bindO (Z89_eq _ _) fun x7 => ?_
 all_goals rfl
def Z68_q7 (a1 : Bs) : List TDef → Unit ⊕ ((TDef × Bool))
 | [] => Sum.inl ()
 | h7 :: r7 => on (h7) fun x15 => bif ((x15.FName == a1)) then (Sum.inr (x15, true)) else (Z68_q7 a1 (r7) )
theorem Z68_l7_qe {a0 : TDoc} {a1 : Bs}  (Kb7 : (Unit ⊕ ((TDef × Bool))) → Option (TDef × Bool)) (hend : ∀ (n7 : Nat) (s11_8 : Nat) (y9_l0 : TDef), Z68_j2   y9_l0 = Kb7 (Sum.inl ())) (hret : ∀ e : (TDef × Bool), some e = Kb7 (Sum.inr e)) : ∀ (n7 : Nat) (s11_8 : Nat) (y9_l0 : TDef), (0 < n7 ∧ a0.FDefs.l.length < s11_8 + n7) → Z68_l7 a0 a1 n7 s11_8 y9_l0 = Kb7 (Z68_q7 a1 (a0.FDefs.l.drop s11_8) ) := by
 intro n7
 induction n7 with
 | zero => intro s11_8 y9_l0 hn; exact absurd hn.1 (by omega)
 | succ n7 ih7 =>
  intro s11_8 y9_l0 hn
  rw [Z68_l7]
  by_cases hlt : s11_8 < a0.FDefs.l.length
  ·obtain ⟨h7, hh7⟩ : ∃ x, a0.FDefs.l[s11_8]? = some x := ⟨_, List.getElem?_eq_getElem hlt⟩
   rw [Q.drop_of hh7, Z68_q7]
   refine Q.condT (Q.ltT hlt) ?_
   refine Q.bindP hh7 fun x15 hx_x15 => ?_
   refine Q.condP ?_ ?_
   ·all_goals exact hret _
   all_goals exact ih7 _ _ ⟨by omega, by omega⟩
  rw [List.drop_of_length_le (by omega), Z68_q7]
  refine Q.condF (Q.ltF hlt) ?_
  exact hend n7 s11_8 y9_l0
def Z68_q (a0 : TDoc) (a1 : Bs) : (TDef × Bool) := on (Z68_q7 a1 a0.FDefs.l ) fun o7 => match o7 with | Sum.inl _ => (on (()) fun _ => ((TDef.mk (0 : Int) ([] : Bs) (Sl.nil : Sl Bs) (Sl.nil : Sl TDir) (Sl.nil : Sl TField) (Sl.nil : Sl TMember) (Sl.nil : Sl TInput)), false)) | Sum.inr e7 => (e7)
theorem Z68_eq (a0 : TDoc) (a1 : Bs) : Z68 a0 a1 = some (Z68_q a0 a1) := by
 unfold Z68 Z68_q
 refine Q.wrapPP fun Kb7 hKb7 => ?_
 refine Z68_l7_qe  Kb7 ?_ ?_ _ _ _ ⟨Nat.succ_pos _, by omega⟩
 ·intro n7 s11_8 y9_l0
  refine Eq.trans ?_ (hKb7 _).symm
  try dsimp only
  refine Q.wrapPP fun Kj2 hKj2 => ?_
  have hj2 : ∀ (y3_l0 : TDef), Z68_j2  y3_l0 = Kj2 () := by
   intro y3_l0
   refine Eq.trans ?_ (hKj2 _).symm
   unfold Z68_j2
   all_goals rfl
  all_goals exact hj2 _
 intro e7
 refine Eq.trans ?_ (hKb7 _).symm
 try dsimp only
 all_goals rfl
def Z73_q (a0 : TDoc) (a1 : Bs) : Int := on (Z68_q a0 a1) fun x3 => x3.1.FKind
theorem Z73_eq (a0 : TDoc) (a1 : Bs) : Z73 a0 a1 = some (Z73_q a0 a1) := by
 unfold Z73 Z73_q
 refine Q.bindP (Z68_eq _ _) fun x3 hx_x3 => ?_
 all_goals rfl
def Z72_q (a0 : Bs) : Bool := (((((a0 == ([73, 110, 116] : Bs))) || ((a0 == ([83, 116, 114, 105, 110, 103] : Bs)))) || ((a0 == ([66, 111, 111, 108, 101, 97, 110] : Bs)))) || ((a0 == ([73, 68] : Bs))))
theorem Z72_eq (a0 : Bs) : Z72 a0 = some (Z72_q a0) := by
 unfold Z72 Z72_q
 all_goals rfl
def Z71_q (a0 : TDoc) (a1 : Bs) : Bool := on (Z72_q a1) fun x3 => on (bif !x3 then Z73_q a0 a1 else (0 : Int)) fun x4 => (x3 || (decide (x4 = (4 : Int))))
theorem Z71_eq (a0 : TDoc) (a1 : Bs) : Z71 a0 a1 = some (Z71_q a0 a1) := by
 unfold Z71 Z71_q
 refine Q.bindP (Z72_eq _) fun x3 hx_x3 => ?_
 refine Q.guardP (Z73_eq _ _) fun x4 hx_x4 => ?_
 all_goals rfl
def Z70_q (a0 : TDoc) (a1 : Bs) : Bool := on (Z71_q a0 a1) fun x3 => on (bif !x3 then Z73_q a0 a1 else (0 : Int)) fun x4 => (x3 || (decide (x4 = (5 : Int))))
theorem Z70_eq (a0 : TDoc) (a1 : Bs) : Z70 a0 a1 = some (Z70_q a0 a1) := by
 unfold Z70 Z70_q
 refine Q.bindP (Z71_eq _ _) fun x3 hx_x3 => ?_
 refine Q.guardP (Z73_eq _ _) fun x4 hx_x4 => ?_
 all_goals rfl
def Z16_q (a0 : TValue) (a1 : Int) : Option (TValue × Int) := bif (!decide (a1 = (0 : Int))) then (some ((TValue.mk (0 : Int) (0 : Int) ([] : Bs) true ([]) (Sl.nil : Sl Bs)), a1)) else ((value_Copy_q a0).bind fun x7 => some (x7, (0 : Int)))
theorem Z16_eq (a0 : TValue) (a1 : Int) : Z16 a0 a1 = Z16_q a0 a1 := by
 unfold Z16 Z16_q
 refine Eq.trans ?_ (Q.some_bind _)
 refine Q.condO ?_ ?_
 ·all_goals rfl
 refine Q.bindO (value_Copy_eq _) fun x7 => ?_
 all_goals rfl
def Z87_q (a0 : TRef) : Bool := on (bif (decide ((0 : Int) < ((a0.FWraps.l.length : Nat) : Int))) then ((a0.FWraps.l)[0]?.getD (0 : Int)) else (0 : Int)) fun x4 => ((decide ((0 : Int) < ((a0.FWraps.l.length : Nat) : Int))) && (decide (x4 = (1 : Int))))
theorem Z87_eq (a0 : TRef) : Z87 a0 = some (Z87_q a0) := by
 unfold Z87 Z87_q
 refine Q.guardT (fun hc => Q.getD_some (by simp at hc; omega)) fun x4 hx_x4 => ?_
 all_goals rfl
def Z9_q (a0 : Coerce_coercer) (a1 : Int) : Option (Int × Coerce_coercer) := bif (decide ((24 : Int) < a1)) then (some ((5 : Int), a0)) else ((addC a0.Fnodes (1 : Int)).bind fun x7 => bif (decide ((4096 : Int) < x7)) then (some ((4 : Int), (Coerce_coercer.mk a0.Fd a0.Fvars a0.Fliteral x7))) else (some ((0 : Int), (Coerce_coercer.mk a0.Fd a0.Fvars a0.Fliteral x7))))
theorem Z9_eq (a0 : Coerce_coercer) (a1 : Int) : Z9 a0 a1 = Z9_q a0 a1 := by
 unfold Z9 Z9_q
 refine Eq.trans ?_ (Q.some_bind _)
 refine Q.condO ?_ ?_
 ·all_goals rfl
 refine Q.bindO rfl fun x7 => ?_
 refine Q.condO ?_ ?_
 ·all_goals rfl
 all_goals rfl
def Z15_q13 (a2 : Int) (k_rec_61 : Coerce_coercer → TValue → Int → Option (Int × Coerce_coercer)) : List TValue → Coerce_coercer → Option (Coerce_coercer ⊕ ((Int × Coerce_coercer)))
 | [], y15_c0 => some (Sum.inl y15_c0)
 | h13 :: r13, y15_c0 => on (h13) fun x21 => (addC a2 (1 : Int)).bind fun x23 => (k_rec_61 y15_c0 x21 x23).bind fun x24 => bif (!decide (x24.1 = (0 : Int))) then (some (Sum.inr (x24.1, x24.2))) else (Z15_q13 a2 k_rec_61 (r13) x24.2)
theorem Z15_l13_qe {a1 : TValue} {a2 : Int} {k_rec_61 : Coerce_coercer → TValue → Int → Option (Int × Coerce_coercer)}  (Kb13 : (Coerce_coercer ⊕ ((Int × Coerce_coercer))) → Option (Int × Coerce_coercer)) (hend : ∀ (n13 : Nat) (s20_14 : Nat) (y15_c0 : Coerce_coercer), Z15_j8   y15_c0 = Kb13 (Sum.inl y15_c0)) (hret : ∀ e : (Int × Coerce_coercer), some e = Kb13 (Sum.inr e)) : ∀ (n13 : Nat) (s20_14 : Nat) (y15_c0 : Coerce_coercer), (0 < n13 ∧ a1.FItems.l.length < s20_14 + n13) → Z15_l13 a1 a2 k_rec_61 n13 s20_14 y15_c0 = Option.bind (Z15_q13 a2 k_rec_61 (a1.FItems.l.drop s20_14) y15_c0) Kb13 := by
 intro n13
 induction n13 with
 | zero => intro s20_14 y15_c0 hn; exact absurd hn.1 (by omega)
 | succ n13 ih13 =>
  intro s20_14 y15_c0 hn
  rw [Z15_l13]
  by_cases hlt : s20_14 < a1.FItems.l.length
  ·obtain ⟨h13, hh13⟩ : ∃ x, a1.FItems.l[s20_14]? = some x := ⟨_, List.getElem?_eq_getElem hlt⟩
   rw [Q.drop_of hh13, Z15_q13]
   refine Q.condT (Q.ltT hlt) ?_
   refine Q.bindPO hh13 fun x21 hx_x21 => ?_
   refine Q.bindO rfl fun x23 => ?_
   refine Q.bindO rfl fun x24 => ?_
   refine Q.condO ?_ ?_
   ·all_goals exact hret _
   all_goals exact ih13 _ _ ⟨by omega, by omega⟩
  rw [List.drop_of_length_le (by omega), Z15_q13]
  refine Q.condF (Q.ltF hlt) ?_
  exact hend n13 s20_14 y15_c0
def Z15_qn : Nat → Coerce_coercer → TValue → Int → Option (Int × Coerce_coercer)
 | 0, _, _, _ => none
 | n + 1, a0, a1, a2 => (Z9_q a0 a2).bind fun x4 => bif (!decide (x4.1 = (0 : Int))) then (some (x4.1, x4.2)) else (Option.bind (Z15_q13 a2 (Z15_qn n) a1.FItems.l x4.2) fun o13 => match o13 with | Sum.inl y15_c0 => (on (y15_c0) fun y9_c0 => some ((0 : Int), y9_c0)) | Sum.inr e13 => (some e13))
theorem Z15_qall : ∀ n : Nat, Z15_n n = Z15_qn n := by
 intro n
 induction n with
 | zero => exact (by funext a0 a1 a2; first | rfl | (rw [Z15_n, Z15_qn]))
 | succ n ih =>
  funext a0 a1 a2
  refine Eq.trans ?_ (Q.some_bind _)
  rw [Z15_n, Z15_qn]
  try rw [ih]
  refine Q.bindO (Z9_eq _ _) fun x4 => ?_
  refine Q.condO ?_ ?_
  ·all_goals rfl
  refine Q.wrapOO fun Kb13 hKb13 => ?_
  refine Z15_l13_qe  Kb13 ?_ ?_ _ _ _ ⟨Nat.succ_pos _, by omega⟩
  ·intro n13 s20_14 y15_c0
   refine Eq.trans ?_ (hKb13 _).symm
   try dsimp only
   refine Q.wrapPO fun Kj8 hKj8 => ?_
   have hj8 : ∀ (y9_c0 : Coerce_coercer), Z15_j8  y9_c0 = Kj8 y9_c0 := by
    intro y9_c0
    refine Eq.trans ?_ (hKj8 _).symm
    unfold Z15_j8
    all_goals rfl
   all_goals exact hj8 _
  intro e13
  refine Eq.trans ?_ (hKb13 _).symm
  try dsimp only
  all_goals rfl
def Z15_q (a0 : Coerce_coercer) (a1 : TValue) (a2 : Int) : Option (Int × Coerce_coercer) := Z15_qn F0 a0 a1 a2
theorem Z15_eq (a0 : Coerce_coercer) (a1 : TValue) (a2 : Int) : Z15 a0 a1 a2 = Z15_q a0 a1 a2 := by
 unfold Z15 Z15_q; rw [(Z15_qall F0)]
def Z74_q (a0 : (Sl Int)) : Option (Sl Int) := bif a0.nl then (some (Sl.nil : Sl Int)) else ((appC 8 (⟨false, []⟩ : Sl Int) a0).bind fun x7 => some x7)
theorem Z74_eq (a0 : (Sl Int)) : Z74 a0 = Z74_q a0 := by
 unfold Z74 Z74_q
 refine Eq.trans ?_ (Q.some_bind _)
 refine Q.condO ?_ ?_
 ·all_goals rfl
 refine Q.bindO rfl fun x7 => ?_
 all_goals rfl
def Z88_q (a0 : TRef) : Option TRef := on (Z87_q a0) fun x8 => Option.bind (bif x8 then ((partC a0.FWraps (some (1 : Int)) none).bind fun x10 => some x10) else (some a0.FWraps)) fun s3_4 => (Z74_q s3_4).bind fun x6 => some (TRef.mk a0.FName x6)
theorem Z88_eq (a0 : TRef) : Z88 a0 = Z88_q a0 := by
 unfold Z88 Z88_q
 refine Eq.trans ?_ (Q.some_bind _)
 refine Q.bindPO (Z87_eq _) fun x8 hx_x8 => ?_
 refine Q.wrapOO fun Kj3 hKj3 => ?_
 have hj3 : ∀ (s3_4 : (Sl Int)), Z88_j3 a0 s3_4 = Kj3 s3_4 := by
  intro s3_4
  refine Eq.trans ?_ (hKj3 _).symm
  unfold Z88_j3
  refine Q.bindO (Z74_eq _) fun x6 => ?_
  all_goals rfl
 refine Q.condO ?_ ?_
 ·refine Q.bindO rfl fun x10 => ?_
  all_goals exact hj3 _
 all_goals exact hj3 _
def Z86_q (a0 : TRef) : Option Bool := (Z88_q a0).bind fun x3 => on (bif (decide ((0 : Int) < ((x3.FWraps.l.length : Nat) : Int))) then ((x3.FWraps.l)[0]?.getD (0 : Int)) else (0 : Int)) fun x6 => some ((decide ((0 : Int) < ((x3.FWraps.l.length : Nat) : Int))) && (decide (x6 = (2 : Int))))
theorem Z86_eq (a0 : TRef) : Z86 a0 = Z86_q a0 := by
 unfold Z86 Z86_q
 refine Eq.trans ?_ (Q.some_bind _)
 refine Q.bindO (Z88_eq _) fun x3 => ?_
 refine Q.guardTO (fun hc => Q.getD_some (by simp at hc; omega)) fun x6 hx_x6 => ?_
 all_goals rfl
def Z85_q (a0 : TRef) : Option (TRef × Bool) := (Z86_q a0).bind fun x4 => bif (!x4) then (some ((TRef.mk ([] : Bs) (Sl.nil : Sl Int)), false)) else ((Z88_q a0).bind fun x8 => (partC x8.FWraps (some (1 : Int)) none).bind fun x10 => some ((TRef.mk x8.FName x10), true))
theorem Z85_eq (a0 : TRef) : Z85 a0 = Z85_q a0 := by
 unfold Z85 Z85_q
 refine Eq.trans ?_ (Q.some_bind _)
 refine Q.bindO (Z86_eq _) fun x4 => ?_
 refine Q.condO ?_ ?_
 ·all_goals rfl
 refine Q.bindO (Z88_eq _) fun x8 => ?_
 refine Q.bindO rfl fun x10 => ?_
 all_goals rfl
def Z69_q7 (a1 : Bs) : List TInput → Unit ⊕ ((TInput × Bool))
 | [] => Sum.inl ()
 | h7 :: r7 => on (h7) fun x15 => bif ((x15.FName == a1)) then (Sum.inr (x15, true)) else (Z69_q7 a1 (r7) )
theorem Z69_l7_qe {a0 : (Sl TInput)} {a1 : Bs}  (Kb7 : (Unit ⊕ ((TInput × Bool))) → Option (TInput × Bool)) (hend : ∀ (n7 : Nat) (s10_8 : Nat) (y9_l0 : TInput), Z69_j2   y9_l0 = Kb7 (Sum.inl ())) (hret : ∀ e : (TInput × Bool), some e = Kb7 (Sum.inr e)) : ∀ (n7 : Nat) (s10_8 : Nat) (y9_l0 : TInput), (0 < n7 ∧ a0.l.length < s10_8 + n7) → Z69_l7 a0 a1 n7 s10_8 y9_l0 = Kb7 (Z69_q7 a1 (a0.l.drop s10_8) ) := by
 intro n7
 induction n7 with
 | zero => intro s10_8 y9_l0 hn; exact absurd hn.1 (by omega)
 | succ n7 ih7 =>
  intro s10_8 y9_l0 hn
  rw [Z69_l7]
  by_cases hlt : s10_8 < a0.l.length
  ·obtain ⟨h7, hh7⟩ : ∃ x, a0.l[s10_8]? = some x := ⟨_, List.getElem?_eq_getElem hlt⟩
   rw [Q.drop_of hh7, Z69_q7]
   refine Q.condT (Q.ltT hlt) ?_
   refine Q.bindP hh7 fun x15 hx_x15 => ?_
   refine Q.condP ?_ ?_
   ·all_goals exact hret _
   all_goals exact ih7 _ _ ⟨by omega, by omega⟩
  rw [List.drop_of_length_le (by omega), Z69_q7]
  refine Q.condF (Q.ltF hlt) ?_
  exact hend n7 s10_8 y9_l0
def Z69_q (a0 : (Sl TInput)) (a1 : Bs) : (TInput × Bool) := on (Z69_q7 a1 a0.l ) fun o7 => match o7 with | Sum.inl _ => (on (()) fun _ => ((TInput.mk ([] : Bs) TRef.zero false TValue.zero (Sl.nil : Sl TDir)), false)) | Sum.inr e7 => (e7)
theorem Z69_eq (a0 : (Sl TInput)) (a1 : Bs) : Z69 a0 a1 = some (Z69_q a0 a1) := by
 unfold Z69 Z69_q
 refine Q.wrapPP fun Kb7 hKb7 => ?_
 refine Z69_l7_qe  Kb7 ?_ ?_ _ _ _ ⟨Nat.succ_pos _, by omega⟩
 ·intro n7 s10_8 y9_l0
  refine Eq.trans ?_ (hKb7 _).symm
  try dsimp only
  refine Q.wrapPP fun Kj2 hKj2 => ?_
  have hj2 : ∀ (y3_l0 : TInput), Z69_j2  y3_l0 = Kj2 () := by
   intro y3_l0
   refine Eq.trans ?_ (hKj2 _).symm
   unfold Z69_j2
   all_goals rfl
  all_goals exact hj2 _
 intro e7
 refine Eq.trans ?_ (hKb7 _).symm
 try dsimp only
 all_goals rfl
def Z14_q (a0 : TValue) (a1 : Bool) (a2 : Coerce_coercer) : Coerce_coercer := (Coerce_coercer.mk a2.Fd a0 a1 a2.Fnodes)
theorem Z14_eq (a0 : TValue) (a1 : Bool) (a2 : Coerce_coercer) : Z14 a0 a1 a2 = some (Z14_q a0 a1 a2) := by
 unfold Z14 Z14_q
 all_goals rfl
def Z83_q (a0 : Int) : Option Bs := (Z81_q a0).bind fun x3 => some x3
theorem Z83_eq (a0 : Int) : Z83 a0 = Z83_q a0 := by
 unfold Z83 Z83_q
 refine Eq.trans ?_ (Q.some_bind _)
 refine Q.bindO (Z81_eq _) fun x3 => ?_
 all_goals rfl
def Z90_q (a0 : Bs) : TValue := (TValue.mk (3 : Int) (0 : Int) a0 true ([]) (Sl.nil : Sl Bs))
theorem Z90_eq (a0 : Bs) : Z90 a0 = some (Z90_q a0) := by
 unfold Z90 Z90_q
 all_goals rfl
def Z79_q6 (a1 : (TMember → Bool)) : List TMember → Nat → Unit ⊕ Int
 | [], s8_7 => Sum.inl ()
 | h6 :: r6, s8_7 => on (h6) fun x14 => on (a1 x14) fun x15 => bif x15 then (Sum.inr ((s8_7 : Nat) : Int)) else (Z79_q6 a1 (r6) (s8_7 + 1) )
theorem Z79_l6_qe {a0 : (Sl TMember)} {a1 : (TMember → Bool)}  (Kb6 : (Unit ⊕ Int) → Option Int) (hend : ∀ (n6 : Nat) (s8_7 : Nat), Z79_j2    = Kb6 (Sum.inl ())) (hret : ∀ e : Int, some e = Kb6 (Sum.inr e)) : ∀ (n6 : Nat) (s8_7 : Nat), (0 < n6 ∧ a0.l.length < s8_7 + n6) → Z79_l6 a0 (fun y0 => some (a1 y0)) n6 s8_7 = Kb6 (Z79_q6 a1 (a0.l.drop s8_7) s8_7 ) := by
 intro n6
 induction n6 with
 | zero => intro s8_7 hn; exact absurd hn.1 (by omega)
 | succ n6 ih6 =>
  intro s8_7 hn
  rw [Z79_l6]
  by_cases hlt : s8_7 < a0.l.length
  ·obtain ⟨h6, hh6⟩ : ∃ x, a0.l[s8_7]? = some x := ⟨_, List.getElem?_eq_getElem hlt⟩
   rw [Q.drop_of hh6, Z79_q6]
   refine Q.condT (Q.ltT hlt) ?_
   refine Q.bindP hh6 fun x14 hx_x14 => ?_
   refine Q.bindP rfl fun x15 hx_x15 => ?_
   refine Q.condP ?_ ?_
   ·all_goals exact hret _
   all_goals exact ih6 _ ⟨by omega, by omega⟩
  rw [List.drop_of_length_le (by omega), Z79_q6]
  refine Q.condF (Q.ltF hlt) ?_
  exact hend n6 s8_7
def Z79_q (a0 : (Sl TMember)) (a1 : (TMember → Bool)) : Int := on (Z79_q6 a1 a0.l 0 ) fun o6 => match o6 with | Sum.inl _ => (on (()) fun _ => (-1 : Int)) | Sum.inr e6 => (e6)
theorem Z79_eq (a0 : (Sl TMember)) (a1 : (TMember → Bool)) : Z79 a0 (fun y0 => some (a1 y0)) = some (Z79_q a0 a1) := by
 unfold Z79 Z79_q
 refine Q.wrapPP fun Kb6 hKb6 => ?_
 refine Z79_l6_qe  Kb6 ?_ ?_ _ _ ⟨Nat.succ_pos _, by omega⟩
 ·intro n6 s8_7
  refine Eq.trans ?_ (hKb6 _).symm
  try dsimp only
  refine Q.wrapPP fun Kj2 hKj2 => ?_
  have hj2 : Z79_j2   = Kj2 () := by
   refine Eq.trans ?_ (hKj2 _).symm
   unfold Z79_j2
   all_goals rfl
  all_goals exact hj2
 intro e6
 refine Eq.trans ?_ (hKb6 _).symm
 try dsimp only
 all_goals rfl
def Z77_q (a0 : (Sl TMember)) (a1 : (TMember → Bool)) : Bool := on (Z79_q a0 a1) fun x3 => (decide ((0 : Int) ≤ x3))
theorem Z77_eq (a0 : (Sl TMember)) (a1 : (TMember → Bool)) : Z77 a0 (fun y0 => some (a1 y0)) = some (Z77_q a0 a1) := by
 unfold Z77 Z77_q
 refine Q.bindP (Z79_eq _ _) fun x3 hx_x3 => ?_
 all_goals rfl
def Z11_q (a0 : TMember) (a1 : TValue) : Bool := ((a0.FName == a1.FText))
theorem Z11_eq (a0 : TMember) (a1 : TValue) : Z11 a0 a1 = some (Z11_q a0 a1) := by
 unfold Z11 Z11_q
 all_goals rfl
def Z10_q (a0 : Coerce_coercer) (a1 : Bs) (a2 : TValue) : Option (TValue × Int) := on (fun (s8_4 : Bool) (y5_l0 : TValue) => bif (!s8_4) then (some ((TValue.mk (0 : Int) (0 : Int) ([] : Bs) true ([]) (Sl.nil : Sl Bs)), (23 : Int))) else (some (y5_l0, (0 : Int)))) fun kj3 => bif ((a1 == ([73, 110, 116] : Bs))) then (kj3 (((decide (a2.FKind = (2 : Int))) && (decide ((-2147483648 : Int) ≤ a2.FInt))) && (decide (a2.FInt < (2147483648 : Int)))) a2) else (bif ((a1 == ([83, 116, 114, 105, 110, 103] : Bs))) then (kj3 (decide (a2.FKind = (3 : Int))) a2) else (bif ((a1 == ([66, 111, 111, 108, 101, 97, 110] : Bs))) then (kj3 (decide (a2.FKind = (1 : Int))) a2) else (bif ((a1 == ([73, 68] : Bs))) then (Option.bind (bif (decide (a2.FKind = (2 : Int))) then ((Z83_q a2.FInt).bind fun x24 => on (Z90_q x24) fun x25 => some x25) else (some a2)) fun y21_l0 => kj3 (decide (y21_l0.FKind = (3 : Int))) y21_l0) else (on (bif ((decide (a2.FKind = (3 : Int))) && (!a0.Fliteral)) then ((TValue.mk (4 : Int) a2.FInt a2.FText a2.FItems.nl a2.FItems.l a2.FKeys)) else (a2)) fun y27_l0 => on (Z68_q a0.Fd a1) fun x29 => on (bif (decide (y27_l0.FKind = (4 : Int))) then Z77_q x29.1.FMembers (fun y0 => Z11_q y0 y27_l0) else false) fun x30 => bif (!((decide (y27_l0.FKind = (4 : Int))) && x30)) then (some ((TValue.mk (0 : Int) (0 : Int) ([] : Bs) true ([]) (Sl.nil : Sl Bs)), (23 : Int))) else (some (y27_l0, (0 : Int)))))))
theorem Z10_eq (a0 : Coerce_coercer) (a1 : Bs) (a2 : TValue) : Z10 a0 a1 a2 = Z10_q a0 a1 a2 := by
 unfold Z10 Z10_q
 refine Eq.trans ?_ (Q.some_bind _)
 refine Q.mixO fun kj3 hkj3 => ?_
 have hj3 : ∀ (s8_4 : Bool) (y5_l0 : TValue), Z10_j3  s8_4 y5_l0 = Option.bind (kj3 s8_4 y5_l0) some := by
  intro s8_4 y5_l0
  unfold Z10_j3
  rw [hkj3]
  try dsimp only
  refine Q.condO ?_ ?_
  ·all_goals rfl
  all_goals rfl
 refine Q.condO ?_ ?_
 ·all_goals exact hj3 _ _
 refine Q.condO ?_ ?_
 ·all_goals exact hj3 _ _
 refine Q.condO ?_ ?_
 ·all_goals exact hj3 _ _
 refine Q.condO ?_ ?_
 ·refine Q.wrapOO fun Kj20 hKj20 => ?_
  have hj20 : ∀ (y21_l0 : TValue), Z10_j20  y21_l0 = Kj20 y21_l0 := by
   intro y21_l0
   refine Eq.trans ?_ (hKj20 _).symm
   unfold Z10_j20
   all_goals exact hj3 _ _
  refine Q.condO ?_ ?_
  ·refine Q.bindO (Z83_eq _) fun x24 => ?_
   refine Q.bindPO (Z90_eq _) fun x25 hx_x25 => ?_
   all_goals exact hj20 _
  all_goals exact hj20 _
 refine Q.wrapPO fun Kj26 hKj26 => ?_
 have hj26 : ∀ (y27_l0 : TValue), Z10_j26 a0 a1 y27_l0 = Kj26 y27_l0 := by
  intro y27_l0
  refine Eq.trans ?_ (hKj26 _).symm
  unfold Z10_j26
  refine Q.bindPO (Z68_eq _ _) fun x29 hx_x29 => ?_
  refine Q.guardPO (by simp only [Z11_eq, Z77_eq]) fun x30 hx_x30 => ?_
  refine Q.condO ?_ ?_
  ·all_goals rfl
  all_goals rfl
 refine Q.condP ?_ ?_
 ·all_goals exact hj26 _
 all_goals exact hj26 _
def coerce_coercer_list_q14 (a1 : TRef) (a3 : Int) (k_rec_32 : Coerce_coercer → TRef → TValue → Int → Option (TValue × Int × Coerce_coercer)) : List TValue → Coerce_coercer → TValue → Option (((Coerce_coercer × TValue)) ⊕ ((TValue × Int × Coerce_coercer)))
 | [], y16_c0, y18_l1 => some (Sum.inl (y16_c0, y18_l1))
 | h14 :: r14, y16_c0, y18_l1 => on (h14) fun x24 => (addC a3 (1 : Int)).bind fun x26 => (k_rec_32 y16_c0 a1 x24 x26).bind fun x27 => bif (!decide (x27.2.1 = (0 : Int))) then (some (Sum.inr ((TValue.mk (0 : Int) (0 : Int) ([] : Bs) true ([]) (Sl.nil : Sl Bs)), x27.2.1, x27.2.2))) else ((appC 80 y18_l1.FItems (⟨false, [x27.1]⟩ : Sl TValue)).bind fun x32 => coerce_coercer_list_q14 a1 a3 k_rec_32 (r14) x27.2.2 (TValue.mk y18_l1.FKind y18_l1.FInt y18_l1.FText x32.nl x32.l y18_l1.FKeys))
theorem coerce_coercer_list_l14_qe {a1 : TRef} {a3 : Int} {s10_4 : (Sl TValue)} {k_rec_32 : Coerce_coercer → TRef → TValue → Int → Option (TValue × Int × Coerce_coercer)}  (Kb14 : (((Coerce_coercer × TValue)) ⊕ ((TValue × Int × Coerce_coercer))) → Option (TValue × Int × Coerce_coercer)) (hend : ∀ (n14 : Nat) (s26_15 : Nat) (y16_c0 : Coerce_coercer) (y17_l0 : TValue) (y18_l1 : TValue), coerce_coercer_list_j7   y16_c0 y17_l0 y18_l1 = Kb14 (Sum.inl (y16_c0, y18_l1))) (hret : ∀ e : (TValue × Int × Coerce_coercer), some e = Kb14 (Sum.inr e)) : ∀ (n14 : Nat) (s26_15 : Nat) (y16_c0 : Coerce_coercer) (y17_l0 : TValue) (y18_l1 : TValue), (0 < n14 ∧ s10_4.l.length < s26_15 + n14) → coerce_coercer_list_l14 a1 a3 s10_4 k_rec_32 n14 s26_15 y16_c0 y17_l0 y18_l1 = Option.bind (coerce_coercer_list_q14 a1 a3 k_rec_32 (s10_4.l.drop s26_15) y16_c0 y18_l1) Kb14 := by
 intro n14
 induction n14 with
 | zero => intro s26_15 y16_c0 y17_l0 y18_l1 hn; exact absurd hn.1 (by omega)
 | succ n14 ih14 =>
  intro s26_15 y16_c0 y17_l0 y18_l1 hn
  rw [coerce_coercer_list_l14]
  by_cases hlt : s26_15 < s10_4.l.length
  ·obtain ⟨h14, hh14⟩ : ∃ x, s10_4.l[s26_15]? = some x := ⟨_, List.getElem?_eq_getElem hlt⟩
   rw [Q.drop_of hh14, coerce_coercer_list_q14]
   refine Q.condT (Q.ltT hlt) ?_
   refine Q.bindPO hh14 fun x24 hx_x24 => ?_
   refine Q.bindO rfl fun x26 => ?_
   refine Q.bindO rfl fun x27 => ?_
   refine Q.condO ?_ ?_
   ·all_goals exact hret _
   refine Q.bindO rfl fun x32 => ?_
   all_goals exact ih14 _ _ _ _ ⟨by omega, by omega⟩
  rw [List.drop_of_length_le (by omega), coerce_coercer_list_q14]
  refine Q.condF (Q.ltF hlt) ?_
  exact hend n14 s26_15 y16_c0 y17_l0 y18_l1
def coerce_coercer_object_q66 (a0 : Coerce_coercer) (a1 : TDef) : List Bs → Unit ⊕ ((TValue × Int × Coerce_coercer))
 | [] => Sum.inl ()
 | h66 :: r66 => on (h66) fun x74 => on (Z69_q a1.FInputs x74) fun x76 => bif (!x76.2) then (Sum.inr ((TValue.mk (0 : Int) (0 : Int) ([] : Bs) true ([]) (Sl.nil : Sl Bs)), (22 : Int), a0)) else (coerce_coercer_object_q66 a0 a1 (r66) )
theorem coerce_coercer_object_l66_qe {a0 : Coerce_coercer} {a1 : TDef} {a2 : TValue} {a3 : Int} {k_rec_32 : Coerce_coercer → TRef → TValue → Int → Option (TValue × Int × Coerce_coercer)} {k_rec_91 : Coerce_coercer → TInput → Int → Option (TValue × Int × Coerce_coercer)}  (Kb66 : (Unit ⊕ ((TValue × Int × Coerce_coercer))) → Option (TValue × Int × Coerce_coercer)) (hend : ∀ (n66 : Nat) (s30_67 : Nat) (y68_l0 : TValue), coerce_coercer_object_j6 a0 a1 a2 a3 k_rec_32 k_rec_91 y68_l0 = Kb66 (Sum.inl ())) (hret : ∀ e : (TValue × Int × Coerce_coercer), some e = Kb66 (Sum.inr e)) : ∀ (n66 : Nat) (s30_67 : Nat) (y68_l0 : TValue), (0 < n66 ∧ a2.FKeys.l.length < s30_67 + n66) → coerce_coercer_object_l66 a0 a1 a2 a3 k_rec_32 k_rec_91 n66 s30_67 y68_l0 = Kb66 (coerce_coercer_object_q66 a0 a1 (a2.FKeys.l.drop s30_67) ) := by
 intro n66
 induction n66 with
 | zero => intro s30_67 y68_l0 hn; exact absurd hn.1 (by omega)
 | succ n66 ih66 =>
  intro s30_67 y68_l0 hn
  rw [coerce_coercer_object_l66]
  by_cases hlt : s30_67 < a2.FKeys.l.length
  ·obtain ⟨h66, hh66⟩ : ∃ x, a2.FKeys.l[s30_67]? = some x := ⟨_, List.getElem?_eq_getElem hlt⟩
   rw [Q.drop_of hh66, coerce_coercer_object_q66]
   refine Q.condT (Q.ltT hlt) ?_
   refine Q.bindP hh66 fun x74 hx_x74 => ?_
   refine Q.bindP (Z69_eq _ _) fun x76 hx_x76 => ?_
   refine Q.condP ?_ ?_
   ·all_goals exact hret _
   all_goals exact ih66 _ _ ⟨by omega, by omega⟩
  rw [List.drop_of_length_le (by omega), coerce_coercer_object_q66]
  refine Q.condF (Q.ltF hlt) ?_
  exact hend n66 s30_67 y68_l0
def coerce_coercer_object_q18 (a1 : TDef) (a2 : TValue) (a3 : Int) (k_rec_32 : Coerce_coercer → TRef → TValue → Int → Option (TValue × Int × Coerce_coercer)) (k_rec_91 : Coerce_coercer → TInput → Int → Option (TValue × Int × Coerce_coercer)) : List TInput → Nat → Coerce_coercer → TValue → Option (((Coerce_coercer × TValue)) ⊕ ((TValue × Int × Coerce_coercer)))
 | [], s49_19, y20_c0, y22_l1 => some (Sum.inl (y20_c0, y22_l1))
 | h18 :: r18, s49_19, y20_c0, y22_l1 => on (h18) fun x31 => on ((⟨a1.FInputs.nl, a1.FInputs.l.take s49_19⟩ : Sl TInput)) fun x34 => on (Z69_q x34 x31.FName) fun x35 => on (fun (y27_c0 : Coerce_coercer) (y29_l1 : TValue) => coerce_coercer_object_q18 a1 a2 a3 k_rec_32 k_rec_91 (r18) (s49_19 + 1) y27_c0 y29_l1) fun kj26 => bif x35.2 then (kj26 y20_c0 y22_l1) else ((Z89_q a2 x31.FName).bind fun x39 => guardO (x39.2) (Z12_q y20_c0 x39.1) false fun x53 => on (fun (s22_43 : Int) (y44_c0 : Coerce_coercer) (y45_l2 : TValue) => bif (!decide (s22_43 = (0 : Int))) then (some (Sum.inr ((TValue.mk (0 : Int) (0 : Int) ([] : Bs) true ([]) (Sl.nil : Sl Bs)), s22_43, y44_c0))) else ((appC 16 y22_l1.FKeys (⟨false, [x31.FName]⟩ : Sl Bs)).bind fun x50 => (appC 80 y22_l1.FItems (⟨false, [y45_l2]⟩ : Sl TValue)).bind fun x51 => kj26 y44_c0 (TValue.mk y22_l1.FKind y22_l1.FInt y22_l1.FText x51.nl x51.l x50))) fun kj42 => bif (x39.2 && (!x53)) then ((addC a3 (1 : Int)).bind fun x55 => (k_rec_32 y20_c0 x31.FType x39.1 x55).bind fun x56 => kj42 x56.2.1 x56.2.2 x56.1) else (bif x31.FHas then ((addC a3 (1 : Int)).bind fun x59 => (k_rec_91 y20_c0 x31 x59).bind fun x60 => kj42 x60.2.1 x60.2.2 x60.1) else (on (Z87_q x31.FType) fun x62 => bif x62 then (kj42 (22 : Int) y20_c0 TValue.zero) else (kj26 y20_c0 y22_l1))))
theorem coerce_coercer_object_l18_qe {a1 : TDef} {a2 : TValue} {a3 : Int} {k_rec_32 : Coerce_coercer → TRef → TValue → Int → Option (TValue × Int × Coerce_coercer)} {k_rec_91 : Coerce_coercer → TInput → Int → Option (TValue × Int × Coerce_coercer)}  (Kb18 : (((Coerce_coercer × TValue)) ⊕ ((TValue × Int × Coerce_coercer))) → Option (TValue × Int × Coerce_coercer)) (hend : ∀ (n18 : Nat) (s49_19 : Nat) (y20_c0 : Coerce_coercer) (y21_l0 : TValue) (y22_l1 : TValue), coerce_coercer_object_j11   y20_c0 y21_l0 y22_l1 = Kb18 (Sum.inl (y20_c0, y22_l1))) (hret : ∀ e : (TValue × Int × Coerce_coercer), some e = Kb18 (Sum.inr e)) : ∀ (n18 : Nat) (s49_19 : Nat) (y20_c0 : Coerce_coercer) (y21_l0 : TValue) (y22_l1 : TValue), (0 < n18 ∧ a1.FInputs.l.length < s49_19 + n18) → coerce_coercer_object_l18 a1 a2 a3 k_rec_32 k_rec_91 n18 s49_19 y20_c0 y21_l0 y22_l1 = Option.bind (coerce_coercer_object_q18 a1 a2 a3 k_rec_32 k_rec_91 (a1.FInputs.l.drop s49_19) s49_19 y20_c0 y22_l1) Kb18 := by
 intro n18
 induction n18 with
 | zero => intro s49_19 y20_c0 y21_l0 y22_l1 hn; exact absurd hn.1 (by omega)
 | succ n18 ih18 =>
  intro s49_19 y20_c0 y21_l0 y22_l1 hn
  rw [coerce_coercer_object_l18]
  by_cases hlt : s49_19 < a1.FInputs.l.length
  ·obtain ⟨h18, hh18⟩ : ∃ x, a1.FInputs.l[s49_19]? = some x := ⟨_, List.getElem?_eq_getElem hlt⟩
   rw [Q.drop_of hh18, coerce_coercer_object_q18]
   refine Q.condT (Q.ltT hlt) ?_
   refine Q.bindPO hh18 fun x31 hx_x31 => ?_
   refine Q.bindPO (Q.partC_take (by omega)) fun x34 hx_x34 => ?_
   refine Q.bindPO (Z69_eq _ _) fun x35 hx_x35 => ?_
   refine Q.mixO fun kj26 hkj26 => ?_
   have hj26 : ∀ (y27_c0 : Coerce_coercer) (y28_l0 : TValue) (y29_l1 : TValue), coerce_coercer_object_j26 s49_19 (coerce_coercer_object_l18 a1 a2 a3 k_rec_32 k_rec_91 n18) y27_c0 y28_l0 y29_l1 = Option.bind (kj26 y27_c0 y29_l1) Kb18 := by
    intro y27_c0 y28_l0 y29_l1
    unfold coerce_coercer_object_j26
    rw [hkj26]
    try dsimp only
    all_goals exact ih18 _ _ _ _ ⟨by omega, by omega⟩
   refine Q.condO ?_ ?_
   ·all_goals exact hj26 _ _ _
   refine Q.bindO (Z89_eq _ _) fun x39 => ?_
   refine Q.guardOO (Z12_eq _ _) fun x53 => ?_
   refine Q.mixO fun kj42 hkj42 => ?_
   have hj42 : ∀ (s22_43 : Int) (y44_c0 : Coerce_coercer) (y45_l2 : TValue), coerce_coercer_object_j42 s49_19 y21_l0 y22_l1 x31 (coerce_coercer_object_l18 a1 a2 a3 k_rec_32 k_rec_91 n18) s22_43 y44_c0 y45_l2 = Option.bind (kj42 s22_43 y44_c0 y45_l2) Kb18 := by
    intro s22_43 y44_c0 y45_l2
    unfold coerce_coercer_object_j42
    rw [hkj42]
    try dsimp only
    refine Q.condO ?_ ?_
    ·all_goals exact hret _
    refine Q.bindO rfl fun x50 => ?_
    refine Q.bindO rfl fun x51 => ?_
    all_goals exact hj26 _ _ _
   refine Q.condO ?_ ?_
   ·refine Q.bindO rfl fun x55 => ?_
    refine Q.bindO rfl fun x56 => ?_
    all_goals exact hj42 _ _ _
   refine Q.condO ?_ ?_
   ·refine Q.bindO rfl fun x59 => ?_
    refine Q.bindO rfl fun x60 => ?_
    all_goals exact hj42 _ _ _
   refine Q.bindPO (Z87_eq _) fun x62 hx_x62 => ?_
   refine Q.condO ?_ ?_
   ·all_goals exact hj42 _ _ _
   all_goals exact hj26 _ _ _
  rw [List.drop_of_length_le (by omega), coerce_coercer_object_q18]
  refine Q.condF (Q.ltF hlt) ?_
  exact hend n18 s49_19 y20_c0 y21_l0 y22_l1
mutual
def coerce_coercer_at_qn : Nat → Coerce_coercer → TRef → TValue → Int → Option (TValue × Int × Coerce_coercer)
 | 0, _, _, _, _ => none
 | n + 1, a0, a1, a2, a3 => on (Z70_q a0.Fd a1.FName) fun x4 => bif (!x4) then (some ((TValue.mk (0 : Int) (0 : Int) ([] : Bs) true ([]) (Sl.nil : Sl Bs)), (10 : Int), a0)) else (on (fun (y8_c0 : Coerce_coercer) (y9_l0 : TValue) => (Z9_q y8_c0 a3).bind fun x13 => bif (!decide (x13.1 = (0 : Int))) then (some ((TValue.mk (0 : Int) (0 : Int) ([] : Bs) true ([]) (Sl.nil : Sl Bs)), x13.1, x13.2)) else (bif (decide (y9_l0.FKind = (0 : Int))) then (on (Z87_q a1) fun x22 => bif x22 then (some ((TValue.mk (0 : Int) (0 : Int) ([] : Bs) true ([]) (Sl.nil : Sl Bs)), (23 : Int), x13.2)) else (some ((TValue.mk (0 : Int) (0 : Int) ([] : Bs) true ([]) (Sl.nil : Sl Bs)), (0 : Int), x13.2))) else ((Z85_q a1).bind fun x28 => bif x28.2 then (((coerce_coercer_list_qn n) x13.2 x28.1 y9_l0 a3).bind fun x32 => some (x32.1, x32.2.1, x32.2.2)) else (on (Z68_q x13.2.Fd a1.FName) fun x35 => on (bif x35.2 then Z72_q a1.FName else false) fun x37 => bif ((x35.2 && (!x37)) && (decide (x35.1.FKind = (5 : Int)))) then (((coerce_coercer_object_qn n) x13.2 x35.1 y9_l0 a3).bind fun x40 => some (x40.1, x40.2.1, x40.2.2)) else ((Z10_q x13.2 a1.FName y9_l0).bind fun x42 => some (x42.1, x42.2, x13.2)))))) fun kj7 => bif ((decide (a2.FKind = (7 : Int))) && a0.Fliteral) then ((Z89_q a0.Fvars a2.FText).bind fun x46 => bif (!decide (x46.1.FKind = (0 : Int))) then ((Z15_q a0 x46.1 a3).bind fun x50 => bif (!decide (x50.1 = (0 : Int))) then (some ((TValue.mk (0 : Int) (0 : Int) ([] : Bs) true ([]) (Sl.nil : Sl Bs)), x50.1, x50.2)) else (some (x46.1, (0 : Int), x50.2))) else (kj7 a0 x46.1)) else (kj7 a0 a2))
def coerce_coercer_list_qn : Nat → Coerce_coercer → TRef → TValue → Int → Option (TValue × Int × Coerce_coercer)
 | 0, _, _, _, _ => none
 | n + 1, a0, a1, a2, a3 => on (bif (!decide (a2.FKind = (5 : Int))) then ((⟨false, [a2]⟩ : Sl TValue)) else (a2.FItems)) fun s10_4 => Option.bind (coerce_coercer_list_q14 a1 a3 (coerce_coercer_at_qn n) s10_4.l a0 (TValue.mk (5 : Int) (0 : Int) ([] : Bs) true ([]) (Sl.nil : Sl Bs))) fun o14 => match o14 with | Sum.inl z14 => (on ((z14.1, z14.2)) fun z7 => some (z7.2, (0 : Int), z7.1)) | Sum.inr e14 => (some e14)
def coerce_coercer_object_qn : Nat → Coerce_coercer → TDef → TValue → Int → Option (TValue × Int × Coerce_coercer)
 | 0, _, _, _, _ => none
 | n + 1, a0, a1, a2, a3 => bif (!decide (a2.FKind = (6 : Int))) then (some ((TValue.mk (0 : Int) (0 : Int) ([] : Bs) true ([]) (Sl.nil : Sl Bs)), (23 : Int), a0)) else (on (coerce_coercer_object_q66 a0 a1 a2.FKeys.l ) fun o66 => match o66 with | Sum.inl _ => (on (()) fun _ => Option.bind (coerce_coercer_object_q18 a1 a2 a3 (coerce_coercer_at_qn n) (Z13_qn n) a1.FInputs.l 0 a0 (TValue.mk (6 : Int) (0 : Int) ([] : Bs) true ([]) (Sl.nil : Sl Bs))) fun o18 => match o18 with | Sum.inl z18 => (on ((z18.1, z18.2)) fun z11 => some (z11.2, (0 : Int), z11.1)) | Sum.inr e18 => (some e18)) | Sum.inr e66 => (some e66))
def Z13_qn : Nat → Coerce_coercer → TInput → Int → Option (TValue × Int × Coerce_coercer)
 | 0, _, _, _ => none
 | n + 1, a0, a1, a2 => ((coerce_coercer_at_qn n) (Coerce_coercer.mk a0.Fd (TValue.mk (0 : Int) (0 : Int) ([] : Bs) true ([]) (Sl.nil : Sl Bs)) true a0.Fnodes) a1.FType a1.FDefault a2).bind fun x5 => on (Z14_q a0.Fvars a0.Fliteral x5.2.2) fun x6 => some (x5.1, x5.2.1, x6)
end
theorem coerce_coercer_at_qall : ∀ n : Nat, coerce_coercer_at_n n = coerce_coercer_at_qn n ∧ coerce_coercer_list_n n = coerce_coercer_list_qn n ∧ coerce_coercer_object_n n = coerce_coercer_object_qn n ∧ Z13_n n = Z13_qn n := by
 intro n
 induction n with
 | zero => exact ⟨(by funext a0 a1 a2 a3; first | rfl | (rw [coerce_coercer_at_n, coerce_coercer_at_qn])), (by funext a0 a1 a2 a3; first | rfl | (rw [coerce_coercer_list_n, coerce_coercer_list_qn])), (by funext a0 a1 a2 a3; first | rfl | (rw [coerce_coercer_object_n, coerce_coercer_object_qn])), (by funext a0 a1 a2; first | rfl | (rw [Z13_n, Z13_qn]))⟩
 | succ n ih =>
  refine ⟨?_, ?_, ?_, ?_⟩
  ·funext a0 a1 a2 a3
   refine Eq.trans ?_ (Q.some_bind _)
   rw [coerce_coercer_at_n, coerce_coercer_at_qn]
   try rw [ih.1]
   try rw [ih.2.1]
   try rw [ih.2.2.1]
   try rw [ih.2.2.2]
   refine Q.bindPO (Z70_eq _ _) fun x4 hx_x4 => ?_
   refine Q.condO ?_ ?_
   ·all_goals rfl
   refine Q.mixO fun kj7 hkj7 => ?_
   have hj7 : ∀ (y8_c0 : Coerce_coercer) (y9_l0 : TValue) (y10_l1 : TValue), coerce_coercer_at_j7 a1 a3 (coerce_coercer_list_qn n) (coerce_coercer_object_qn n) y8_c0 y9_l0 y10_l1 = Option.bind (kj7 y8_c0 y9_l0) some := by
    intro y8_c0 y9_l0 y10_l1
    unfold coerce_coercer_at_j7
    rw [hkj7]
    try dsimp only
    refine Q.bindO (Z9_eq _ _) fun x13 => ?_
    refine Q.condO ?_ ?_
    ·all_goals rfl
    refine Q.condO ?_ ?_
    ·refine Q.bindPO (Z87_eq _) fun x22 hx_x22 => ?_
     refine Q.condO ?_ ?_
     ·all_goals rfl
     all_goals rfl
    refine Q.bindO (Z85_eq _) fun x28 => ?_
    refine Q.condO ?_ ?_
    ·refine Q.bindO rfl fun x32 => ?_
     all_goals rfl
    refine Q.bindPO (Z68_eq _ _) fun x35 hx_x35 => ?_
    refine Q.guardPO (Z72_eq _) fun x37 hx_x37 => ?_
    refine Q.condO ?_ ?_
    ·refine Q.bindO rfl fun x40 => ?_
     all_goals rfl
    refine Q.bindO (Z10_eq _ _ _) fun x42 => ?_
    all_goals rfl
   refine Q.condO ?_ ?_
   ·refine Q.bindO (Z89_eq _ _) fun x46 => ?_
    refine Q.condO ?_ ?_
    ·refine Q.bindO (Z15_eq _ _ _) fun x50 => ?_
     refine Q.condO ?_ ?_
     ·all_goals rfl
     all_goals rfl
    all_goals exact hj7 _ _ _
   all_goals exact hj7 _ _ _
  ·funext a0 a1 a2 a3
   refine Eq.trans ?_ (Q.some_bind _)
   rw [coerce_coercer_list_n, coerce_coercer_list_qn]
   try rw [ih.1]
   try rw [ih.2.1]
   try rw [ih.2.2.1]
   try rw [ih.2.2.2]
   refine Q.wrapPO fun Kj3 hKj3 => ?_
   have hj3 : ∀ (s10_4 : (Sl TValue)), coerce_coercer_list_j3 a0 a1 a3 (coerce_coercer_at_qn n) s10_4 = Kj3 s10_4 := by
    intro s10_4
    refine Eq.trans ?_ (hKj3 _).symm
    unfold coerce_coercer_list_j3
    refine Q.wrapOO fun Kb14 hKb14 => ?_
    refine coerce_coercer_list_l14_qe  Kb14 ?_ ?_ _ _ _ _ _ ⟨Nat.succ_pos _, by omega⟩
    ·intro n14 s26_15 y16_c0 y17_l0 y18_l1
     refine Eq.trans ?_ (hKb14 _).symm
     try dsimp only
     refine Q.wrapPO fun Kj7 hKj7 => ?_
     have hj7 : ∀ (y8_c0 : Coerce_coercer) (y9_l0 : TValue) (y10_l1 : TValue), coerce_coercer_list_j7  y8_c0 y9_l0 y10_l1 = Kj7 (y8_c0, y10_l1) := by
      intro y8_c0 y9_l0 y10_l1
      refine Eq.trans ?_ (hKj7 _).symm
      try dsimp only
      unfold coerce_coercer_list_j7
      all_goals rfl
     all_goals exact hj7 _ _ _
    intro e14
    refine Eq.trans ?_ (hKb14 _).symm
    try dsimp only
    all_goals rfl
   refine Q.condP ?_ ?_
   ·all_goals exact hj3 _
   all_goals exact hj3 _
  ·funext a0 a1 a2 a3
   refine Eq.trans ?_ (Q.some_bind _)
   rw [coerce_coercer_object_n, coerce_coercer_object_qn]
   try rw [ih.1]
   try rw [ih.2.1]
   try rw [ih.2.2.1]
   try rw [ih.2.2.2]
   refine Q.condO ?_ ?_
   ·all_goals rfl
   refine Q.wrapPO fun Kb66 hKb66 => ?_
   refine coerce_coercer_object_l66_qe  Kb66 ?_ ?_ _ _ _ ⟨Nat.succ_pos _, by omega⟩
   ·intro n66 s30_67 y68_l0
    refine Eq.trans ?_ (hKb66 _).symm
    try dsimp only
    refine Q.wrapPO fun Kj6 hKj6 => ?_
    have hj6 : ∀ (y7_l0 : TValue), coerce_coercer_object_j6 a0 a1 a2 a3 (coerce_coercer_at_qn n) (Z13_qn n) y7_l0 = Kj6 () := by
     intro y7_l0
     refine Eq.trans ?_ (hKj6 _).symm
     unfold coerce_coercer_object_j6
     refine Q.wrapOO fun Kb18 hKb18 => ?_
     refine coerce_coercer_object_l18_qe  Kb18 ?_ ?_ _ _ _ _ _ ⟨Nat.succ_pos _, by omega⟩
     ·intro n18 s49_19 y20_c0 y21_l0 y22_l1
      refine Eq.trans ?_ (hKb18 _).symm
      try dsimp only
      refine Q.wrapPO fun Kj11 hKj11 => ?_
      have hj11 : ∀ (y12_c0 : Coerce_coercer) (y13_l0 : TValue) (y14_l1 : TValue), coerce_coercer_object_j11  y12_c0 y13_l0 y14_l1 = Kj11 (y12_c0, y14_l1) := by
       intro y12_c0 y13_l0 y14_l1
       refine Eq.trans ?_ (hKj11 _).symm
       try dsimp only
       unfold coerce_coercer_object_j11
       all_goals rfl
      all_goals exact hj11 _ _ _
     intro e18
     refine Eq.trans ?_ (hKb18 _).symm
     try dsimp only
     all_goals rfl
    all_goals exact hj6 _
   intro e66
   refine Eq.trans ?_ (hKb66 _).symm
   try dsimp only
   all_goals rfl
  funext a0 a1 a2
  refine Eq.trans ?_ (Q.some_bind _)
  rw [Z13_n, Z13_qn]
  try rw [ih.1]
  try rw [ih.2.1]
  try rw [ih.2.2.1]
  try rw [ih.2.2.2]
  refine Q.bindO rfl fun x5 => ?_
  refine Q.bindPO (Z14_eq _ _ _) fun x6 hx_x6 => ?_
  all_goals rfl
def coerce_coercer_at_q (a0 : Coerce_coercer) (a1 : TRef) (a2 : TValue) (a3 : Int) : Option (TValue × Int × Coerce_coercer) := coerce_coercer_at_qn F0 a0 a1 a2 a3
theorem coerce_coercer_at_eq (a0 : Coerce_coercer) (a1 : TRef) (a2 : TValue) (a3 : Int) : coerce_coercer_at a0 a1 a2 a3 = coerce_coercer_at_q a0 a1 a2 a3 := by
 unfold coerce_coercer_at coerce_coercer_at_q; rw [(coerce_coercer_at_qall F0).1]
def Z4_q (a0 : TDoc) (a1 : TRef) (a2 : TValue) (a3 : TValue) : Option (TValue × Int) := (Z12_q (Coerce_coercer.mk a0 a3 true (0 : Int)) a2).bind fun x6 => bif x6 then (on (Z70_q a0 a1.FName) fun x10 => bif (!x10) then (some ((TValue.mk (0 : Int) (0 : Int) ([] : Bs) true ([]) (Sl.nil : Sl Bs)), (10 : Int))) else (some ((TValue.mk (0 : Int) (0 : Int) ([] : Bs) true ([]) (Sl.nil : Sl Bs)), (8 : Int)))) else ((coerce_coercer_at_q (Coerce_coercer.mk a0 a3 true (0 : Int)) a1 a2 (1 : Int)).bind fun x15 => (Z16_q x15.1 x15.2.1).bind fun x16 => some (x16.1, x16.2))
theorem Z4_eq (a0 : TDoc) (a1 : TRef) (a2 : TValue) (a3 : TValue) : Z4 a0 a1 a2 a3 = Z4_q a0 a1 a2 a3 := by
 unfold Z4 Z4_q
 refine Eq.trans ?_ (Q.some_bind _)
 refine Q.bindO (Z12_eq _ _) fun x6 => ?_
 refine Q.condO ?_ ?_
 ·refine Q.bindPO (Z70_eq _ _) fun x10 hx_x10 => ?_
  refine Q.condO ?_ ?_
  ·all_goals rfl
  all_goals rfl
 refine Q.bindO (coerce_coercer_at_eq _ _ _ _) fun x15 => ?_
 refine Q.bindO (Z16_eq _ _) fun x16 => ?_
 all_goals rfl
end Go.Proofs

namespace Go.Proofs
open Go Go.Ab
def Z33_q23 (a1 : Int) : List Bs → Int → Option (Int)
 | [], s5_24 => some s5_24
 | h23 :: r23, s5_24 => bif (decide (s5_24 ≤ a1)) then ((addC s5_24 (1 : Int)).bind fun x31 => on (h23) fun x32 => (addC x31 ((x32.length : Nat) : Int)).bind fun x34 => Z33_q23 a1 (r23) x34) else (some s5_24)
theorem Z33_l23_qe {a0 : TValue} {a1 : Int} {k_rec_16 : TValue → Int → Option Int}  (Kb23 : (Int) → Option Int) (hend : ∀ (n23 : Nat) (s5_24 : Int) (s6_25 : Nat), Z33_j5 a0 a1 k_rec_16 s5_24 = Kb23 s5_24) : ∀ (n23 : Nat) (s5_24 : Int) (s6_25 : Nat), (0 < n23 ∧ a0.FKeys.l.length < s6_25 + n23) → Z33_l23 a0 a1 k_rec_16 n23 s5_24 s6_25 = Option.bind (Z33_q23 a1 (a0.FKeys.l.drop s6_25) s5_24) Kb23 := by
 intro n23
 induction n23 with
 | zero => intro s5_24 s6_25 hn; exact absurd hn.1 (by omega)
 | succ n23 ih23 =>
  intro s5_24 s6_25 hn
  rw [Z33_l23]
  by_cases hlt : s6_25 < a0.FKeys.l.length
  ·obtain ⟨h23, hh23⟩ : ∃ x, a0.FKeys.l[s6_25]? = some x := ⟨_, List.getElem?_eq_getElem hlt⟩
   rw [Q.drop_of hh23, Z33_q23]
   refine Q.condAT (Q.ltT hlt) ?_
   refine Q.condO ?_ ?_
   ·refine Q.bindO rfl fun x31 => ?_
    refine Q.bindPO hh23 fun x32 hx_x32 => ?_
    refine Q.bindO rfl fun x34 => ?_
    all_goals exact ih23 _ _ ⟨by omega, by omega⟩
   all_goals exact hend n23 s5_24 s6_25
  rw [List.drop_of_length_le (by omega), Z33_q23]
  refine Q.condAF (Q.ltF hlt) ?_
  exact hend n23 s5_24 s6_25
def Z33_q11 (a1 : Int) (k_rec_16 : TValue → Int → Option Int) : List TValue → Int → Option (Int)
 | [], s5_12 => some s5_12
 | h11 :: r11, s5_12 => bif (decide (s5_12 ≤ a1)) then (on (h11) fun x19 => (k_rec_16 x19 a1).bind fun x20 => (addC s5_12 x20).bind fun x21 => Z33_q11 a1 k_rec_16 (r11) x21) else (some s5_12)
theorem Z33_l11_qe {a0 : TValue} {a1 : Int} {k_rec_16 : TValue → Int → Option Int}  (Kb11 : (Int) → Option Int) (hend : ∀ (n11 : Nat) (s5_12 : Int) (s7_13 : Nat), Z33_j7   s5_12 = Kb11 s5_12) : ∀ (n11 : Nat) (s5_12 : Int) (s7_13 : Nat), (0 < n11 ∧ a0.FItems.l.length < s7_13 + n11) → Z33_l11 a0 a1 k_rec_16 n11 s5_12 s7_13 = Option.bind (Z33_q11 a1 k_rec_16 (a0.FItems.l.drop s7_13) s5_12) Kb11 := by
 intro n11
 induction n11 with
 | zero => intro s5_12 s7_13 hn; exact absurd hn.1 (by omega)
 | succ n11 ih11 =>
  intro s5_12 s7_13 hn
  rw [Z33_l11]
  by_cases hlt : s7_13 < a0.FItems.l.length
  ·obtain ⟨h11, hh11⟩ : ∃ x, a0.FItems.l[s7_13]? = some x := ⟨_, List.getElem?_eq_getElem hlt⟩
   rw [Q.drop_of hh11, Z33_q11]
   refine Q.condAT (Q.ltT hlt) ?_
   refine Q.condO ?_ ?_
   ·refine Q.bindPO hh11 fun x19 hx_x19 => ?_
    refine Q.bindO rfl fun x20 => ?_
    refine Q.bindO rfl fun x21 => ?_
    all_goals exact ih11 _ _ ⟨by omega, by omega⟩
   all_goals exact hend n11 s5_12 s7_13
  rw [List.drop_of_length_le (by omega), Z33_q11]
  refine Q.condAF (Q.ltF hlt) ?_
  exact hend n11 s5_12 s7_13
def Z33_qn : Nat → TValue → Int → Option Int
 | 0, _, _ => none
 | n + 1, a0, a1 => (addC (1 : Int) ((a0.FText.length : Nat) : Int)).bind fun x4 => Option.bind (Z33_q23 a1 a0.FKeys.l x4) fun s5_24 => on (s5_24) fun s5_6 => Option.bind (Z33_q11 a1 (Z33_qn n) a0.FItems.l s5_6) fun s5_12 => on (s5_12) fun s5_8 => some s5_8
theorem Z33_qall : ∀ n : Nat, Z33_n n = Z33_qn n := by
 intro n
 induction n with
 | zero => exact (by funext a0 a1; first | rfl | (rw [Z33_n, Z33_qn]))
 | succ n ih =>
  funext a0 a1
  refine Eq.trans ?_ (Q.some_bind _)
  rw [Z33_n, Z33_qn]
  try rw [ih]
  refine Q.bindO rfl fun x4 => ?_
  refine Q.wrapOO fun Kb23 hKb23 => ?_
  refine Z33_l23_qe  Kb23 ?_ _ _ _ ⟨Nat.succ_pos _, by omega⟩
  intro n23 s5_24 s6_25
  refine Eq.trans ?_ (hKb23 _).symm
  refine Q.wrapPO fun Kj5 hKj5 => ?_
  have hj5 : ∀ (s5_6 : Int), Z33_j5 a0 a1 (Z33_qn n) s5_6 = Kj5 s5_6 := by
   intro s5_6
   refine Eq.trans ?_ (hKj5 _).symm
   unfold Z33_j5
   refine Q.wrapOO fun Kb11 hKb11 => ?_
   refine Z33_l11_qe  Kb11 ?_ _ _ _ ⟨Nat.succ_pos _, by omega⟩
   intro n11 s5_12 s7_13
   refine Eq.trans ?_ (hKb11 _).symm
   refine Q.wrapPO fun Kj7 hKj7 => ?_
   have hj7 : ∀ (s5_8 : Int), Z33_j7  s5_8 = Kj7 s5_8 := by
    intro s5_8
    refine Eq.trans ?_ (hKj7 _).symm
    unfold Z33_j7
    all_goals rfl
   all_goals exact hj7 _
  all_goals exact hj5 _
def Z33_q (a0 : TValue) (a1 : Int) : Option Int := Z33_qn F0 a0 a1
theorem Z33_eq (a0 : TValue) (a1 : Int) : Z33 a0 a1 = Z33_q a0 a1 := by
 unfold Z33 Z33_q; rw [(Z33_qall F0)]
def Z49_q19 (a1 : Int) (h7 : TDir) : List TArg → Int → Option (Int)
 | [], s5_20 => some s5_20
 | h19 :: r19, s5_20 => bif (decide (s5_20 ≤ a1)) then ((addC s5_20 (1 : Int)).bind fun x28 => on (h7) fun x29 => on (h19) fun x30 => (Z33_q x30.FValue a1).bind fun x31 => (addC x28 x31).bind fun x32 => Z49_q19 a1 h7 (r19) x32) else (some s5_20)
theorem Z49_l19_qe {a0 : (Sl TDir)} {a1 : Int} {s6_9 : Nat} {k_next_7 : Int → Nat → Option Int} {h7 : TDir} (hh7 : a0.l[s6_9]? = some h7) (Kb19 : (Int) → Option Int) (hend : ∀ (n19 : Nat) (s5_20 : Int) (s7_21 : Nat), Z49_j14 s6_9 k_next_7 s5_20 = Kb19 s5_20) : ∀ (n19 : Nat) (s5_20 : Int) (s7_21 : Nat), (0 < n19 ∧ h7.FArgs.l.length < s7_21 + n19) → Z49_l19 a0 a1 s6_9 k_next_7 n19 s5_20 s7_21 = Option.bind (Z49_q19 a1 h7 (h7.FArgs.l.drop s7_21) s5_20) Kb19 := by
 intro n19
 induction n19 with
 | zero => intro s5_20 s7_21 hn; exact absurd hn.1 (by omega)
 | succ n19 ih19 =>
  intro s5_20 s7_21 hn
  rw [Z49_l19]
  refine Q.preB hh7 fun x24 hx_x24 => ?_
  subst hx_x24
  by_cases hlt : s7_21 < x24.FArgs.l.length
  ·obtain ⟨h19, hh19⟩ : ∃ x, x24.FArgs.l[s7_21]? = some x := ⟨_, List.getElem?_eq_getElem hlt⟩
   rw [Q.drop_of hh19, Z49_q19]
   refine Q.condAT (Q.ltT hlt) ?_
   refine Q.condO ?_ ?_
   ·refine Q.bindO rfl fun x28 => ?_
    refine Q.bindPO hh7 fun x29 hx_x29 => ?_
    refine Q.bindPO (by first | exact hh19 | (simp only [hx_x29]; exact hh19) | (simp only [hx_x29] at hh19 ⊢; exact hh19)) fun x30 hx_x30 => ?_
    refine Q.bindO (Z33_eq _ _) fun x31 => ?_
    refine Q.bindO rfl fun x32 => ?_
    all_goals exact ih19 _ _ ⟨by omega, by omega⟩
   all_goals exact hend n19 s5_20 s7_21
  rw [List.drop_of_length_le (by omega), Z49_q19]
  refine Q.condAF (Q.ltF hlt) ?_
  exact hend n19 s5_20 s7_21
def Z49_q7 (a1 : Int) : List TDir → Int → Option (Int)
 | [], s5_8 => some s5_8
 | h7 :: r7, s5_8 => bif (decide (s5_8 ≤ a1)) then ((addC s5_8 (1 : Int)).bind fun x17 => Option.bind (Z49_q19 a1 h7 h7.FArgs.l x17) fun s5_20 => on (s5_20) fun s5_15 => Z49_q7 a1 (r7) s5_15) else (some s5_8)
theorem Z49_l7_qe {a0 : (Sl TDir)} {a1 : Int}  (Kb7 : (Int) → Option Int) (hend : ∀ (n7 : Nat) (s5_8 : Int) (s6_9 : Nat), Z49_j3   s5_8 = Kb7 s5_8) : ∀ (n7 : Nat) (s5_8 : Int) (s6_9 : Nat), (0 < n7 ∧ a0.l.length < s6_9 + n7) → Z49_l7 a0 a1 n7 s5_8 s6_9 = Option.bind (Z49_q7 a1 (a0.l.drop s6_9) s5_8) Kb7 := by
 intro n7
 induction n7 with
 | zero => intro s5_8 s6_9 hn; exact absurd hn.1 (by omega)
 | succ n7 ih7 =>
  intro s5_8 s6_9 hn
  rw [Z49_l7]
  by_cases hlt : s6_9 < a0.l.length
  ·obtain ⟨h7, hh7⟩ : ∃ x, a0.l[s6_9]? = some x := ⟨_, List.getElem?_eq_getElem hlt⟩
   rw [Q.drop_of hh7, Z49_q7]
   refine Q.condAT (Q.ltT hlt) ?_
   refine Q.condO ?_ ?_
   ·refine Q.bindO rfl fun x17 => ?_
    refine Q.wrapOO fun Kb19 hKb19 => ?_
    refine Z49_l19_qe hh7 Kb19 ?_ _ _ _ ⟨by rw [hh7]; exact Nat.succ_pos _, by rw [hh7]; simp only [Option.elim]; omega⟩
    intro n19 s5_20 s7_21
    refine Eq.trans ?_ (hKb19 _).symm
    refine Q.wrapPO fun Kj14 hKj14 => ?_
    have hj14 : ∀ (s5_15 : Int), Z49_j14 s6_9 (Z49_l7 a0 a1 n7) s5_15 = Kj14 s5_15 := by
     intro s5_15
     refine Eq.trans ?_ (hKj14 _).symm
     unfold Z49_j14
     all_goals exact ih7 _ _ ⟨by omega, by omega⟩
    all_goals exact hj14 _
   all_goals exact hend n7 s5_8 s6_9
  rw [List.drop_of_length_le (by omega), Z49_q7]
  refine Q.condAF (Q.ltF hlt) ?_
  exact hend n7 s5_8 s6_9
def Z49_q (a0 : (Sl TDir)) (a1 : Int) : Option Int := Option.bind (Z49_q7 a1 a0.l (0 : Int)) fun s5_8 => on (s5_8) fun s5_4 => some s5_4
theorem Z49_eq (a0 : (Sl TDir)) (a1 : Int) : Z49 a0 a1 = Z49_q a0 a1 := by
 unfold Z49 Z49_q
 refine Eq.trans ?_ (Q.some_bind _)
 refine Q.wrapOO fun Kb7 hKb7 => ?_
 refine Z49_l7_qe  Kb7 ?_ _ _ _ ⟨Nat.succ_pos _, by omega⟩
 intro n7 s5_8 s6_9
 refine Eq.trans ?_ (hKb7 _).symm
 refine Q.wrapPO fun Kj3 hKj3 => ?_
 have hj3 : ∀ (s5_4 : Int), Z49_j3  s5_4 = Kj3 s5_4 := by
  intro s5_4
  refine Eq.trans ?_ (hKj3 _).symm
  unfold Z49_j3
  all_goals rfl
 all_goals exact hj3 _
def Z50_q7 (a1 : Int) : List TInput → Int → Option (Int)
 | [], s5_8 => some s5_8
 | h7 :: r7, s5_8 => bif (decide (s5_8 ≤ a1)) then ((addC s5_8 (1 : Int)).bind fun x15 => on (h7) fun x16 => (addC x15 ((x16.FType.FWraps.l.length : Nat) : Int)).bind fun x17 => on (h7) fun x18 => (Z33_q x18.FDefault a1).bind fun x19 => (addC x17 x19).bind fun x20 => on (h7) fun x21 => (Z49_q x21.FDirs a1).bind fun x22 => (addC x20 x22).bind fun x23 => Z50_q7 a1 (r7) x23) else (some s5_8)
theorem Z50_l7_qe {a0 : (Sl TInput)} {a1 : Int}  (Kb7 : (Int) → Option Int) (hend : ∀ (n7 : Nat) (s5_8 : Int) (s6_9 : Nat), Z50_j3   s5_8 = Kb7 s5_8) : ∀ (n7 : Nat) (s5_8 : Int) (s6_9 : Nat), (0 < n7 ∧ a0.l.length < s6_9 + n7) → Z50_l7 a0 a1 n7 s5_8 s6_9 = Option.bind (Z50_q7 a1 (a0.l.drop s6_9) s5_8) Kb7 := by
 intro n7
 induction n7 with
 | zero => intro s5_8 s6_9 hn; exact absurd hn.1 (by omega)
 | succ n7 ih7 =>
  intro s5_8 s6_9 hn
  rw [Z50_l7]
  by_cases hlt : s6_9 < a0.l.length
  ·obtain ⟨h7, hh7⟩ : ∃ x, a0.l[s6_9]? = some x := ⟨_, List.getElem?_eq_getElem hlt⟩
   rw [Q.drop_of hh7, Z50_q7]
   refine Q.condAT (Q.ltT hlt) ?_
   refine Q.condO ?_ ?_
   ·refine Q.bindO rfl fun x15 => ?_
    refine Q.bindPO hh7 fun x16 hx_x16 => ?_
    refine Q.bindO rfl fun x17 => ?_
    refine Q.bindPO hh7 fun x18 hx_x18 => ?_
    refine Q.bindO (Z33_eq _ _) fun x19 => ?_
    refine Q.bindO rfl fun x20 => ?_
    refine Q.bindPO hh7 fun x21 hx_x21 => ?_
    refine Q.bindO (Z49_eq _ _) fun x22 => ?_
    refine Q.bindO rfl fun x23 => ?_
    all_goals exact ih7 _ _ ⟨by omega, by omega⟩
   all_goals exact hend n7 s5_8 s6_9
  rw [List.drop_of_length_le (by omega), Z50_q7]
  refine Q.condAF (Q.ltF hlt) ?_
  exact hend n7 s5_8 s6_9
def Z50_q (a0 : (Sl TInput)) (a1 : Int) : Option Int := Option.bind (Z50_q7 a1 a0.l (0 : Int)) fun s5_8 => on (s5_8) fun s5_4 => some s5_4
theorem Z50_eq (a0 : (Sl TInput)) (a1 : Int) : Z50 a0 a1 = Z50_q a0 a1 := by
 unfold Z50 Z50_q
 refine Eq.trans ?_ (Q.some_bind _)
 refine Q.wrapOO fun Kb7 hKb7 => ?_
 refine Z50_l7_qe  Kb7 ?_ _ _ _ ⟨Nat.succ_pos _, by omega⟩
 intro n7 s5_8 s6_9
 refine Eq.trans ?_ (hKb7 _).symm
 refine Q.wrapPO fun Kj3 hKj3 => ?_
 have hj3 : ∀ (s5_4 : Int), Z50_j3  s5_4 = Kj3 s5_4 := by
  intro s5_4
  refine Eq.trans ?_ (hKj3 _).symm
  unfold Z50_j3
  all_goals rfl
 all_goals exact hj3 _
def Z41_q41 (a1 : Int) : List TField → Int → Option (Int)
 | [], s5_42 => some s5_42
 | h41 :: r41, s5_42 => bif (decide (s5_42 ≤ a1)) then ((addC s5_42 (1 : Int)).bind fun x49 => on (h41) fun x50 => (addC x49 ((x50.FType.FWraps.l.length : Nat) : Int)).bind fun x51 => on (h41) fun x52 => (Z50_q x52.FArgs a1).bind fun x53 => (addC x51 x53).bind fun x54 => on (h41) fun x55 => (Z49_q x55.FDirs a1).bind fun x56 => (addC x54 x56).bind fun x57 => Z41_q41 a1 (r41) x57) else (some s5_42)
theorem Z41_l41_qe {a1 : Int} {s6_10 : Nat} {x18 : TDef} {k_next_8 : Int → Nat → Option Int}  (Kb41 : (Int) → Option Int) (hend : ∀ (n41 : Nat) (s5_42 : Int) (s8_43 : Nat), Z41_j25 a1 s6_10 x18 k_next_8 s5_42 = Kb41 s5_42) : ∀ (n41 : Nat) (s5_42 : Int) (s8_43 : Nat), (0 < n41 ∧ x18.FFields.l.length < s8_43 + n41) → Z41_l41 a1 s6_10 x18 k_next_8 n41 s5_42 s8_43 = Option.bind (Z41_q41 a1 (x18.FFields.l.drop s8_43) s5_42) Kb41 := by
 intro n41
 induction n41 with
 | zero => intro s5_42 s8_43 hn; exact absurd hn.1 (by omega)
 | succ n41 ih41 =>
  intro s5_42 s8_43 hn
  rw [Z41_l41]
  by_cases hlt : s8_43 < x18.FFields.l.length
  ·obtain ⟨h41, hh41⟩ : ∃ x, x18.FFields.l[s8_43]? = some x := ⟨_, List.getElem?_eq_getElem hlt⟩
   rw [Q.drop_of hh41, Z41_q41]
   refine Q.condAT (Q.ltT hlt) ?_
   refine Q.condO ?_ ?_
   ·refine Q.bindO rfl fun x49 => ?_
    refine Q.bindPO hh41 fun x50 hx_x50 => ?_
    refine Q.bindO rfl fun x51 => ?_
    refine Q.bindPO hh41 fun x52 hx_x52 => ?_
    refine Q.bindO (Z50_eq _ _) fun x53 => ?_
    refine Q.bindO rfl fun x54 => ?_
    refine Q.bindPO hh41 fun x55 hx_x55 => ?_
    refine Q.bindO (Z49_eq _ _) fun x56 => ?_
    refine Q.bindO rfl fun x57 => ?_
    all_goals exact ih41 _ _ ⟨by omega, by omega⟩
   all_goals exact hend n41 s5_42 s8_43
  rw [List.drop_of_length_le (by omega), Z41_q41]
  refine Q.condAF (Q.ltF hlt) ?_
  exact hend n41 s5_42 s8_43
def Z41_q28 (a1 : Int) : List TMember → Int → Option (Int)
 | [], s5_29 => some s5_29
 | h28 :: r28, s5_29 => bif (decide (s5_29 ≤ a1)) then ((addC s5_29 (1 : Int)).bind fun x36 => on (h28) fun x37 => (Z49_q x37.FDirs a1).bind fun x38 => (addC x36 x38).bind fun x39 => Z41_q28 a1 (r28) x39) else (some s5_29)
theorem Z41_l28_qe {a1 : Int} {s6_10 : Nat} {x18 : TDef} {k_next_8 : Int → Nat → Option Int}  (Kb28 : (Int) → Option Int) (hend : ∀ (n28 : Nat) (s5_29 : Int) (s9_30 : Nat), Z41_j15 s6_10 k_next_8 s5_29 = Kb28 s5_29) : ∀ (n28 : Nat) (s5_29 : Int) (s9_30 : Nat), (0 < n28 ∧ x18.FMembers.l.length < s9_30 + n28) → Z41_l28 a1 s6_10 x18 k_next_8 n28 s5_29 s9_30 = Option.bind (Z41_q28 a1 (x18.FMembers.l.drop s9_30) s5_29) Kb28 := by
 intro n28
 induction n28 with
 | zero => intro s5_29 s9_30 hn; exact absurd hn.1 (by omega)
 | succ n28 ih28 =>
  intro s5_29 s9_30 hn
  rw [Z41_l28]
  by_cases hlt : s9_30 < x18.FMembers.l.length
  ·obtain ⟨h28, hh28⟩ : ∃ x, x18.FMembers.l[s9_30]? = some x := ⟨_, List.getElem?_eq_getElem hlt⟩
   rw [Q.drop_of hh28, Z41_q28]
   refine Q.condAT (Q.ltT hlt) ?_
   refine Q.condO ?_ ?_
   ·refine Q.bindO rfl fun x36 => ?_
    refine Q.bindPO hh28 fun x37 hx_x37 => ?_
    refine Q.bindO (Z49_eq _ _) fun x38 => ?_
    refine Q.bindO rfl fun x39 => ?_
    all_goals exact ih28 _ _ ⟨by omega, by omega⟩
   all_goals exact hend n28 s5_29 s9_30
  rw [List.drop_of_length_le (by omega), Z41_q28]
  refine Q.condAF (Q.ltF hlt) ?_
  exact hend n28 s5_29 s9_30
def Z41_q8 (a1 : Int) : List TDef → Int → Option (Int)
 | [], s5_9 => some s5_9
 | h8 :: r8, s5_9 => bif (decide (s5_9 ≤ a1)) then (on (h8) fun x18 => (addC s5_9 ((x18.FImplements.l.length : Nat) : Int)).bind fun x20 => (Z49_q x18.FDirs a1).bind fun x21 => (addC x20 x21).bind fun x22 => (Z50_q x18.FInputs a1).bind fun x23 => (addC x22 x23).bind fun x24 => Option.bind (Z41_q41 a1 x18.FFields.l x24) fun s5_42 => on (s5_42) fun s5_26 => Option.bind (Z41_q28 a1 x18.FMembers.l s5_26) fun s5_29 => on (s5_29) fun s5_16 => Z41_q8 a1 (r8) s5_16) else (some s5_9)
theorem Z41_l8_qe {a0 : TDoc} {a1 : Int}  (Kb8 : (Int) → Option Int) (hend : ∀ (n8 : Nat) (s5_9 : Int) (s6_10 : Nat), Z41_j4   s5_9 = Kb8 s5_9) : ∀ (n8 : Nat) (s5_9 : Int) (s6_10 : Nat), (0 < n8 ∧ a0.FDefs.l.length < s6_10 + n8) → Z41_l8 a0 a1 n8 s5_9 s6_10 = Option.bind (Z41_q8 a1 (a0.FDefs.l.drop s6_10) s5_9) Kb8 := by
 intro n8
 induction n8 with
 | zero => intro s5_9 s6_10 hn; exact absurd hn.1 (by omega)
 | succ n8 ih8 =>
  intro s5_9 s6_10 hn
  rw [Z41_l8]
  by_cases hlt : s6_10 < a0.FDefs.l.length
  ·obtain ⟨h8, hh8⟩ : ∃ x, a0.FDefs.l[s6_10]? = some x := ⟨_, List.getElem?_eq_getElem hlt⟩
   rw [Q.drop_of hh8, Z41_q8]
   refine Q.condAT (Q.ltT hlt) ?_
   refine Q.condO ?_ ?_
   ·refine Q.bindPO hh8 fun x18 hx_x18 => ?_
    refine Q.bindO rfl fun x20 => ?_
    refine Q.bindO (Z49_eq _ _) fun x21 => ?_
    refine Q.bindO rfl fun x22 => ?_
    refine Q.bindO (Z50_eq _ _) fun x23 => ?_
    refine Q.bindO rfl fun x24 => ?_
    refine Q.wrapOO fun Kb41 hKb41 => ?_
    refine Z41_l41_qe  Kb41 ?_ _ _ _ ⟨Nat.succ_pos _, by omega⟩
    intro n41 s5_42 s8_43
    refine Eq.trans ?_ (hKb41 _).symm
    refine Q.wrapPO fun Kj25 hKj25 => ?_
    have hj25 : ∀ (s5_26 : Int), Z41_j25 a1 s6_10 x18 (Z41_l8 a0 a1 n8) s5_26 = Kj25 s5_26 := by
     intro s5_26
     refine Eq.trans ?_ (hKj25 _).symm
     unfold Z41_j25
     refine Q.wrapOO fun Kb28 hKb28 => ?_
     refine Z41_l28_qe  Kb28 ?_ _ _ _ ⟨Nat.succ_pos _, by omega⟩
     intro n28 s5_29 s9_30
     refine Eq.trans ?_ (hKb28 _).symm
     refine Q.wrapPO fun Kj15 hKj15 => ?_
     have hj15 : ∀ (s5_16 : Int), Z41_j15 s6_10 (Z41_l8 a0 a1 n8) s5_16 = Kj15 s5_16 := by
      intro s5_16
      refine Eq.trans ?_ (hKj15 _).symm
      unfold Z41_j15
      all_goals exact ih8 _ _ ⟨by omega, by omega⟩
     all_goals exact hj15 _
    all_goals exact hj25 _
   all_goals exact hend n8 s5_9 s6_10
  rw [List.drop_of_length_le (by omega), Z41_q8]
  refine Q.condAF (Q.ltF hlt) ?_
  exact hend n8 s5_9 s6_10
def Z41_q (a0 : TDoc) (a1 : Int) : Option Int := Option.bind (Z41_q8 a1 a0.FDefs.l ((a0.FDefs.l.length : Nat) : Int)) fun s5_9 => on (s5_9) fun s5_5 => some s5_5
theorem Z41_eq (a0 : TDoc) (a1 : Int) : Z41 a0 a1 = Z41_q a0 a1 := by
 unfold Z41 Z41_q
 refine Eq.trans ?_ (Q.some_bind _)
 refine Q.wrapOO fun Kb8 hKb8 => ?_
 refine Z41_l8_qe  Kb8 ?_ _ _ _ ⟨Nat.succ_pos _, by omega⟩
 intro n8 s5_9 s6_10
 refine Eq.trans ?_ (hKb8 _).symm
 refine Q.wrapPO fun Kj4 hKj4 => ?_
 have hj4 : ∀ (s5_5 : Int), Z41_j4  s5_5 = Kj4 s5_5 := by
  intro s5_5
  refine Eq.trans ?_ (hKj4 _).symm
  unfold Z41_j4
  all_goals rfl
 all_goals exact hj4 _
def Z24_q (a0 : Int) : Bool := ((((decide ((65 : Int) ≤ a0)) && (decide (a0 ≤ (90 : Int)))) || ((decide ((97 : Int) ≤ a0)) && (decide (a0 ≤ (122 : Int))))) || (decide (a0 = (95 : Int))))
theorem Z24_eq (a0 : Int) : Z24 a0 = some (Z24_q a0) := by
 unfold Z24 Z24_q
 all_goals rfl
def Z22_q (a0 : Int) : Bool := ((decide ((48 : Int) ≤ a0)) && (decide (a0 ≤ (57 : Int))))
theorem Z22_eq (a0 : Int) : Z22 a0 = some (Z22_q a0) := by
 unfold Z22 Z22_q
 all_goals rfl
def Z21_q10  : List UInt8 → Nat → Unit ⊕ Bool
 | [], s3_11 => Sum.inl ()
 | h10 :: r10, s3_11 => on (h10) fun x18 => on (Z24_q ((x18.toNat : Nat) : Int)) fun x19 => on (bif ((!x19) && !(decide (((s3_11 : Nat) : Int) = (0 : Int)))) then h10 else (0 : UInt8)) fun x20 => on (bif ((!x19) && !(decide (((s3_11 : Nat) : Int) = (0 : Int)))) then Z22_q ((x20.toNat : Nat) : Int) else false) fun x21 => bif ((!x19) && ((decide (((s3_11 : Nat) : Int) = (0 : Int))) || (!x21))) then (Sum.inr false) else (Z21_q10  (r10) (s3_11 + 1) )
theorem Z21_l10_qe {a0 : Bs}  (Kb10 : (Unit ⊕ Bool) → Option Bool) (hend : ∀ (n10 : Nat) (s3_11 : Nat), Z21_j7    = Kb10 (Sum.inl ())) (hret : ∀ e : Bool, some e = Kb10 (Sum.inr e)) : ∀ (n10 : Nat) (s3_11 : Nat), (0 < n10 ∧ a0.length < s3_11 + n10) → Z21_l10 a0 n10 s3_11 = Kb10 (Z21_q10  (a0.drop s3_11) s3_11 ) := by
 intro n10
 induction n10 with
 | zero => intro s3_11 hn; exact absurd hn.1 (by omega)
 | succ n10 ih10 =>
  intro s3_11 hn
  rw [Z21_l10]
  by_cases hlt : s3_11 < a0.length
  ·obtain ⟨h10, hh10⟩ : ∃ x, a0[s3_11]? = some x := ⟨_, List.getElem?_eq_getElem hlt⟩
   rw [Q.drop_of hh10, Z21_q10]
   refine Q.condT (Q.ltT hlt) ?_
   refine Q.bindP hh10 fun x18 hx_x18 => ?_
   refine Q.bindP (Z24_eq _) fun x19 hx_x19 => ?_
   refine Q.guardP hh10 fun x20 hx_x20 => ?_
   refine Q.guardP (Z22_eq _) fun x21 hx_x21 => ?_
   refine Q.condP ?_ ?_
   ·all_goals exact hret _
   all_goals exact ih10 _ ⟨by omega, by omega⟩
  rw [List.drop_of_length_le (by omega), Z21_q10]
  refine Q.condF (Q.ltF hlt) ?_
  exact hend n10 s3_11
def Z21_q (a0 : Bs) : Bool := bif ((decide (((a0.length : Nat) : Int) < (1 : Int))) || (decide ((64 : Int) < ((a0.length : Nat) : Int)))) then (false) else (on (Z21_q10  a0 0 ) fun o10 => match o10 with | Sum.inl _ => (on (()) fun _ => true) | Sum.inr e10 => (e10))
theorem Z21_eq (a0 : Bs) : Z21 a0 = some (Z21_q a0) := by
 unfold Z21 Z21_q
 refine Q.condP ?_ ?_
 ·all_goals rfl
 refine Q.wrapPP fun Kb10 hKb10 => ?_
 refine Z21_l10_qe  Kb10 ?_ ?_ _ _ ⟨Nat.succ_pos _, by omega⟩
 ·intro n10 s3_11
  refine Eq.trans ?_ (hKb10 _).symm
  try dsimp only
  refine Q.wrapPP fun Kj7 hKj7 => ?_
  have hj7 : Z21_j7   = Kj7 () := by
   refine Eq.trans ?_ (hKj7 _).symm
   unfold Z21_j7
   all_goals rfl
  all_goals exact hj7
 intro e10
 refine Eq.trans ?_ (hKb10 _).symm
 try dsimp only
 all_goals rfl
def Z28_q7 (k_rec_36 : TValue → Option Int) : List TValue → Int → Option (Int)
 | [], s3_8 => some s3_8
 | h7 :: r7, s3_8 => on (h7) fun x15 => (k_rec_36 x15).bind fun x16 => (addC s3_8 x16).bind fun x17 => Z28_q7 k_rec_36 (r7) x17
theorem Z28_l7_qe {a0 : TValue} {k_rec_36 : TValue → Option Int}  (Kb7 : (Int) → Option Int) (hend : ∀ (n7 : Nat) (s3_8 : Int) (s4_9 : Nat), Z28_j3   s3_8 = Kb7 s3_8) : ∀ (n7 : Nat) (s3_8 : Int) (s4_9 : Nat), (0 < n7 ∧ a0.FItems.l.length < s4_9 + n7) → Z28_l7 a0 k_rec_36 n7 s3_8 s4_9 = Option.bind (Z28_q7 k_rec_36 (a0.FItems.l.drop s4_9) s3_8) Kb7 := by
 intro n7
 induction n7 with
 | zero => intro s3_8 s4_9 hn; exact absurd hn.1 (by omega)
 | succ n7 ih7 =>
  intro s3_8 s4_9 hn
  rw [Z28_l7]
  by_cases hlt : s4_9 < a0.FItems.l.length
  ·obtain ⟨h7, hh7⟩ : ∃ x, a0.FItems.l[s4_9]? = some x := ⟨_, List.getElem?_eq_getElem hlt⟩
   rw [Q.drop_of hh7, Z28_q7]
   refine Q.condT (Q.ltT hlt) ?_
   refine Q.bindPO hh7 fun x15 hx_x15 => ?_
   refine Q.bindO rfl fun x16 => ?_
   refine Q.bindO rfl fun x17 => ?_
   all_goals exact ih7 _ _ ⟨by omega, by omega⟩
  rw [List.drop_of_length_le (by omega), Z28_q7]
  refine Q.condF (Q.ltF hlt) ?_
  exact hend n7 s3_8 s4_9
def Z28_qn : Nat → TValue → Option Int
 | 0, _ => none
 | n + 1, a0 => Option.bind (Z28_q7 (Z28_qn n) a0.FItems.l (1 : Int)) fun s3_8 => on (s3_8) fun s3_4 => some s3_4
theorem Z28_qall : ∀ n : Nat, Z28_n n = Z28_qn n := by
 intro n
 induction n with
 | zero => exact (by funext a0; first | rfl | (rw [Z28_n, Z28_qn]))
 | succ n ih =>
  funext a0
  refine Eq.trans ?_ (Q.some_bind _)
  rw [Z28_n, Z28_qn]
  try rw [ih]
  refine Q.wrapOO fun Kb7 hKb7 => ?_
  refine Z28_l7_qe  Kb7 ?_ _ _ _ ⟨Nat.succ_pos _, by omega⟩
  intro n7 s3_8 s4_9
  refine Eq.trans ?_ (hKb7 _).symm
  refine Q.wrapPO fun Kj3 hKj3 => ?_
  have hj3 : ∀ (s3_4 : Int), Z28_j3  s3_4 = Kj3 s3_4 := by
   intro s3_4
   refine Eq.trans ?_ (hKj3 _).symm
   unfold Z28_j3
   all_goals rfl
  all_goals exact hj3 _
def Z28_q (a0 : TValue) : Option Int := Z28_qn F0 a0
theorem Z28_eq (a0 : TValue) : Z28 a0 = Z28_q a0 := by
 unfold Z28 Z28_q; rw [(Z28_qall F0)]
def Z25_q8 (k_rec_37 : TValue → Option Int) : List TValue → Int → Option (Int)
 | [], s3_9 => some s3_9
 | h8 :: r8, s3_9 => on (h8) fun x16 => (k_rec_37 x16).bind fun x17 => Z25_q8 k_rec_37 (r8) (if x17 > s3_9 then x17 else s3_9)
theorem Z25_l8_qe {a0 : TValue} {k_rec_37 : TValue → Option Int}  (Kb8 : (Int) → Option Int) (hend : ∀ (n8 : Nat) (s3_9 : Int) (s4_10 : Nat), Z25_j3   s3_9 = Kb8 s3_9) : ∀ (n8 : Nat) (s3_9 : Int) (s4_10 : Nat), (0 < n8 ∧ a0.FItems.l.length < s4_10 + n8) → Z25_l8 a0 k_rec_37 n8 s3_9 s4_10 = Option.bind (Z25_q8 k_rec_37 (a0.FItems.l.drop s4_10) s3_9) Kb8 := by
 intro n8
 induction n8 with
 | zero => intro s3_9 s4_10 hn; exact absurd hn.1 (by omega)
 | succ n8 ih8 =>
  intro s3_9 s4_10 hn
  rw [Z25_l8]
  by_cases hlt : s4_10 < a0.FItems.l.length
  ·obtain ⟨h8, hh8⟩ : ∃ x, a0.FItems.l[s4_10]? = some x := ⟨_, List.getElem?_eq_getElem hlt⟩
   rw [Q.drop_of hh8, Z25_q8]
   refine Q.condT (Q.ltT hlt) ?_
   refine Q.bindPO hh8 fun x16 hx_x16 => ?_
   refine Q.bindO rfl fun x17 => ?_
   all_goals exact ih8 _ _ ⟨by omega, by omega⟩
  rw [List.drop_of_length_le (by omega), Z25_q8]
  refine Q.condF (Q.ltF hlt) ?_
  exact hend n8 s3_9 s4_10
def Z25_qn : Nat → TValue → Option Int
 | 0, _ => none
 | n + 1, a0 => Option.bind (Z25_q8 (Z25_qn n) a0.FItems.l (0 : Int)) fun s3_9 => on (s3_9) fun s3_4 => (addC s3_4 (1 : Int)).bind fun x6 => some x6
theorem Z25_qall : ∀ n : Nat, Z25_n n = Z25_qn n := by
 intro n
 induction n with
 | zero => exact (by funext a0; first | rfl | (rw [Z25_n, Z25_qn]))
 | succ n ih =>
  funext a0
  refine Eq.trans ?_ (Q.some_bind _)
  rw [Z25_n, Z25_qn]
  try rw [ih]
  refine Q.wrapOO fun Kb8 hKb8 => ?_
  refine Z25_l8_qe  Kb8 ?_ _ _ _ ⟨Nat.succ_pos _, by omega⟩
  intro n8 s3_9 s4_10
  refine Eq.trans ?_ (hKb8 _).symm
  refine Q.wrapPO fun Kj3 hKj3 => ?_
  have hj3 : ∀ (s3_4 : Int), Z25_j3  s3_4 = Kj3 s3_4 := by
   intro s3_4
   refine Eq.trans ?_ (hKj3 _).symm
   unfold Z25_j3
   refine Q.bindO rfl fun x6 => ?_
   all_goals rfl
  all_goals exact hj3 _
def Z25_q (a0 : TValue) : Option Int := Z25_qn F0 a0
theorem Z25_eq (a0 : TValue) : Z25 a0 = Z25_q a0 := by
 unfold Z25 Z25_q; rw [(Z25_qall F0)]
def Z31_q13 (a0 : (Sl Bs)) (h5 : Bs) : Nat → Nat → Option (Unit ⊕ Bool)
 | 0, s4_14 => some (Sum.inl ())
 | r13 + 1, s4_14 => on (h5) fun x20 => (a0.l[s4_14]?).bind fun x21 => bif ((x20 == x21)) then (some (Sum.inr true)) else (Z31_q13 a0 h5 (r13) (s4_14 + 1) )
theorem Z31_l13_qe {a0 : (Sl Bs)} {s3_6 : Nat} {k_next_5 : Nat → Option Bool} {h5 : Bs} (hh5 : a0.l[s3_6]? = some h5) (Kb13 : (Unit ⊕ Bool) → Option Bool) (hend : ∀ (n13 : Nat) (s4_14 : Nat), Z31_j11 s3_6 k_next_5  = Kb13 (Sum.inl ())) (hret : ∀ e : Bool, some e = Kb13 (Sum.inr e)) : ∀ (n13 : Nat) (s4_14 : Nat), (0 < n13 ∧ s3_6 < s4_14 + n13) → Z31_l13 a0 s3_6 k_next_5 n13 s4_14 = Option.bind (Z31_q13 a0 h5 (s3_6 - s4_14) s4_14 ) Kb13 := by
 intro n13
 induction n13 with
 | zero => intro s4_14 hn; exact absurd hn.1 (by omega)
 | succ n13 ih13 =>
  intro s4_14 hn
  rw [Z31_l13]
  by_cases hlt : s4_14 < s3_6
  ·rw [show s3_6 - s4_14 = (s3_6 - (s4_14 + 1)) + 1 by omega, Z31_q13]
   refine Q.condT (Q.ltT hlt) ?_
   refine Q.bindPO hh5 fun x20 hx_x20 => ?_
   refine Q.bindO rfl fun x21 => ?_
   refine Q.condO ?_ ?_
   ·all_goals exact hret _
   all_goals exact ih13 _ ⟨by omega, by omega⟩
  rw [show s3_6 - s4_14 = 0 by omega, Z31_q13]
  refine Q.condF (Q.ltF hlt) ?_
  exact hend n13 s4_14
def Z31_q5 (a0 : (Sl Bs)) : List Bs → Nat → Option (Unit ⊕ Bool)
 | [], s3_6 => some (Sum.inl ())
 | h5 :: r5, s3_6 => Option.bind (Z31_q13 a0 h5 s3_6 0 ) fun o13 => match o13 with | Sum.inl _ => (on (()) fun _ => Z31_q5 a0 (r5) (s3_6 + 1) ) | Sum.inr e13 => (some (Sum.inr e13))
theorem Z31_l5_qe {a0 : (Sl Bs)}  (Kb5 : (Unit ⊕ Bool) → Option Bool) (hend : ∀ (n5 : Nat) (s3_6 : Nat), Z31_j2    = Kb5 (Sum.inl ())) (hret : ∀ e : Bool, some e = Kb5 (Sum.inr e)) : ∀ (n5 : Nat) (s3_6 : Nat), (0 < n5 ∧ a0.l.length < s3_6 + n5) → Z31_l5 a0 n5 s3_6 = Option.bind (Z31_q5 a0 (a0.l.drop s3_6) s3_6 ) Kb5 := by
 intro n5
 induction n5 with
 | zero => intro s3_6 hn; exact absurd hn.1 (by omega)
 | succ n5 ih5 =>
  intro s3_6 hn
  rw [Z31_l5]
  by_cases hlt : s3_6 < a0.l.length
  ·obtain ⟨h5, hh5⟩ : ∃ x, a0.l[s3_6]? = some x := ⟨_, List.getElem?_eq_getElem hlt⟩
   rw [Q.drop_of hh5, Z31_q5]
   refine Q.condT (Q.ltT hlt) ?_
   refine Q.wrapOO fun Kb13 hKb13 => ?_
   refine Z31_l13_qe hh5 Kb13 ?_ ?_ _ _ ⟨Nat.succ_pos _, by omega⟩
   ·intro n13 s4_14
    refine Eq.trans ?_ (hKb13 _).symm
    try dsimp only
    refine Q.wrapPO fun Kj11 hKj11 => ?_
    have hj11 : Z31_j11 s3_6 (Z31_l5 a0 n5)  = Kj11 () := by
     refine Eq.trans ?_ (hKj11 _).symm
     unfold Z31_j11
     all_goals exact ih5 _ ⟨by omega, by omega⟩
    all_goals exact hj11
   intro e13
   refine Eq.trans ?_ (hKb13 _).symm
   try dsimp only
   all_goals exact hret _
  rw [List.drop_of_length_le (by omega), Z31_q5]
  refine Q.condF (Q.ltF hlt) ?_
  exact hend n5 s3_6
def Z31_q (a0 : (Sl Bs)) : Option Bool := Option.bind (Z31_q5 a0 a0.l 0 ) fun o5 => match o5 with | Sum.inl _ => (on (()) fun _ => some false) | Sum.inr e5 => (some e5)
theorem Z31_eq (a0 : (Sl Bs)) : Z31 a0 = Z31_q a0 := by
 unfold Z31 Z31_q
 refine Eq.trans ?_ (Q.some_bind _)
 refine Q.wrapOO fun Kb5 hKb5 => ?_
 refine Z31_l5_qe  Kb5 ?_ ?_ _ _ ⟨Nat.succ_pos _, by omega⟩
 ·intro n5 s3_6
  refine Eq.trans ?_ (hKb5 _).symm
  try dsimp only
  refine Q.wrapPO fun Kj2 hKj2 => ?_
  have hj2 : Z31_j2   = Kj2 () := by
   refine Eq.trans ?_ (hKj2 _).symm
   unfold Z31_j2
   all_goals rfl
  all_goals exact hj2
 intro e5
 refine Eq.trans ?_ (hKb5 _).symm
 try dsimp only
 all_goals rfl
def Z30_q (a0 : TValue) (a1 : Bool) : Option Bool := bif (decide (a0.FKind = (0 : Int))) then (some ((((decide (a0.FInt = (0 : Int))) && ((a0.FText == ([] : Bs)))) && (decide (((a0.FItems.l.length : Nat) : Int) = (0 : Int)))) && (decide (((a0.FKeys.l.length : Nat) : Int) = (0 : Int))))) else (bif (decide (a0.FKind = (1 : Int))) then (some (((((decide (a0.FInt = (0 : Int))) || (decide (a0.FInt = (1 : Int)))) && ((a0.FText == ([] : Bs)))) && (decide (((a0.FItems.l.length : Nat) : Int) = (0 : Int)))) && (decide (((a0.FKeys.l.length : Nat) : Int) = (0 : Int))))) else (bif (decide (a0.FKind = (2 : Int))) then (some ((((a0.FText == ([] : Bs))) && (decide (((a0.FItems.l.length : Nat) : Int) = (0 : Int)))) && (decide (((a0.FKeys.l.length : Nat) : Int) = (0 : Int))))) else (bif (decide (a0.FKind = (3 : Int))) then (some (((decide (a0.FInt = (0 : Int))) && (decide (((a0.FItems.l.length : Nat) : Int) = (0 : Int)))) && (decide (((a0.FKeys.l.length : Nat) : Int) = (0 : Int))))) else (bif (decide (a0.FKind = (4 : Int))) then (on (bif (((decide (a0.FInt = (0 : Int))) && (decide (((a0.FItems.l.length : Nat) : Int) = (0 : Int)))) && (decide (((a0.FKeys.l.length : Nat) : Int) = (0 : Int)))) then Z21_q a0.FText else false) fun x19 => some (((((((decide (a0.FInt = (0 : Int))) && (decide (((a0.FItems.l.length : Nat) : Int) = (0 : Int)))) && (decide (((a0.FKeys.l.length : Nat) : Int) = (0 : Int)))) && x19) && (!(a0.FText == ([116, 114, 117, 101] : Bs)))) && (!(a0.FText == ([102, 97, 108, 115, 101] : Bs)))) && (!(a0.FText == ([110, 117, 108, 108] : Bs))))) else (bif (decide (a0.FKind = (5 : Int))) then (some (((decide (a0.FInt = (0 : Int))) && ((a0.FText == ([] : Bs)))) && (decide (((a0.FKeys.l.length : Nat) : Int) = (0 : Int))))) else (bif (decide (a0.FKind = (6 : Int))) then (guardO ((((decide (a0.FInt = (0 : Int))) && ((a0.FText == ([] : Bs)))) && (decide (((a0.FKeys.l.length : Nat) : Int) = ((a0.FItems.l.length : Nat) : Int))))) (Z31_q a0.FKeys) false fun x26 => some ((((decide (a0.FInt = (0 : Int))) && ((a0.FText == ([] : Bs)))) && (decide (((a0.FKeys.l.length : Nat) : Int) = ((a0.FItems.l.length : Nat) : Int)))) && (!x26))) else (bif (decide (a0.FKind = (7 : Int))) then (on (bif (((a1 && (decide (a0.FInt = (0 : Int)))) && (decide (((a0.FItems.l.length : Nat) : Int) = (0 : Int)))) && (decide (((a0.FKeys.l.length : Nat) : Int) = (0 : Int)))) then Z21_q a0.FText else false) fun x30 => some ((((a1 && (decide (a0.FInt = (0 : Int)))) && (decide (((a0.FItems.l.length : Nat) : Int) = (0 : Int)))) && (decide (((a0.FKeys.l.length : Nat) : Int) = (0 : Int)))) && x30)) else (some false))))))))
theorem Z30_eq (a0 : TValue) (a1 : Bool) : Z30 a0 a1 = Z30_q a0 a1 := by
 unfold Z30 Z30_q
 refine Eq.trans ?_ (Q.some_bind _)
 refine Q.condO ?_ ?_
 ·all_goals rfl
 refine Q.condO ?_ ?_
 ·all_goals rfl
 refine Q.condO ?_ ?_
 ·all_goals rfl
 refine Q.condO ?_ ?_
 ·all_goals rfl
 refine Q.condO ?_ ?_
 ·refine Q.guardPO (Z21_eq _) fun x19 hx_x19 => ?_
  all_goals rfl
 refine Q.condO ?_ ?_
 ·all_goals rfl
 refine Q.condO ?_ ?_
 ·refine Q.guardOO (Z31_eq _) fun x26 => ?_
  all_goals rfl
 refine Q.condO ?_ ?_
 ·refine Q.guardPO (Z21_eq _) fun x30 hx_x30 => ?_
  all_goals rfl
 all_goals rfl
def Z32_q24 (a1 : Bool) : List Bs → Unit ⊕ Bool
 | [] => Sum.inl ()
 | h24 :: r24 => on (bif a1 then h24 else ([] : Bs)) fun x32 => on (bif a1 then Z21_q x32 else false) fun x33 => bif (a1 && (!x33)) then (Sum.inr false) else (Z32_q24 a1 (r24) )
theorem Z32_l24_qe {a0 : TValue} {a1 : Bool} {k_rec_38 : TValue → Bool → Option Bool}  (Kb24 : (Unit ⊕ Bool) → Option Bool) (hend : ∀ (n24 : Nat) (s5_25 : Nat), Z32_j7 a0 a1 k_rec_38  = Kb24 (Sum.inl ())) (hret : ∀ e : Bool, some e = Kb24 (Sum.inr e)) : ∀ (n24 : Nat) (s5_25 : Nat), (0 < n24 ∧ a0.FKeys.l.length < s5_25 + n24) → Z32_l24 a0 a1 k_rec_38 n24 s5_25 = Kb24 (Z32_q24 a1 (a0.FKeys.l.drop s5_25) ) := by
 intro n24
 induction n24 with
 | zero => intro s5_25 hn; exact absurd hn.1 (by omega)
 | succ n24 ih24 =>
  intro s5_25 hn
  rw [Z32_l24]
  by_cases hlt : s5_25 < a0.FKeys.l.length
  ·obtain ⟨h24, hh24⟩ : ∃ x, a0.FKeys.l[s5_25]? = some x := ⟨_, List.getElem?_eq_getElem hlt⟩
   rw [Q.drop_of hh24, Z32_q24]
   refine Q.condT (Q.ltT hlt) ?_
   refine Q.guardP hh24 fun x32 hx_x32 => ?_
   refine Q.guardP (Z21_eq _) fun x33 hx_x33 => ?_
   refine Q.condP ?_ ?_
   ·all_goals exact hret _
   all_goals exact ih24 _ ⟨by omega, by omega⟩
  rw [List.drop_of_length_le (by omega), Z32_q24]
  refine Q.condF (Q.ltF hlt) ?_
  exact hend n24 s5_25
def Z32_q11 (a1 : Bool) (k_rec_38 : TValue → Bool → Option Bool) : List TValue → Option (Unit ⊕ Bool)
 | [] => some (Sum.inl ())
 | h11 :: r11 => on (h11) fun x19 => (k_rec_38 x19 a1).bind fun x20 => bif (!x20) then (some (Sum.inr false)) else (Z32_q11 a1 k_rec_38 (r11) )
theorem Z32_l11_qe {a0 : TValue} {a1 : Bool} {k_rec_38 : TValue → Bool → Option Bool}  (Kb11 : (Unit ⊕ Bool) → Option Bool) (hend : ∀ (n11 : Nat) (s6_12 : Nat), Z32_j8    = Kb11 (Sum.inl ())) (hret : ∀ e : Bool, some e = Kb11 (Sum.inr e)) : ∀ (n11 : Nat) (s6_12 : Nat), (0 < n11 ∧ a0.FItems.l.length < s6_12 + n11) → Z32_l11 a0 a1 k_rec_38 n11 s6_12 = Option.bind (Z32_q11 a1 k_rec_38 (a0.FItems.l.drop s6_12) ) Kb11 := by
 intro n11
 induction n11 with
 | zero => intro s6_12 hn; exact absurd hn.1 (by omega)
 | succ n11 ih11 =>
  intro s6_12 hn
  rw [Z32_l11]
  by_cases hlt : s6_12 < a0.FItems.l.length
  ·obtain ⟨h11, hh11⟩ : ∃ x, a0.FItems.l[s6_12]? = some x := ⟨_, List.getElem?_eq_getElem hlt⟩
   rw [Q.drop_of hh11, Z32_q11]
   refine Q.condT (Q.ltT hlt) ?_
   refine Q.bindPO hh11 fun x19 hx_x19 => ?_
   refine Q.bindO rfl fun x20 => ?_
   refine Q.condO ?_ ?_
   ·all_goals exact hret _
   all_goals exact ih11 _ ⟨by omega, by omega⟩
  rw [List.drop_of_length_le (by omega), Z32_q11]
  refine Q.condF (Q.ltF hlt) ?_
  exact hend n11 s6_12
def Z32_qn : Nat → TValue → Bool → Option Bool
 | 0, _, _ => none
 | n + 1, a0, a1 => (Z30_q a0 a1).bind fun x4 => bif (!x4) then (some false) else (on (Z32_q24 a1 a0.FKeys.l ) fun o24 => match o24 with | Sum.inl _ => (on (()) fun _ => Option.bind (Z32_q11 a1 (Z32_qn n) a0.FItems.l ) fun o11 => match o11 with | Sum.inl _ => (on (()) fun _ => some true) | Sum.inr e11 => (some e11)) | Sum.inr e24 => (some e24))
theorem Z32_qall : ∀ n : Nat, Z32_n n = Z32_qn n := by
 intro n
 induction n with
 | zero => exact (by funext a0 a1; first | rfl | (rw [Z32_n, Z32_qn]))
 | succ n ih =>
  funext a0 a1
  refine Eq.trans ?_ (Q.some_bind _)
  rw [Z32_n, Z32_qn]
  try rw [ih]
  refine Q.bindO (Z30_eq _ _) fun x4 => ?_
  refine Q.condO ?_ ?_
  ·all_goals rfl
  refine Q.wrapPO fun Kb24 hKb24 => ?_
  refine Z32_l24_qe  Kb24 ?_ ?_ _ _ ⟨Nat.succ_pos _, by omega⟩
  ·intro n24 s5_25
   refine Eq.trans ?_ (hKb24 _).symm
   try dsimp only
   refine Q.wrapPO fun Kj7 hKj7 => ?_
   have hj7 : Z32_j7 a0 a1 (Z32_qn n)  = Kj7 () := by
    refine Eq.trans ?_ (hKj7 _).symm
    unfold Z32_j7
    refine Q.wrapOO fun Kb11 hKb11 => ?_
    refine Z32_l11_qe  Kb11 ?_ ?_ _ _ ⟨Nat.succ_pos _, by omega⟩
    ·intro n11 s6_12
     refine Eq.trans ?_ (hKb11 _).symm
     try dsimp only
     refine Q.wrapPO fun Kj8 hKj8 => ?_
     have hj8 : Z32_j8   = Kj8 () := by
      refine Eq.trans ?_ (hKj8 _).symm
      unfold Z32_j8
      all_goals rfl
     all_goals exact hj8
    intro e11
    refine Eq.trans ?_ (hKb11 _).symm
    try dsimp only
    all_goals rfl
   all_goals exact hj7
  intro e24
  refine Eq.trans ?_ (hKb24 _).symm
  try dsimp only
  all_goals rfl
def Z32_q (a0 : TValue) (a1 : Bool) : Option Bool := Z32_qn F0 a0 a1
theorem Z32_eq (a0 : TValue) (a1 : Bool) : Z32 a0 a1 = Z32_q a0 a1 := by
 unfold Z32 Z32_q; rw [(Z32_qall F0)]
def Z27_q (a0 : TValue) : Option Bool := (Z28_q a0).bind fun x3 => guardO ((decide (x3 ≤ (4096 : Int)))) (Z25_q a0) (0 : Int) fun x4 => guardO (((decide (x3 ≤ (4096 : Int))) && (decide (x4 ≤ (24 : Int))))) (Z32_q a0 true) false fun x5 => some (((decide (x3 ≤ (4096 : Int))) && (decide (x4 ≤ (24 : Int)))) && x5)
theorem Z27_eq (a0 : TValue) : Z27 a0 = Z27_q a0 := by
 unfold Z27 Z27_q
 refine Eq.trans ?_ (Q.some_bind _)
 refine Q.bindO (Z28_eq _) fun x3 => ?_
 refine Q.guardOO (Z25_eq _) fun x4 => ?_
 refine Q.guardOO (Z32_eq _ _) fun x5 => ?_
 all_goals rfl
end Go.Proofs
