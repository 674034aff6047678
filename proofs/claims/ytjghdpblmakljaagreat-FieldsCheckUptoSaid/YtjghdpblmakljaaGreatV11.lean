import Derived.Test.YtjghdpblmakljaaGreatV10
set_option maxRecDepth 100000
set_option maxHeartbeats 2000000
set_option linter.unusedVariables false
set_option linter.unusedSimpArgs false
namespace Go.Proofs
open Go Go.Ab
def Z99_q6 (a1 : (TMember → Bool)) : List TMember → Nat → Unit ⊕ Int
 | [], s8_7 => Sum.inl ()
 | h6 :: r6, s8_7 => on (h6) fun x14 => on (a1 x14) fun x15 => bif x15 then (Sum.inr ((s8_7 : Nat) : Int)) else (Z99_q6 a1 (r6) (s8_7 + 1) )
theorem Z99_l6_qe {a0 : (Sl TMember)} {a1 : (TMember → Bool)}  (Kb6 : (Unit ⊕ Int) → Option Int) (hend : ∀ (n6 : Nat) (s8_7 : Nat), Z99_j2    = Kb6 (Sum.inl ())) (hret : ∀ e : Int, some e = Kb6 (Sum.inr e)) : ∀ (n6 : Nat) (s8_7 : Nat), (0 < n6 ∧ a0.l.length < s8_7 + n6) → Z99_l6 a0 (fun y0 => some (a1 y0)) n6 s8_7 = Kb6 (Z99_q6 a1 (a0.l.drop s8_7) s8_7 ) := by
 intro n6
 induction n6 with
 | zero => intro s8_7 hn; exact absurd hn.1 (by omega)
 | succ n6 ih6 =>
  intro s8_7 hn
  rw [Z99_l6]
  by_cases hlt : s8_7 < a0.l.length
  ·obtain ⟨h6, hh6⟩ : ∃ x, a0.l[s8_7]? = some x := ⟨_, List.getElem?_eq_getElem hlt⟩
   rw [Q.drop_of hh6, Z99_q6]
   refine Q.condT (Q.ltT hlt) ?_
   refine Q.bindP hh6 fun x14 hx_x14 => ?_
   refine Q.bindP rfl fun x15 hx_x15 => ?_
   refine Q.condP ?_ ?_
   ·all_goals exact hret _
   all_goals exact ih6 _ ⟨by omega, by omega⟩
  rw [List.drop_of_length_le (by omega), Z99_q6]
  refine Q.condF (Q.ltF hlt) ?_
  exact hend n6 s8_7
def Z99_q (a0 : (Sl TMember)) (a1 : (TMember → Bool)) : Int := on (Z99_q6 a1 a0.l 0 ) fun o6 => match o6 with | Sum.inl _ => (on (()) fun _ => (-1 : Int)) | Sum.inr e6 => (e6)
theorem Z99_eq (a0 : (Sl TMember)) (a1 : (TMember → Bool)) : Z99 a0 (fun y0 => some (a1 y0)) = some (Z99_q a0 a1) := by
 unfold Z99 Z99_q
 refine Q.wrapPP fun Kb6 hKb6 => ?_
 refine Z99_l6_qe  Kb6 ?_ ?_ _ _ ⟨Nat.succ_pos _, by omega⟩
 ·intro n6 s8_7
  refine Eq.trans ?_ (hKb6 _).symm
  try dsimp only
  refine Q.wrapPP fun Kj2 hKj2 => ?_
  have hj2 : Z99_j2   = Kj2 () := by
   refine Eq.trans ?_ (hKj2 _).symm
   unfold Z99_j2
   all_goals rfl
  all_goals exact hj2
 intro e6
 refine Eq.trans ?_ (hKb6 _).symm
 try dsimp only
 all_goals rfl
def Z94_q (a0 : (Sl TMember)) (a1 : (TMember → Bool)) : Bool := on (Z99_q a0 a1) fun x3 => (decide ((0 : Int) ≤ x3))
theorem Z94_eq (a0 : (Sl TMember)) (a1 : (TMember → Bool)) : Z94 a0 (fun y0 => some (a1 y0)) = some (Z94_q a0 a1) := by
 unfold Z94 Z94_q
 refine Q.bindP (Z99_eq _ _) fun x3 hx_x3 => ?_
 all_goals rfl
def Z90_q (a0 : TDoc) (a1 : Bs) : Int := on (Z84_q a0 a1) fun x3 => x3.1.FKind
theorem Z90_eq (a0 : TDoc) (a1 : Bs) : Z90 a0 a1 = some (Z90_q a0 a1) := by
 unfold Z90 Z90_q
 refine Q.bindP (Z84_eq _ _) fun x3 hx_x3 => ?_
 all_goals rfl
def Z89_q (a0 : Bs) : Bool := (((((a0 == ([73, 110, 116] : Bs))) || ((a0 == ([83, 116, 114, 105, 110, 103] : Bs)))) || ((a0 == ([66, 111, 111, 108, 101, 97, 110] : Bs)))) || ((a0 == ([73, 68] : Bs))))
theorem Z89_eq (a0 : Bs) : Z89 a0 = some (Z89_q a0) := by
 unfold Z89 Z89_q
 all_goals rfl
def Z87_q (a0 : TDoc) (a1 : Bs) : Bool := on (Z89_q a1) fun x3 => on (bif !x3 then Z90_q a0 a1 else (0 : Int)) fun x4 => (x3 || (decide (x4 = (4 : Int))))
theorem Z87_eq (a0 : TDoc) (a1 : Bs) : Z87 a0 a1 = some (Z87_q a0 a1) := by
 unfold Z87 Z87_q
 refine Q.bindP (Z89_eq _) fun x3 hx_x3 => ?_
 refine Q.guardP (Z90_eq _ _) fun x4 hx_x4 => ?_
 all_goals rfl
def Z86_q (a0 : TDoc) (a1 : Bs) : Bool := on (Z87_q a0 a1) fun x3 => on (bif !x3 then Z90_q a0 a1 else (0 : Int)) fun x4 => (x3 || (decide (x4 = (5 : Int))))
theorem Z86_eq (a0 : TDoc) (a1 : Bs) : Z86 a0 a1 = some (Z86_q a0 a1) := by
 unfold Z86 Z86_q
 refine Q.bindP (Z87_eq _ _) fun x3 hx_x3 => ?_
 refine Q.guardP (Z90_eq _ _) fun x4 hx_x4 => ?_
 all_goals rfl
def Z104_q (a0 : TRef) : Option (TRef × Bool) := (Z105_q a0).bind fun x4 => bif (!x4) then (some ((TRef.mk ([] : Bs) (Sl.nil : Sl Int)), false)) else ((Z109_q a0).bind fun x8 => (partC x8.FWraps (some (1 : Int)) none).bind fun x10 => some ((TRef.mk x8.FName x10), true))
theorem Z104_eq (a0 : TRef) : Z104 a0 = Z104_q a0 := by
 unfold Z104 Z104_q
 refine Eq.trans ?_ (Q.some_bind _)
 refine Q.bindO (Z105_eq _) fun x4 => ?_
 refine Q.condO ?_ ?_
 ·all_goals rfl
 refine Q.bindO (Z109_eq _) fun x8 => ?_
 refine Q.bindO rfl fun x10 => ?_
 all_goals rfl
def Z97_q6m (a1 : (TValue → Option Bool)) : List TValue → Nat → Option (Unit ⊕ Int)
 | [], s8_7 => some (Sum.inl ())
 | h6 :: r6, s8_7 => on (h6) fun x14 => (a1 x14).bind fun x15 => bif x15 then (some (Sum.inr ((s8_7 : Nat) : Int))) else (Z97_q6m a1 (r6) (s8_7 + 1) )
theorem Z97_l6_qem {a0 : (Sl TValue)} {a1 : (TValue → Option Bool)}  (Kb6 : (Unit ⊕ Int) → Option Int) (hend : ∀ (n6 : Nat) (s8_7 : Nat), Z97_j2    = Kb6 (Sum.inl ())) (hret : ∀ e : Int, some e = Kb6 (Sum.inr e)) : ∀ (n6 : Nat) (s8_7 : Nat), (0 < n6 ∧ a0.l.length < s8_7 + n6) → Z97_l6 a0 a1 n6 s8_7 = Option.bind (Z97_q6m a1 (a0.l.drop s8_7) s8_7 ) Kb6 := by
 intro n6
 induction n6 with
 | zero => intro s8_7 hn; exact absurd hn.1 (by omega)
 | succ n6 ih6 =>
  intro s8_7 hn
  rw [Z97_l6]
  by_cases hlt : s8_7 < a0.l.length
  ·obtain ⟨h6, hh6⟩ : ∃ x, a0.l[s8_7]? = some x := ⟨_, List.getElem?_eq_getElem hlt⟩
   rw [Q.drop_of hh6, Z97_q6m]
   refine Q.condT (Q.ltT hlt) ?_
   refine Q.bindPO hh6 fun x14 hx_x14 => ?_
   refine Q.bindO rfl fun x15 => ?_
   refine Q.condO ?_ ?_
   ·all_goals exact hret _
   all_goals exact ih6 _ ⟨by omega, by omega⟩
  rw [List.drop_of_length_le (by omega), Z97_q6m]
  refine Q.condF (Q.ltF hlt) ?_
  exact hend n6 s8_7
def Z97_qm (a0 : (Sl TValue)) (a1 : (TValue → Option Bool)) : Option Int := Option.bind (Z97_q6m a1 a0.l 0 ) fun o6 => match o6 with | Sum.inl _ => (on (()) fun _ => some (-1 : Int)) | Sum.inr e6 => (some e6)
theorem Z97_eqm (a0 : (Sl TValue)) (a1 : (TValue → Option Bool)) : Z97 a0 a1 = Z97_qm a0 a1 := by
 unfold Z97 Z97_qm
 refine Eq.trans ?_ (Q.some_bind _)
 refine Q.wrapOO fun Kb6 hKb6 => ?_
 refine Z97_l6_qem  Kb6 ?_ ?_ _ _ ⟨Nat.succ_pos _, by omega⟩
 ·intro n6 s8_7
  refine Eq.trans ?_ (hKb6 _).symm
  try dsimp only
  refine Q.wrapPO fun Kj2 hKj2 => ?_
  have hj2 : Z97_j2   = Kj2 () := by
   refine Eq.trans ?_ (hKj2 _).symm
   unfold Z97_j2
   all_goals rfl
  all_goals exact hj2
 intro e6
 refine Eq.trans ?_ (hKb6 _).symm
 try dsimp only
 all_goals rfl
def Z92_qm (a0 : (Sl TValue)) (a1 : (TValue → Option Bool)) : Option Bool := (Z97_qm a0 a1).bind fun x3 => some (decide ((0 : Int) ≤ x3))
theorem Z92_eqm (a0 : (Sl TValue)) (a1 : (TValue → Option Bool)) : Z92 a0 a1 = Z92_qm a0 a1 := by
 unfold Z92 Z92_qm
 refine Eq.trans ?_ (Q.some_bind _)
 refine Q.bindO (by simp only [Z97_eqm]) fun x3 => ?_
 all_goals rfl
def Z9_q (a0 : TMember) (a1 : TValue) : Bool := ((a0.FName == a1.FText))
theorem Z9_eq (a0 : TMember) (a1 : TValue) : Z9 a0 a1 = some (Z9_q a0 a1) := by
 unfold Z9 Z9_q
 all_goals rfl
def Z100_q6 (a1 : (TInput → Bool)) : List TInput → Nat → Unit ⊕ Int
 | [], s8_7 => Sum.inl ()
 | h6 :: r6, s8_7 => on (h6) fun x14 => on (a1 x14) fun x15 => bif x15 then (Sum.inr ((s8_7 : Nat) : Int)) else (Z100_q6 a1 (r6) (s8_7 + 1) )
theorem Z100_l6_qe {a0 : (Sl TInput)} {a1 : (TInput → Bool)}  (Kb6 : (Unit ⊕ Int) → Option Int) (hend : ∀ (n6 : Nat) (s8_7 : Nat), Z100_j2    = Kb6 (Sum.inl ())) (hret : ∀ e : Int, some e = Kb6 (Sum.inr e)) : ∀ (n6 : Nat) (s8_7 : Nat), (0 < n6 ∧ a0.l.length < s8_7 + n6) → Z100_l6 a0 (fun y0 => some (a1 y0)) n6 s8_7 = Kb6 (Z100_q6 a1 (a0.l.drop s8_7) s8_7 ) := by
 intro n6
 induction n6 with
 | zero => intro s8_7 hn; exact absurd hn.1 (by omega)
 | succ n6 ih6 =>
  intro s8_7 hn
  rw [Z100_l6]
  by_cases hlt : s8_7 < a0.l.length
  ·obtain ⟨h6, hh6⟩ : ∃ x, a0.l[s8_7]? = some x := ⟨_, List.getElem?_eq_getElem hlt⟩
   rw [Q.drop_of hh6, Z100_q6]
   refine Q.condT (Q.ltT hlt) ?_
   refine Q.bindP hh6 fun x14 hx_x14 => ?_
   refine Q.bindP rfl fun x15 hx_x15 => ?_
   refine Q.condP ?_ ?_
   ·all_goals exact hret _
   all_goals exact ih6 _ ⟨by omega, by omega⟩
  rw [List.drop_of_length_le (by omega), Z100_q6]
  refine Q.condF (Q.ltF hlt) ?_
  exact hend n6 s8_7
def Z100_q (a0 : (Sl TInput)) (a1 : (TInput → Bool)) : Int := on (Z100_q6 a1 a0.l 0 ) fun o6 => match o6 with | Sum.inl _ => (on (()) fun _ => (-1 : Int)) | Sum.inr e6 => (e6)
theorem Z100_eq (a0 : (Sl TInput)) (a1 : (TInput → Bool)) : Z100 a0 (fun y0 => some (a1 y0)) = some (Z100_q a0 a1) := by
 unfold Z100 Z100_q
 refine Q.wrapPP fun Kb6 hKb6 => ?_
 refine Z100_l6_qe  Kb6 ?_ ?_ _ _ ⟨Nat.succ_pos _, by omega⟩
 ·intro n6 s8_7
  refine Eq.trans ?_ (hKb6 _).symm
  try dsimp only
  refine Q.wrapPP fun Kj2 hKj2 => ?_
  have hj2 : Z100_j2   = Kj2 () := by
   refine Eq.trans ?_ (hKj2 _).symm
   unfold Z100_j2
   all_goals rfl
  all_goals exact hj2
 intro e6
 refine Eq.trans ?_ (hKb6 _).symm
 try dsimp only
 all_goals rfl
def Z95_q (a0 : (Sl TInput)) (a1 : (TInput → Bool)) : Bool := on (Z100_q a0 a1) fun x3 => (decide ((0 : Int) ≤ x3))
theorem Z95_eq (a0 : (Sl TInput)) (a1 : (TInput → Bool)) : Z95 a0 (fun y0 => some (a1 y0)) = some (Z95_q a0 a1) := by
 unfold Z95 Z95_q
 refine Q.bindP (Z100_eq _ _) fun x3 hx_x3 => ?_
 all_goals rfl
def Z101_q6 (a1 : Bs) : List Bs → Nat → Unit ⊕ Int
 | [], s8_7 => Sum.inl ()
 | h6 :: r6, s8_7 => on (h6) fun x14 => bif ((a1 == x14)) then (Sum.inr ((s8_7 : Nat) : Int)) else (Z101_q6 a1 (r6) (s8_7 + 1) )
theorem Z101_l6_qe {a0 : (Sl Bs)} {a1 : Bs}  (Kb6 : (Unit ⊕ Int) → Option Int) (hend : ∀ (n6 : Nat) (s8_7 : Nat), Z101_j2    = Kb6 (Sum.inl ())) (hret : ∀ e : Int, some e = Kb6 (Sum.inr e)) : ∀ (n6 : Nat) (s8_7 : Nat), (0 < n6 ∧ a0.l.length < s8_7 + n6) → Z101_l6 a0 a1 n6 s8_7 = Kb6 (Z101_q6 a1 (a0.l.drop s8_7) s8_7 ) := by
 intro n6
 induction n6 with
 | zero => intro s8_7 hn; exact absurd hn.1 (by omega)
 | succ n6 ih6 =>
  intro s8_7 hn
  rw [Z101_l6]
  by_cases hlt : s8_7 < a0.l.length
  ·obtain ⟨h6, hh6⟩ : ∃ x, a0.l[s8_7]? = some x := ⟨_, List.getElem?_eq_getElem hlt⟩
   rw [Q.drop_of hh6, Z101_q6]
   refine Q.condT (Q.ltT hlt) ?_
   refine Q.bindP hh6 fun x14 hx_x14 => ?_
   refine Q.condP ?_ ?_
   ·all_goals exact hret _
   all_goals exact ih6 _ ⟨by omega, by omega⟩
  rw [List.drop_of_length_le (by omega), Z101_q6]
  refine Q.condF (Q.ltF hlt) ?_
  exact hend n6 s8_7
def Z101_q (a0 : (Sl Bs)) (a1 : Bs) : Int := on (Z101_q6 a1 a0.l 0 ) fun o6 => match o6 with | Sum.inl _ => (on (()) fun _ => (-1 : Int)) | Sum.inr e6 => (e6)
theorem Z101_eq (a0 : (Sl Bs)) (a1 : Bs) : Z101 a0 a1 = some (Z101_q a0 a1) := by
 unfold Z101 Z101_q
 refine Q.wrapPP fun Kb6 hKb6 => ?_
 refine Z101_l6_qe  Kb6 ?_ ?_ _ _ ⟨Nat.succ_pos _, by omega⟩
 ·intro n6 s8_7
  refine Eq.trans ?_ (hKb6 _).symm
  try dsimp only
  refine Q.wrapPP fun Kj2 hKj2 => ?_
  have hj2 : Z101_j2   = Kj2 () := by
   refine Eq.trans ?_ (hKj2 _).symm
   unfold Z101_j2
   all_goals rfl
  all_goals exact hj2
 intro e6
 refine Eq.trans ?_ (hKb6 _).symm
 try dsimp only
 all_goals rfl
def Z96_q (a0 : (Sl Bs)) (a1 : Bs) : Bool := on (Z101_q a0 a1) fun x3 => (decide ((0 : Int) ≤ x3))
theorem Z96_eq (a0 : (Sl Bs)) (a1 : Bs) : Z96 a0 a1 = some (Z96_q a0 a1) := by
 unfold Z96 Z96_q
 refine Q.bindP (Z101_eq _ _) fun x3 hx_x3 => ?_
 all_goals rfl
def Z13_q (a0 : TInput) (a1 : TValue) : Bool := on (Z106_q a0.FType) fun x3 => on (bif (x3 && (!a0.FHas)) then Z96_q a1.FKeys a0.FName else false) fun x4 => ((x3 && (!a0.FHas)) && (!x4))
theorem Z13_eq (a0 : TInput) (a1 : TValue) : Z13 a0 a1 = some (Z13_q a0 a1) := by
 unfold Z13 Z13_q
 refine Q.bindP (Z106_eq _) fun x3 hx_x3 => ?_
 refine Q.guardP (Z96_eq _ _) fun x4 hx_x4 => ?_
 all_goals rfl
def Z12_q7 (a0 : TDoc) (a1 : TDef) (a2 : TValue) (k_rec_123 : TDoc → TRef → TValue → Option Bool) : List Bs → Nat → Option (Unit ⊕ Bool)
 | [], s14_8 => some (Sum.inl ())
 | h7 :: r7, s14_8 => on (h7) fun x14 => on (Z85_q a1.FInputs x14) fun x16 => guardO (!((!x16.2) || (decide (((a2.FItems.l.length : Nat) : Int) ≤ ((s14_8 : Nat) : Int))))) (a2.FItems.l[s14_8]?) TValue.zero fun x18 => guardO (!((!x16.2) || (decide (((a2.FItems.l.length : Nat) : Int) ≤ ((s14_8 : Nat) : Int))))) (k_rec_123 a0 x16.1.FType x18) false fun x19 => bif (((!x16.2) || (decide (((a2.FItems.l.length : Nat) : Int) ≤ ((s14_8 : Nat) : Int)))) || (!x19)) then (some (Sum.inr false)) else (Z12_q7 a0 a1 a2 k_rec_123 (r7) (s14_8 + 1) )
theorem Z12_l7_qe {a0 : TDoc} {a1 : TDef} {a2 : TValue} {k_rec_123 : TDoc → TRef → TValue → Option Bool}  (Kb7 : (Unit ⊕ Bool) → Option Bool) (hend : ∀ (n7 : Nat) (s14_8 : Nat), Z12_j2 a1 a2   = Kb7 (Sum.inl ())) (hret : ∀ e : Bool, some e = Kb7 (Sum.inr e)) : ∀ (n7 : Nat) (s14_8 : Nat), (0 < n7 ∧ a2.FKeys.l.length < s14_8 + n7) → Z12_l7 a0 a1 a2 k_rec_123 n7 s14_8 = Option.bind (Z12_q7 a0 a1 a2 k_rec_123 (a2.FKeys.l.drop s14_8) s14_8 ) Kb7 := by
 intro n7
 induction n7 with
 | zero => intro s14_8 hn; exact absurd hn.1 (by omega)
 | succ n7 ih7 =>
  intro s14_8 hn
  rw [Z12_l7]
  by_cases hlt : s14_8 < a2.FKeys.l.length
  ·obtain ⟨h7, hh7⟩ : ∃ x, a2.FKeys.l[s14_8]? = some x := ⟨_, List.getElem?_eq_getElem hlt⟩
   rw [Q.drop_of hh7, Z12_q7]
   refine Q.condT (Q.ltT hlt) ?_
   refine Q.bindPO hh7 fun x14 hx_x14 => ?_
   refine Q.bindPO (Z85_eq _ _) fun x16 hx_x16 => ?_
   refine Q.guardOO rfl fun x18 => ?_
   refine Q.guardOO rfl fun x19 => ?_
   refine Q.condO ?_ ?_
   ·all_goals exact hret _
   all_goals exact ih7 _ ⟨by omega, by omega⟩
  rw [List.drop_of_length_le (by omega), Z12_q7]
  refine Q.condF (Q.ltF hlt) ?_
  exact hend n7 s14_8
mutual
def fields_fits_qn : Nat → TDoc → TRef → TValue → Option Bool
 | 0, _, _, _ => none
 | n + 1, a0, a1, a2 => bif (decide (a2.FKind = (7 : Int))) then (some true) else (on (Z86_q a0 a1.FName) fun x7 => bif (!x7) then (some false) else (bif (decide (a2.FKind = (0 : Int))) then (on (Z106_q a1) fun x13 => some (!x13)) else ((Z104_q a1).bind fun x16 => bif x16.2 then (bif (!decide (a2.FKind = (5 : Int))) then (((fields_fits_qn n) a0 x16.1 a2).bind fun x23 => some x23) else ((Z92_qm a2.FItems (fun y0 => (fields_fits_1_qn n) y0 a0 x16.1)).bind fun x25 => some (!x25))) else (bif ((a1.FName == ([73, 110, 116] : Bs))) then (some (((decide (a2.FKind = (2 : Int))) && (decide ((-2147483648 : Int) ≤ a2.FInt))) && (decide (a2.FInt < (2147483648 : Int))))) else (bif ((a1.FName == ([83, 116, 114, 105, 110, 103] : Bs))) then (some (decide (a2.FKind = (3 : Int)))) else (bif ((a1.FName == ([66, 111, 111, 108, 101, 97, 110] : Bs))) then (some (decide (a2.FKind = (1 : Int)))) else (bif ((a1.FName == ([73, 68] : Bs))) then (some ((decide (a2.FKind = (3 : Int))) || (decide (a2.FKind = (2 : Int))))) else (on (Z84_q a0 a1.FName) fun x41 => bif (decide (x41.1.FKind = (4 : Int))) then (on (bif (decide (a2.FKind = (4 : Int))) then Z94_q x41.1.FMembers (fun y0 => Z9_q y0 a2) else false) fun x46 => some ((decide (a2.FKind = (4 : Int))) && x46)) else (guardO ((decide (a2.FKind = (6 : Int)))) ((Z12_qn n) a0 x41.1 a2) false fun x48 => some ((decide (a2.FKind = (6 : Int))) && x48))))))))))
def fields_fits_1_qn : Nat → TValue → TDoc → TRef → Option Bool
 | 0, _, _, _ => none
 | n + 1, a0, a1, a2 => ((fields_fits_qn n) a1 a2 a0).bind fun x3 => some (!x3)
def Z12_qn : Nat → TDoc → TDef → TValue → Option Bool
 | 0, _, _, _ => none
 | n + 1, a0, a1, a2 => Option.bind (Z12_q7 a0 a1 a2 (fields_fits_qn n) a2.FKeys.l 0 ) fun o7 => match o7 with | Sum.inl _ => (on (()) fun _ => on (Z95_q a1.FInputs (fun y0 => Z13_q y0 a2)) fun x4 => some (!x4)) | Sum.inr e7 => (some e7)
end
theorem fields_fits_qall : ∀ n : Nat, fields_fits_n n = fields_fits_qn n ∧ fields_fits_1_n n = fields_fits_1_qn n ∧ Z12_n n = Z12_qn n := by
 intro n
 induction n with
 | zero => exact ⟨(by funext a0 a1 a2; first | rfl | (rw [fields_fits_n, fields_fits_qn])), (by funext a0 a1 a2; first | rfl | (rw [fields_fits_1_n, fields_fits_1_qn])), (by funext a0 a1 a2; first | rfl | (rw [Z12_n, Z12_qn]))⟩
 | succ n ih =>
  refine ⟨?_, ?_, ?_⟩
  ·funext a0 a1 a2
   refine Eq.trans ?_ (Q.some_bind _)
   rw [fields_fits_n, fields_fits_qn]
   try rw [ih.1]
   try rw [ih.2.1]
   try rw [ih.2.2]
   refine Q.condO ?_ ?_
   ·all_goals rfl
   refine Q.bindPO (Z86_eq _ _) fun x7 hx_x7 => ?_
   refine Q.condO ?_ ?_
   ·all_goals rfl
   refine Q.condO ?_ ?_
   ·refine Q.bindPO (Z106_eq _) fun x13 hx_x13 => ?_
    all_goals rfl
   refine Q.bindO (Z104_eq _) fun x16 => ?_
   refine Q.condO ?_ ?_
   ·refine Q.condO ?_ ?_
    ·refine Q.bindO rfl fun x23 => ?_
     all_goals rfl
    refine Q.bindO (by simp only [Z92_eqm]) fun x25 => ?_
    all_goals rfl
   refine Q.condO ?_ ?_
   ·all_goals rfl
   refine Q.condO ?_ ?_
   ·all_goals rfl
   refine Q.condO ?_ ?_
   ·all_goals rfl
   refine Q.condO ?_ ?_
   ·all_goals rfl
   refine Q.bindPO (Z84_eq _ _) fun x41 hx_x41 => ?_
   refine Q.condO ?_ ?_
   ·refine Q.guardPO (by simp only [Z9_eq, Z94_eq]) fun x46 hx_x46 => ?_
    all_goals rfl
   refine Q.guardOO rfl fun x48 => ?_
   all_goals rfl
  ·funext a0 a1 a2
   refine Eq.trans ?_ (Q.some_bind _)
   rw [fields_fits_1_n, fields_fits_1_qn]
   try rw [ih.1]
   try rw [ih.2.1]
   try rw [ih.2.2]
   refine Q.bindO rfl fun x3 => ?_
   all_goals rfl
  funext a0 a1 a2
  refine Eq.trans ?_ (Q.some_bind _)
  rw [Z12_n, Z12_qn]
  try rw [ih.1]
  try rw [ih.2.1]
  try rw [ih.2.2]
  refine Q.wrapOO fun Kb7 hKb7 => ?_
  refine Z12_l7_qe  Kb7 ?_ ?_ _ _ ⟨Nat.succ_pos _, by omega⟩
  ·intro n7 s14_8
   refine Eq.trans ?_ (hKb7 _).symm
   try dsimp only
   refine Q.wrapPO fun Kj2 hKj2 => ?_
   have hj2 : Z12_j2 a1 a2  = Kj2 () := by
    refine Eq.trans ?_ (hKj2 _).symm
    unfold Z12_j2
    refine Q.bindPO (by simp only [Z13_eq, Z95_eq]) fun x4 hx_x4 => ?_
    all_goals rfl
   all_goals exact hj2
  intro e7
  refine Eq.trans ?_ (hKb7 _).symm
  try dsimp only
  all_goals rfl
def fields_fits_q (a0 : TDoc) (a1 : TRef) (a2 : TValue) : Option Bool := fields_fits_qn F0 a0 a1 a2
theorem fields_fits_eq (a0 : TDoc) (a1 : TRef) (a2 : TValue) : fields_fits a0 a1 a2 = fields_fits_q a0 a1 a2 := by
 unfold fields_fits fields_fits_q; rw [(fields_fits_qall F0).1]
def Z7_q3 (a1 : (Sl TInput)) (a2 : (Sl TArg)) (a3 : Bool) (a4 : Bs) : List TArg → Nat → Fields_checker → Option (Fields_checker)
 | [], s20_4, y5_c0 => some y5_c0
 | h3 :: r3, s20_4, y5_c0 => on (h3) fun x12 => on (Z85_q a1 x12.FName) fun x14 => on ((⟨a2.nl, a2.l.take s20_4⟩ : Sl TArg)) fun x16 => on (Z10_q x16 x12.FName) fun x17 => Option.bind (bif ((!x14.2) || x17.2) then ((Z3_q y5_c0 true (22 : Int) a4).bind fun x22 => some x22) else ((fields_fits_q y5_c0.Fd x14.1.FType x12.FValue).bind fun x23 => (Z3_q y5_c0 ((!x23) || (a3 && (((decide (x12.FValue.FKind = (7 : Int))) || ((decide (x12.FValue.FKind = (3 : Int))) && ((x12.FValue.FText == ([] : Bs))))) || ((decide (x12.FValue.FKind = (2 : Int))) && (decide (x12.FValue.FInt < (0 : Int))))))) (23 : Int) a4).bind fun x24 => some x24)) fun y10_c0 => Z7_q3 a1 a2 a3 a4 (r3) (s20_4 + 1) y10_c0
theorem Z7_l3_qe {a1 : (Sl TInput)} {a2 : (Sl TArg)} {a3 : Bool} {a4 : Bs}  (Kb3 : (Fields_checker) → Option Fields_checker) (hend : ∀ (n3 : Nat) (s20_4 : Nat) (y5_c0 : Fields_checker), some y5_c0 = Kb3 y5_c0) : ∀ (n3 : Nat) (s20_4 : Nat) (y5_c0 : Fields_checker), (0 < n3 ∧ a2.l.length < s20_4 + n3) → Z7_l3 a1 a2 a3 a4 n3 s20_4 y5_c0 = Option.bind (Z7_q3 a1 a2 a3 a4 (a2.l.drop s20_4) s20_4 y5_c0) Kb3 := by
 intro n3
 induction n3 with
 | zero => intro s20_4 y5_c0 hn; exact absurd hn.1 (by omega)
 | succ n3 ih3 =>
  intro s20_4 y5_c0 hn
  rw [Z7_l3]
  by_cases hlt : s20_4 < a2.l.length
  ·obtain ⟨h3, hh3⟩ : ∃ x, a2.l[s20_4]? = some x := ⟨_, List.getElem?_eq_getElem hlt⟩
   rw [Q.drop_of hh3, Z7_q3]
   refine Q.condT (Q.ltT hlt) ?_
   refine Q.bindPO hh3 fun x12 hx_x12 => ?_
   refine Q.bindPO (Z85_eq _ _) fun x14 hx_x14 => ?_
   refine Q.bindPO (Q.partC_take (by omega)) fun x16 hx_x16 => ?_
   refine Q.bindPO (Z10_eq _ _) fun x17 hx_x17 => ?_
   refine Q.wrapOO fun Kj9 hKj9 => ?_
   have hj9 : ∀ (y10_c0 : Fields_checker), Z7_j9 s20_4 (Z7_l3 a1 a2 a3 a4 n3) y10_c0 = Kj9 y10_c0 := by
    intro y10_c0
    refine Eq.trans ?_ (hKj9 _).symm
    unfold Z7_j9
    all_goals exact ih3 _ _ ⟨by omega, by omega⟩
   refine Q.condO ?_ ?_
   ·refine Q.bindO (Z3_eq _ _ _ _) fun x22 => ?_
    all_goals exact hj9 _
   refine Q.bindO (fields_fits_eq _ _ _) fun x23 => ?_
   refine Q.bindO (Z3_eq _ _ _ _) fun x24 => ?_
   all_goals exact hj9 _
  rw [List.drop_of_length_le (by omega), Z7_q3]
  refine Q.condF (Q.ltF hlt) ?_
  exact hend n3 s20_4 y5_c0
def Z7_q (a0 : Fields_checker) (a1 : (Sl TInput)) (a2 : (Sl TArg)) (a3 : Bool) (a4 : Bs) : Option Fields_checker := Option.bind (Z7_q3 a1 a2 a3 a4 a2.l 0 a0) fun y5_c0 => some y5_c0
theorem Z7_eq (a0 : Fields_checker) (a1 : (Sl TInput)) (a2 : (Sl TArg)) (a3 : Bool) (a4 : Bs) : Z7 a0 a1 a2 a3 a4 = Z7_q a0 a1 a2 a3 a4 := by
 unfold Z7 Z7_q
 refine Eq.trans ?_ (Q.some_bind _)
 refine Q.wrapOO fun Kb3 hKb3 => ?_
 refine Z7_l3_qe  Kb3 ?_ _ _ _ ⟨Nat.succ_pos _, by omega⟩
 intro n3 s20_4 y5_c0
 refine Eq.trans ?_ (hKb3 _).symm
 all_goals rfl
def Z4_q30 (a4 : Bs) (x13 : TDir) : List TInput → Fields_checker → Option (Fields_checker)
 | [], y32_c0 => some y32_c0
 | h30 :: r30, y32_c0 => on (h30) fun x38 => on (Z10_q x13.FArgs x38.FName) fun x40 => (Z3_q y32_c0 (!x40.2) (22 : Int) a4).bind fun x41 => Z4_q30 a4 x13 (r30) x41
theorem Z4_l30_qe {a4 : Bs} {s21_5 : Nat} {x13 : TDir} {s13_18 : (Sl TInput)} {k_next_4 : Nat → Fields_checker → Option Fields_checker}  (Kb30 : (Fields_checker) → Option Fields_checker) (hend : ∀ (n30 : Nat) (s78_31 : Nat) (y32_c0 : Fields_checker), Z4_j10 s21_5 k_next_4 y32_c0 = Kb30 y32_c0) : ∀ (n30 : Nat) (s78_31 : Nat) (y32_c0 : Fields_checker), (0 < n30 ∧ s13_18.l.length < s78_31 + n30) → Z4_l30 a4 s21_5 x13 s13_18 k_next_4 n30 s78_31 y32_c0 = Option.bind (Z4_q30 a4 x13 (s13_18.l.drop s78_31) y32_c0) Kb30 := by
 intro n30
 induction n30 with
 | zero => intro s78_31 y32_c0 hn; exact absurd hn.1 (by omega)
 | succ n30 ih30 =>
  intro s78_31 y32_c0 hn
  rw [Z4_l30]
  by_cases hlt : s78_31 < s13_18.l.length
  ·obtain ⟨h30, hh30⟩ : ∃ x, s13_18.l[s78_31]? = some x := ⟨_, List.getElem?_eq_getElem hlt⟩
   rw [Q.drop_of hh30, Z4_q30]
   refine Q.condT (Q.ltT hlt) ?_
   refine Q.bindPO hh30 fun x38 hx_x38 => ?_
   refine Q.bindPO (Z10_eq _ _) fun x40 hx_x40 => ?_
   refine Q.bindO (Z3_eq _ _ _ _) fun x41 => ?_
   all_goals exact ih30 _ _ ⟨by omega, by omega⟩
  rw [List.drop_of_length_le (by omega), Z4_q30]
  refine Q.condF (Q.ltF hlt) ?_
  exact hend n30 s78_31 y32_c0
def Z4_q4 (a1 : TSel) (a2 : TRef) (a3 : Bool) (a4 : Bs) : List TDir → Nat → Fields_checker → Option (Fields_checker)
 | [], s21_5, y6_c0 => some y6_c0
 | h4 :: r4, s21_5, y6_c0 => on (h4) fun x13 => (Z2_q x13.FName ((!decide (a1.FKind = (2 : Int))) && (!decide (a1.FKind = (3 : Int))))).bind fun x16 => guardO ((((x13.FName == ([115, 116, 114, 101, 97, 109] : Bs))) && a3)) (Z105_q a2) false fun x43 => on (bif ((((x13.FName == ([115, 116, 114, 101, 97, 109] : Bs))) && a3) && (!x43)) then ((Sl.nil : Sl TInput)) else (x16)) fun s13_18 => on (bif !s13_18.nl then (⟨a1.FDirs.nl, a1.FDirs.l.take s21_5⟩ : Sl TDir) else (Sl.nil : Sl TDir)) fun x21 => on (bif !s13_18.nl then Z93_q x21 (fun y0 => Z5_q y0 x13) else false) fun x22 => Option.bind (bif (s13_18.nl || x22) then ((Z3_q y6_c0 true (29 : Int) a4).bind fun x25 => some x25) else ((Z7_q y6_c0 s13_18 x13.FArgs (((x13.FName == ([100, 101, 102, 101, 114] : Bs))) || ((x13.FName == ([115, 116, 114, 101, 97, 109] : Bs)))) a4).bind fun x27 => Option.bind (Z4_q30 a4 x13 s13_18.l x27) fun y32_c0 => some y32_c0)) fun y11_c0 => Z4_q4 a1 a2 a3 a4 (r4) (s21_5 + 1) y11_c0
theorem Z4_l4_qe {a1 : TSel} {a2 : TRef} {a3 : Bool} {a4 : Bs}  (Kb4 : (Fields_checker) → Option Fields_checker) (hend : ∀ (n4 : Nat) (s21_5 : Nat) (y6_c0 : Fields_checker), some y6_c0 = Kb4 y6_c0) : ∀ (n4 : Nat) (s21_5 : Nat) (y6_c0 : Fields_checker), (0 < n4 ∧ a1.FDirs.l.length < s21_5 + n4) → Z4_l4 a1 a2 a3 a4 n4 s21_5 y6_c0 = Option.bind (Z4_q4 a1 a2 a3 a4 (a1.FDirs.l.drop s21_5) s21_5 y6_c0) Kb4 := by
 intro n4
 induction n4 with
 | zero => intro s21_5 y6_c0 hn; exact absurd hn.1 (by omega)
 | succ n4 ih4 =>
  intro s21_5 y6_c0 hn
  rw [Z4_l4]
  by_cases hlt : s21_5 < a1.FDirs.l.length
  ·obtain ⟨h4, hh4⟩ : ∃ x, a1.FDirs.l[s21_5]? = some x := ⟨_, List.getElem?_eq_getElem hlt⟩
   rw [Q.drop_of hh4, Z4_q4]
   refine Q.condT (Q.ltT hlt) ?_
   refine Q.bindPO hh4 fun x13 hx_x13 => ?_
   refine Q.bindO (Z2_eq _ _) fun x16 => ?_
   refine Q.guardOO (Z105_eq _) fun x43 => ?_
   refine Q.wrapPO fun Kj17 hKj17 => ?_
   have hj17 : ∀ (s13_18 : (Sl TInput)), Z4_j17 a1 a4 s21_5 y6_c0 x13 (Z4_l4 a1 a2 a3 a4 n4) s13_18 = Kj17 s13_18 := by
    intro s13_18
    refine Eq.trans ?_ (hKj17 _).symm
    unfold Z4_j17
    refine Q.guardPO (Q.partC_take (by omega)) fun x21 hx_x21 => ?_
    refine Q.guardPO (by simp only [Z5_eq, Z93_eq]) fun x22 hx_x22 => ?_
    refine Q.wrapOO fun Kj10 hKj10 => ?_
    have hj10 : ∀ (y11_c0 : Fields_checker), Z4_j10 s21_5 (Z4_l4 a1 a2 a3 a4 n4) y11_c0 = Kj10 y11_c0 := by
     intro y11_c0
     refine Eq.trans ?_ (hKj10 _).symm
     unfold Z4_j10
     all_goals exact ih4 _ _ ⟨by omega, by omega⟩
    refine Q.condO ?_ ?_
    ·refine Q.bindO (Z3_eq _ _ _ _) fun x25 => ?_
     all_goals exact hj10 _
    refine Q.bindO (Z7_eq _ _ _ _ _) fun x27 => ?_
    refine Q.wrapOO fun Kb30 hKb30 => ?_
    refine Z4_l30_qe  Kb30 ?_ _ _ _ ⟨Nat.succ_pos _, by omega⟩
    intro n30 s78_31 y32_c0
    refine Eq.trans ?_ (hKb30 _).symm
    all_goals exact hj10 _
   refine Q.condP ?_ ?_
   ·all_goals exact hj17 _
   all_goals exact hj17 _
  rw [List.drop_of_length_le (by omega), Z4_q4]
  refine Q.condF (Q.ltF hlt) ?_
  exact hend n4 s21_5 y6_c0
def Z4_q (a0 : Fields_checker) (a1 : TSel) (a2 : TRef) (a3 : Bool) (a4 : Bs) : Option Fields_checker := Option.bind (Z4_q4 a1 a2 a3 a4 a1.FDirs.l 0 a0) fun y6_c0 => some y6_c0
theorem Z4_eq (a0 : Fields_checker) (a1 : TSel) (a2 : TRef) (a3 : Bool) (a4 : Bs) : Z4 a0 a1 a2 a3 a4 = Z4_q a0 a1 a2 a3 a4 := by
 unfold Z4 Z4_q
 refine Eq.trans ?_ (Q.some_bind _)
 refine Q.wrapOO fun Kb4 hKb4 => ?_
 refine Z4_l4_qe  Kb4 ?_ _ _ _ ⟨Nat.succ_pos _, by omega⟩
 intro n4 s21_5 y6_c0
 refine Eq.trans ?_ (hKb4 _).symm
 all_goals rfl
def Z82_q (a0 : TDoc) (a1 : Bs) : Bool := on (Z90_q a0 a1) fun x3 => on (Z89_q a1) fun x5 => ((!x5) && (((decide (x3 = (1 : Int))) || (decide (x3 = (2 : Int)))) || (decide (x3 = (3 : Int)))))
theorem Z82_eq (a0 : TDoc) (a1 : Bs) : Z82 a0 a1 = some (Z82_q a0 a1) := by
 unfold Z82 Z82_q
 refine Q.bindP (Z90_eq _ _) fun x3 hx_x3 => ?_
 refine Q.bindP (Z89_eq _) fun x5 hx_x5 => ?_
 all_goals rfl
def Z83_q7 (a1 : Bs) : List TField → Unit ⊕ ((TField × Bool))
 | [] => Sum.inl ()
 | h7 :: r7 => on (h7) fun x15 => bif ((x15.FName == a1)) then (Sum.inr (x15, true)) else (Z83_q7 a1 (r7) )
theorem Z83_l7_qe {a0 : TDef} {a1 : Bs}  (Kb7 : (Unit ⊕ ((TField × Bool))) → Option (TField × Bool)) (hend : ∀ (n7 : Nat) (s11_8 : Nat) (y9_l0 : TField), Z83_j2   y9_l0 = Kb7 (Sum.inl ())) (hret : ∀ e : (TField × Bool), some e = Kb7 (Sum.inr e)) : ∀ (n7 : Nat) (s11_8 : Nat) (y9_l0 : TField), (0 < n7 ∧ a0.FFields.l.length < s11_8 + n7) → Z83_l7 a0 a1 n7 s11_8 y9_l0 = Kb7 (Z83_q7 a1 (a0.FFields.l.drop s11_8) ) := by
 intro n7
 induction n7 with
 | zero => intro s11_8 y9_l0 hn; exact absurd hn.1 (by omega)
 | succ n7 ih7 =>
  intro s11_8 y9_l0 hn
  rw [Z83_l7]
  by_cases hlt : s11_8 < a0.FFields.l.length
  ·obtain ⟨h7, hh7⟩ : ∃ x, a0.FFields.l[s11_8]? = some x := ⟨_, List.getElem?_eq_getElem hlt⟩
   rw [Q.drop_of hh7, Z83_q7]
   refine Q.condT (Q.ltT hlt) ?_
   refine Q.bindP hh7 fun x15 hx_x15 => ?_
   refine Q.condP ?_ ?_
   ·all_goals exact hret _
   all_goals exact ih7 _ _ ⟨by omega, by omega⟩
  rw [List.drop_of_length_le (by omega), Z83_q7]
  refine Q.condF (Q.ltF hlt) ?_
  exact hend n7 s11_8 y9_l0
def Z83_q (a0 : TDef) (a1 : Bs) : (TField × Bool) := on (Z83_q7 a1 a0.FFields.l ) fun o7 => match o7 with | Sum.inl _ => (on (()) fun _ => ((TField.mk ([] : Bs) (Sl.nil : Sl TInput) TRef.zero (Sl.nil : Sl TDir)), false)) | Sum.inr e7 => (e7)
theorem Z83_eq (a0 : TDef) (a1 : Bs) : Z83 a0 a1 = some (Z83_q a0 a1) := by
 unfold Z83 Z83_q
 refine Q.wrapPP fun Kb7 hKb7 => ?_
 refine Z83_l7_qe  Kb7 ?_ ?_ _ _ _ ⟨Nat.succ_pos _, by omega⟩
 ·intro n7 s11_8 y9_l0
  refine Eq.trans ?_ (hKb7 _).symm
  try dsimp only
  refine Q.wrapPP fun Kj2 hKj2 => ?_
  have hj2 : ∀ (y3_l0 : TField), Z83_j2  y3_l0 = Kj2 () := by
   intro y3_l0
   refine Eq.trans ?_ (hKj2 _).symm
   unfold Z83_j2
   all_goals rfl
  all_goals exact hj2 _
 intro e7
 refine Eq.trans ?_ (hKb7 _).symm
 try dsimp only
 all_goals rfl
def Z1_q (a0 : TDoc) (a1 : Bs) (a2 : Bs) : Option (TRef × Bool) := on (Z82_q a0 a1) fun x4 => bif (!x4) then (some ((TRef.mk ([] : Bs) (Sl.nil : Sl Int)), false)) else (bif ((a2 == ([95, 95, 116, 121, 112, 101, 110, 97, 109, 101] : Bs))) then (on (Z107_q ([83, 116, 114, 105, 110, 103] : Bs)) fun x11 => (Z108_q x11).bind fun x12 => some (x12, true)) else (on (Z84_q a0 a1) fun x14 => on (Z83_q x14.1 a2) fun x16 => bif (!x16.2) then (some ((TRef.mk ([] : Bs) (Sl.nil : Sl Int)), false)) else ((Z91_q x16.1.FType.FWraps).bind fun x22 => some ((TRef.mk x16.1.FType.FName x22), true))))
theorem Z1_eq (a0 : TDoc) (a1 : Bs) (a2 : Bs) : Z1 a0 a1 a2 = Z1_q a0 a1 a2 := by
 unfold Z1 Z1_q
 refine Eq.trans ?_ (Q.some_bind _)
 refine Q.bindPO (Z82_eq _ _) fun x4 hx_x4 => ?_
 refine Q.condO ?_ ?_
 ·all_goals rfl
 refine Q.condO ?_ ?_
 ·refine Q.bindPO (Z107_eq _) fun x11 hx_x11 => ?_
  refine Q.bindO (Z108_eq _) fun x12 => ?_
  all_goals rfl
 refine Q.bindPO (Z84_eq _ _) fun x14 hx_x14 => ?_
 refine Q.bindPO (Z83_eq _ _) fun x16 hx_x16 => ?_
 refine Q.condO ?_ ?_
 ·all_goals rfl
 refine Q.bindO (Z91_eq _) fun x22 => ?_
 all_goals rfl
def Z14_q (a0 : Bs) (a1 : Bs) : Bool := on (bif (decide (((a1.length : Nat) : Int) ≤ ((a0.length : Nat) : Int))) then (List.take (a1.length) a0) else ([] : Bs)) fun x5 => ((decide (((a1.length : Nat) : Int) ≤ ((a0.length : Nat) : Int))) && ((x5 == a1)))
theorem Z14_eq (a0 : Bs) (a1 : Bs) : Z14 a0 a1 = some (Z14_q a0 a1) := by
 unfold Z14 Z14_q
 refine Q.guardT (fun hc => Q.cutC_take (by simp at hc; omega)) fun x5 hx_x5 => ?_
 all_goals rfl
def Z102_q (a0 : Bs) (a1 : Bs) : Bool := on (Z14_q a0 a1) fun x3 => x3
theorem Z102_eq (a0 : Bs) (a1 : Bs) : Z102 a0 a1 = some (Z102_q a0 a1) := by
 unfold Z102 Z102_q
 refine Q.bindP (Z14_eq _ _) fun x3 hx_x3 => ?_
 all_goals rfl
def Z103_q (a0 : Bs) : Bool := on (Z102_q a0 ([95, 95] : Bs)) fun x3 => x3
theorem Z103_eq (a0 : Bs) : Z103 a0 = some (Z103_q a0) := by
 unfold Z103 Z103_q
 refine Q.bindP (Z102_eq _ _) fun x3 hx_x3 => ?_
 all_goals rfl
def fields_checker_sels_q3 (a2 : Bs) (a3 : Bs) (k_rec_27 : Fields_checker → (Sl TSel) → Bs → Bs → Option Fields_checker) (k_rec_59 : Fields_checker → TSel → Bs → Bs → Option Fields_checker) : List TSel → Fields_checker → Option (Fields_checker)
 | [], y5_c0 => some y5_c0
 | h3 :: r3, y5_c0 => on (h3) fun x12 => Option.bind (bif (decide (x12.FKind = (2 : Int))) then ((Z4_q y5_c0 x12 (TRef.mk ([] : Bs) (Sl.nil : Sl Int)) false a3).bind fun x16 => some x16) else (bif (decide (x12.FKind = (3 : Int))) then ((Z4_q y5_c0 x12 (TRef.mk ([] : Bs) (Sl.nil : Sl Int)) false a3).bind fun x20 => on (bif (!(x12.FOn == ([] : Bs))) then (x12.FOn) else (a2)) fun s10_23 => (k_rec_27 x20 x12.FSels s10_23 a3).bind fun x24 => some x24) else ((k_rec_59 y5_c0 x12 a2 a3).bind fun x27 => some x27))) fun y10_c0 => fields_checker_sels_q3 a2 a3 k_rec_27 k_rec_59 (r3) y10_c0
theorem fields_checker_sels_l3_qe {a1 : (Sl TSel)} {a2 : Bs} {a3 : Bs} {k_rec_27 : Fields_checker → (Sl TSel) → Bs → Bs → Option Fields_checker} {k_rec_59 : Fields_checker → TSel → Bs → Bs → Option Fields_checker}  (Kb3 : (Fields_checker) → Option Fields_checker) (hend : ∀ (n3 : Nat) (s13_4 : Nat) (y5_c0 : Fields_checker), some y5_c0 = Kb3 y5_c0) : ∀ (n3 : Nat) (s13_4 : Nat) (y5_c0 : Fields_checker), (0 < n3 ∧ a1.l.length < s13_4 + n3) → fields_checker_sels_l3 a1 a2 a3 k_rec_27 k_rec_59 n3 s13_4 y5_c0 = Option.bind (fields_checker_sels_q3 a2 a3 k_rec_27 k_rec_59 (a1.l.drop s13_4) y5_c0) Kb3 := by
 intro n3
 induction n3 with
 | zero => intro s13_4 y5_c0 hn; exact absurd hn.1 (by omega)
 | succ n3 ih3 =>
  intro s13_4 y5_c0 hn
  rw [fields_checker_sels_l3]
  by_cases hlt : s13_4 < a1.l.length
  ·obtain ⟨h3, hh3⟩ : ∃ x, a1.l[s13_4]? = some x := ⟨_, List.getElem?_eq_getElem hlt⟩
   rw [Q.drop_of hh3, fields_checker_sels_q3]
   refine Q.condT (Q.ltT hlt) ?_
   refine Q.bindPO hh3 fun x12 hx_x12 => ?_
   refine Q.wrapOO fun Kj9 hKj9 => ?_
   have hj9 : ∀ (y10_c0 : Fields_checker), fields_checker_sels_j9 s13_4 (fields_checker_sels_l3 a1 a2 a3 k_rec_27 k_rec_59 n3) y10_c0 = Kj9 y10_c0 := by
    intro y10_c0
    refine Eq.trans ?_ (hKj9 _).symm
    unfold fields_checker_sels_j9
    all_goals exact ih3 _ _ ⟨by omega, by omega⟩
   refine Q.condO ?_ ?_
   ·refine Q.bindO (Z4_eq _ _ _ _ _) fun x16 => ?_
    all_goals exact hj9 _
   refine Q.condO ?_ ?_
   ·refine Q.bindO (Z4_eq _ _ _ _ _) fun x20 => ?_
    refine Q.wrapPO fun Kj22 hKj22 => ?_
    have hj22 : ∀ (s10_23 : Bs), fields_checker_sels_j22 a3 s13_4 x12 x20 (fields_checker_sels_l3 a1 a2 a3 k_rec_27 k_rec_59 n3) k_rec_27 s10_23 = Kj22 s10_23 := by
     intro s10_23
     refine Eq.trans ?_ (hKj22 _).symm
     unfold fields_checker_sels_j22
     refine Q.bindO rfl fun x24 => ?_
     all_goals exact hj9 _
    refine Q.condP ?_ ?_
    ·all_goals exact hj22 _
    all_goals exact hj22 _
   refine Q.bindO rfl fun x27 => ?_
   all_goals exact hj9 _
  rw [List.drop_of_length_le (by omega), fields_checker_sels_q3]
  refine Q.condF (Q.ltF hlt) ?_
  exact hend n3 s13_4 y5_c0
def Z6_q37 (a1 : TSel) (x7 : Bs) : List TInput → Fields_checker → Option (Fields_checker)
 | [], y39_c0 => some y39_c0
 | h37 :: r37, y39_c0 => on (h37) fun x45 => on (Z10_q a1.FArgs x45.FName) fun x47 => on (Z106_q x45.FType) fun x48 => (Z3_q y39_c0 ((x48 && (!x45.FHas)) && (!x47.2)) (22 : Int) x7).bind fun x49 => Z6_q37 a1 x7 (r37) x49
theorem Z6_l37_qe {a1 : TSel} {x7 : Bs} {x12 : (TRef × Bool)} {y32_l0 : TField} {k_rec_27 : Fields_checker → (Sl TSel) → Bs → Bs → Option Fields_checker}  (Kb37 : (Fields_checker) → Option Fields_checker) (hend : ∀ (n37 : Nat) (s122_38 : Nat) (y39_c0 : Fields_checker), Z6_j16 a1 x7 x12 k_rec_27 y39_c0 = Kb37 y39_c0) : ∀ (n37 : Nat) (s122_38 : Nat) (y39_c0 : Fields_checker), (0 < n37 ∧ y32_l0.FArgs.l.length < s122_38 + n37) → Z6_l37 a1 x7 x12 y32_l0 k_rec_27 n37 s122_38 y39_c0 = Option.bind (Z6_q37 a1 x7 (y32_l0.FArgs.l.drop s122_38) y39_c0) Kb37 := by
 intro n37
 induction n37 with
 | zero => intro s122_38 y39_c0 hn; exact absurd hn.1 (by omega)
 | succ n37 ih37 =>
  intro s122_38 y39_c0 hn
  rw [Z6_l37]
  by_cases hlt : s122_38 < y32_l0.FArgs.l.length
  ·obtain ⟨h37, hh37⟩ : ∃ x, y32_l0.FArgs.l[s122_38]? = some x := ⟨_, List.getElem?_eq_getElem hlt⟩
   rw [Q.drop_of hh37, Z6_q37]
   refine Q.condT (Q.ltT hlt) ?_
   refine Q.bindPO hh37 fun x45 hx_x45 => ?_
   refine Q.bindPO (Z10_eq _ _) fun x47 hx_x47 => ?_
   refine Q.bindPO (Z106_eq _) fun x48 hx_x48 => ?_
   refine Q.bindO (Z3_eq _ _ _ _) fun x49 => ?_
   all_goals exact ih37 _ _ ⟨by omega, by omega⟩
  rw [List.drop_of_length_le (by omega), Z6_q37]
  refine Q.condF (Q.ltF hlt) ?_
  exact hend n37 s122_38 y39_c0
mutual
def fields_checker_sels_qn : Nat → Fields_checker → (Sl TSel) → Bs → Bs → Option Fields_checker
 | 0, _, _, _, _ => none
 | n + 1, a0, a1, a2, a3 => Option.bind (fields_checker_sels_q3 a2 a3 (fields_checker_sels_qn n) (Z6_qn n) a1.l a0) fun y5_c0 => some y5_c0
def Z6_qn : Nat → Fields_checker → TSel → Bs → Bs → Option Fields_checker
 | 0, _, _, _, _ => none
 | n + 1, a0, a1, a2, a3 => on (bif ((a1.FAlias == ([] : Bs))) then (a1.FName) else (a1.FAlias)) fun s8_4 => (catC ([47] : Bs) s8_4).bind fun x6 => (catC a3 x6).bind fun x7 => on (Z103_q a1.FAlias) fun x9 => (Z3_q a0 x9 (6 : Int) x7).bind fun x10 => (Z1_q x10.Fd a2 a1.FName).bind fun x12 => on (bif (!x12.2) then Z82_q x10.Fd a2 else false) fun x14 => (Z3_q x10 ((!x12.2) && x14) (20 : Int) x7).bind fun x15 => Option.bind (bif x12.2 then (on (Z87_q x15.Fd x12.1.FName) fun x24 => on (bif !(x24 && (decide ((0 : Int) < ((a1.FSels.l.length : Nat) : Int)))) then Z82_q x15.Fd x12.1.FName else false) fun x26 => (Z3_q x15 ((x24 && (decide ((0 : Int) < ((a1.FSels.l.length : Nat) : Int)))) || (x26 && (decide (((a1.FSels.l.length : Nat) : Int) = (0 : Int))))) (21 : Int) x7).bind fun x27 => on (Z84_q x27.Fd a2) fun x29 => on (bif (!(a1.FName == ([95, 95, 116, 121, 112, 101, 110, 97, 109, 101] : Bs))) then (on (Z83_q x29.1 a1.FName) fun x52 => x52.1) else ((TField.mk ([] : Bs) (Sl.nil : Sl TInput) TRef.zero (Sl.nil : Sl TDir)))) fun y32_l0 => (Z7_q x27 y32_l0.FArgs a1.FArgs false x7).bind fun x34 => Option.bind (Z6_q37 a1 x7 y32_l0.FArgs.l x34) fun y39_c0 => some y39_c0) else (some x15)) fun y17_c0 => (Z4_q y17_c0 a1 x12.1 x12.2 x7).bind fun x19 => ((fields_checker_sels_qn n) x19 a1.FSels x12.1.FName x7).bind fun x20 => some x20
end
theorem fields_checker_sels_qall : ∀ n : Nat, fields_checker_sels_n n = fields_checker_sels_qn n ∧ Z6_n n = Z6_qn n := by
 intro n
 induction n with
 | zero => exact ⟨(by funext a0 a1 a2 a3; first | rfl | (rw [fields_checker_sels_n, fields_checker_sels_qn])), (by funext a0 a1 a2 a3; first | rfl | (rw [Z6_n, Z6_qn]))⟩
 | succ n ih =>
  refine ⟨?_, ?_⟩
  ·funext a0 a1 a2 a3
   refine Eq.trans ?_ (Q.some_bind _)
   rw [fields_checker_sels_n, fields_checker_sels_qn]
   try rw [ih.1]
   try rw [ih.2]
   refine Q.wrapOO fun Kb3 hKb3 => ?_
   refine fields_checker_sels_l3_qe  Kb3 ?_ _ _ _ ⟨Nat.succ_pos _, by omega⟩
   intro n3 s13_4 y5_c0
   refine Eq.trans ?_ (hKb3 _).symm
   all_goals rfl
  funext a0 a1 a2 a3
  refine Eq.trans ?_ (Q.some_bind _)
  rw [Z6_n, Z6_qn]
  try rw [ih.1]
  try rw [ih.2]
  refine Q.wrapPO fun Kj3 hKj3 => ?_
  have hj3 : ∀ (s8_4 : Bs), Z6_j3 a0 a1 a2 a3 (fields_checker_sels_qn n) s8_4 = Kj3 s8_4 := by
   intro s8_4
   refine Eq.trans ?_ (hKj3 _).symm
   unfold Z6_j3
   refine Q.bindO rfl fun x6 => ?_
   refine Q.bindO rfl fun x7 => ?_
   refine Q.bindPO (Z103_eq _) fun x9 hx_x9 => ?_
   refine Q.bindO (Z3_eq _ _ _ _) fun x10 => ?_
   refine Q.bindO (Z1_eq _ _ _) fun x12 => ?_
   refine Q.guardPO (Z82_eq _ _) fun x14 hx_x14 => ?_
   refine Q.bindO (Z3_eq _ _ _ _) fun x15 => ?_
   refine Q.wrapOO fun Kj16 hKj16 => ?_
   have hj16 : ∀ (y17_c0 : Fields_checker), Z6_j16 a1 x7 x12 (fields_checker_sels_qn n) y17_c0 = Kj16 y17_c0 := by
    intro y17_c0
    refine Eq.trans ?_ (hKj16 _).symm
    unfold Z6_j16
    refine Q.bindO (Z4_eq _ _ _ _ _) fun x19 => ?_
    refine Q.bindO rfl fun x20 => ?_
    all_goals rfl
   refine Q.condO ?_ ?_
   ·refine Q.bindPO (Z87_eq _ _) fun x24 hx_x24 => ?_
    refine Q.guardPO (Z82_eq _ _) fun x26 hx_x26 => ?_
    refine Q.bindO (Z3_eq _ _ _ _) fun x27 => ?_
    refine Q.bindPO (Z84_eq _ _) fun x29 hx_x29 => ?_
    refine Q.wrapPO fun Kj31 hKj31 => ?_
    have hj31 : ∀ (y32_l0 : TField), Z6_j31 a1 x7 x12 x27 (fields_checker_sels_qn n) y32_l0 = Kj31 y32_l0 := by
     intro y32_l0
     refine Eq.trans ?_ (hKj31 _).symm
     unfold Z6_j31
     refine Q.bindO (Z7_eq _ _ _ _ _) fun x34 => ?_
     refine Q.wrapOO fun Kb37 hKb37 => ?_
     refine Z6_l37_qe  Kb37 ?_ _ _ _ ⟨Nat.succ_pos _, by omega⟩
     intro n37 s122_38 y39_c0
     refine Eq.trans ?_ (hKb37 _).symm
     all_goals exact hj16 _
    refine Q.condP ?_ ?_
    ·refine Q.bindP (Z83_eq _ _) fun x52 hx_x52 => ?_
     all_goals exact hj31 _
    all_goals exact hj31 _
   all_goals exact hj16 _
  refine Q.condP ?_ ?_
  ·all_goals exact hj3 _
  all_goals exact hj3 _
def fields_checker_sels_q (a0 : Fields_checker) (a1 : (Sl TSel)) (a2 : Bs) (a3 : Bs) : Option Fields_checker := fields_checker_sels_qn F0 a0 a1 a2 a3
theorem fields_checker_sels_eq (a0 : Fields_checker) (a1 : (Sl TSel)) (a2 : Bs) (a3 : Bs) : fields_checker_sels a0 a1 a2 a3 = fields_checker_sels_q a0 a1 a2 a3 := by
 unfold fields_checker_sels fields_checker_sels_q; rw [(fields_checker_sels_qall F0).1]
end Go.Proofs

namespace Go.Proofs
open Go Go.Ab
def Z0_q24 (a0 : TDoc) : List TOp → Fields_checker → Option (Fields_checker)
 | [], y26_id18_3 => some y26_id18_3
 | h24 :: r24, y26_id18_3 => on (h24) fun x32 => on (Z88_q x32.FKind) fun x34 => on (Z84_q a0 x34) fun x36 => (Z8_q y26_id18_3 x32.FSels ([] : List Bs) ([] : List Bs)).bind fun x41 => (Z3_q y26_id18_3 (((!x36.2) || (!decide (x36.1.FKind = (1 : Int)))) || ((decide (x32.FKind = (3 : Int))) && (!decide ((((seenM x41.1).length : Nat) : Int) = (1 : Int))))) (30 : Int) x32.FName).bind fun x44 => (fields_checker_sels_q x44 x32.FSels x34 x32.FName).bind fun x45 => Z0_q24 a0 (r24) x45
theorem Z0_l24_qe {a0 : TDoc} {a1 : TQuery}  (Kb24 : (Fields_checker) → Option (Sl TFault)) (hend : ∀ (n24 : Nat) (s22_25 : Nat) (y26_id18_3 : Fields_checker), Z0_j5 a1  y26_id18_3 = Kb24 y26_id18_3) : ∀ (n24 : Nat) (s22_25 : Nat) (y26_id18_3 : Fields_checker), (0 < n24 ∧ a1.FOps.l.length < s22_25 + n24) → Z0_l24 a0 a1 n24 s22_25 y26_id18_3 = Option.bind (Z0_q24 a0 (a1.FOps.l.drop s22_25) y26_id18_3) Kb24 := by
 intro n24
 induction n24 with
 | zero => intro s22_25 y26_id18_3 hn; exact absurd hn.1 (by omega)
 | succ n24 ih24 =>
  intro s22_25 y26_id18_3 hn
  rw [Z0_l24]
  by_cases hlt : s22_25 < a1.FOps.l.length
  ·obtain ⟨h24, hh24⟩ : ∃ x, a1.FOps.l[s22_25]? = some x := ⟨_, List.getElem?_eq_getElem hlt⟩
   rw [Q.drop_of hh24, Z0_q24]
   refine Q.condT (Q.ltT hlt) ?_
   refine Q.bindPO hh24 fun x32 hx_x32 => ?_
   refine Q.bindPO (Z88_eq _) fun x34 hx_x34 => ?_
   refine Q.bindPO (Z84_eq _ _) fun x36 hx_x36 => ?_
   refine Q.bindO (Z8_eq _ _ _ _) fun x41 => ?_
   refine Q.bindO (Z3_eq _ _ _ _) fun x44 => ?_
   refine Q.bindO (fields_checker_sels_eq _ _ _ _) fun x45 => ?_
   all_goals exact ih24 _ _ ⟨by omega, by omega⟩
  rw [List.drop_of_length_le (by omega), Z0_q24]
  refine Q.condF (Q.ltF hlt) ?_
  exact hend n24 s22_25 y26_id18_3
def Z0_q12  : List TFrag → Fields_checker → Option (Fields_checker)
 | [], y14_id18_3 => some y14_id18_3
 | h12 :: r12, y14_id18_3 => on (h12) fun x20 => (fields_checker_sels_q y14_id18_3 x20.FSels x20.FOn x20.FName).bind fun x21 => Z0_q12  (r12) x21
theorem Z0_l12_qe {a1 : TQuery}  (Kb12 : (Fields_checker) → Option (Sl TFault)) (hend : ∀ (n12 : Nat) (s75_13 : Nat) (y14_id18_3 : Fields_checker), Z0_j7   y14_id18_3 = Kb12 y14_id18_3) : ∀ (n12 : Nat) (s75_13 : Nat) (y14_id18_3 : Fields_checker), (0 < n12 ∧ a1.FFrags.l.length < s75_13 + n12) → Z0_l12 a1 n12 s75_13 y14_id18_3 = Option.bind (Z0_q12  (a1.FFrags.l.drop s75_13) y14_id18_3) Kb12 := by
 intro n12
 induction n12 with
 | zero => intro s75_13 y14_id18_3 hn; exact absurd hn.1 (by omega)
 | succ n12 ih12 =>
  intro s75_13 y14_id18_3 hn
  rw [Z0_l12]
  by_cases hlt : s75_13 < a1.FFrags.l.length
  ·obtain ⟨h12, hh12⟩ : ∃ x, a1.FFrags.l[s75_13]? = some x := ⟨_, List.getElem?_eq_getElem hlt⟩
   rw [Q.drop_of hh12, Z0_q12]
   refine Q.condT (Q.ltT hlt) ?_
   refine Q.bindPO hh12 fun x20 hx_x20 => ?_
   refine Q.bindO (fields_checker_sels_eq _ _ _ _) fun x21 => ?_
   all_goals exact ih12 _ _ ⟨by omega, by omega⟩
  rw [List.drop_of_length_le (by omega), Z0_q12]
  refine Q.condF (Q.ltF hlt) ?_
  exact hend n12 s75_13 y14_id18_3
def Z0_q (a0 : TDoc) (a1 : TQuery) : Option (Sl TFault) := Option.bind (Z0_q24 a0 a1.FOps.l (Fields_checker.mk a0 a1 (Sl.nil : Sl TFault))) fun y26_id18_3 => on (y26_id18_3) fun y6_id18_3 => Option.bind (Z0_q12  a1.FFrags.l y6_id18_3) fun y14_id18_3 => on (y14_id18_3) fun y8_id18_3 => some y8_id18_3.Fout
theorem Z0_eq (a0 : TDoc) (a1 : TQuery) : Z0 a0 a1 = Z0_q a0 a1 := by
 unfold Z0 Z0_q
 refine Eq.trans ?_ (Q.some_bind _)
 refine Q.wrapOO fun Kb24 hKb24 => ?_
 refine Z0_l24_qe  Kb24 ?_ _ _ _ ⟨Nat.succ_pos _, by omega⟩
 intro n24 s22_25 y26_id18_3
 refine Eq.trans ?_ (hKb24 _).symm
 refine Q.wrapPO fun Kj5 hKj5 => ?_
 have hj5 : ∀ (y6_id18_3 : Fields_checker), Z0_j5 a1 y6_id18_3 = Kj5 y6_id18_3 := by
  intro y6_id18_3
  refine Eq.trans ?_ (hKj5 _).symm
  unfold Z0_j5
  refine Q.wrapOO fun Kb12 hKb12 => ?_
  refine Z0_l12_qe  Kb12 ?_ _ _ _ ⟨Nat.succ_pos _, by omega⟩
  intro n12 s75_13 y14_id18_3
  refine Eq.trans ?_ (hKb12 _).symm
  refine Q.wrapPO fun Kj7 hKj7 => ?_
  have hj7 : ∀ (y8_id18_3 : Fields_checker), Z0_j7  y8_id18_3 = Kj7 y8_id18_3 := by
   intro y8_id18_3
   refine Eq.trans ?_ (hKj7 _).symm
   unfold Z0_j7
   all_goals rfl
  all_goals exact hj7 _
 all_goals exact hj5 _
def Z31_q (a0 : TRef) : Bool := on (bif (decide ((0 : Int) < ((a0.FWraps.l.length : Nat) : Int))) then ((a0.FWraps.l)[0]?.getD (0 : Int)) else (0 : Int)) fun x4 => ((decide ((0 : Int) < ((a0.FWraps.l.length : Nat) : Int))) && (decide (x4 = (1 : Int))))
theorem Z31_eq (a0 : TRef) : Z31 a0 = some (Z31_q a0) := by
 unfold Z31 Z31_q
 refine Q.guardT (fun hc => Q.getD_some (by simp at hc; omega)) fun x4 hx_x4 => ?_
 all_goals rfl
def Z39_q (a0 : Int) (a1 : TRef) : Option TRef := (appC 8 (⟨false, [a0]⟩ : Sl Int) a1.FWraps).bind fun x3 => some (TRef.mk a1.FName x3)
theorem Z39_eq (a0 : Int) (a1 : TRef) : Z39 a0 a1 = Z39_q a0 a1 := by
 unfold Z39 Z39_q
 refine Eq.trans ?_ (Q.some_bind _)
 refine Q.bindO rfl fun x3 => ?_
 all_goals rfl
def Z33_q (a0 : TRef) : Option TRef := on (Z31_q a0) fun x4 => bif x4 then ((appC 8 (⟨false, []⟩ : Sl Int) a0.FWraps).bind fun x7 => some (TRef.mk a0.FName x7)) else ((Z39_q (1 : Int) a0).bind fun x9 => some x9)
theorem Z33_eq (a0 : TRef) : Z33 a0 = Z33_q a0 := by
 unfold Z33 Z33_q
 refine Eq.trans ?_ (Q.some_bind _)
 refine Q.bindPO (Z31_eq _) fun x4 hx_x4 => ?_
 refine Q.condO ?_ ?_
 ·refine Q.bindO rfl fun x7 => ?_
  all_goals rfl
 refine Q.bindO (Z39_eq _ _) fun x9 => ?_
 all_goals rfl
def Z32_q (a0 : Bs) : TRef := (TRef.mk a0 (Sl.nil : Sl Int))
theorem Z32_eq (a0 : Bs) : Z32 a0 = some (Z32_q a0) := by
 unfold Z32 Z32_q
 all_goals rfl
def Z65_q (a0 : Int) : Bs := bif (decide (a0 = (1 : Int))) then (([81, 117, 101, 114, 121] : Bs)) else (bif (decide (a0 = (2 : Int))) then (([77, 117, 116, 97, 116, 105, 111, 110] : Bs)) else (bif (decide (a0 = (3 : Int))) then (([83, 117, 98, 115, 99, 114, 105, 112, 116, 105, 111, 110] : Bs)) else (([] : Bs))))
theorem Z65_eq (a0 : Int) : Z65 a0 = some (Z65_q a0) := by
 unfold Z65 Z65_q
 refine Q.condP ?_ ?_
 ·all_goals rfl
 refine Q.condP ?_ ?_
 ·all_goals rfl
 refine Q.condP ?_ ?_
 ·all_goals rfl
 all_goals rfl
def Z60_q6 (a1 : Bs) : List TDef → Unit ⊕ ((TDef × Bool))
 | [] => Sum.inl ()
 | h6 :: r6 => on (h6) fun x15 => bif ((x15.FName == a1)) then (on (h6) fun x18 => Sum.inr (x18, true)) else (Z60_q6 a1 (r6) )
theorem Z60_l6_qe {a0 : TDoc} {a1 : Bs}  (Kb6 : (Unit ⊕ ((TDef × Bool))) → Option (TDef × Bool)) (hend : ∀ (n6 : Nat) (s6_7 : Nat) (y8_l0 : TDef), Z60_j2   y8_l0 = Kb6 (Sum.inl ())) (hret : ∀ e : (TDef × Bool), some e = Kb6 (Sum.inr e)) : ∀ (n6 : Nat) (s6_7 : Nat) (y8_l0 : TDef), (0 < n6 ∧ a0.FDefs.l.length < s6_7 + n6) → Z60_l6 a0 a1 n6 s6_7 y8_l0 = Kb6 (Z60_q6 a1 (a0.FDefs.l.drop s6_7) ) := by
 intro n6
 induction n6 with
 | zero => intro s6_7 y8_l0 hn; exact absurd hn.1 (by omega)
 | succ n6 ih6 =>
  intro s6_7 y8_l0 hn
  rw [Z60_l6]
  by_cases hlt : s6_7 < a0.FDefs.l.length
  ·obtain ⟨h6, hh6⟩ : ∃ x, a0.FDefs.l[s6_7]? = some x := ⟨_, List.getElem?_eq_getElem hlt⟩
   rw [Q.drop_of hh6, Z60_q6]
   refine Q.condT (Q.ltT hlt) ?_
   refine Q.bindP hh6 fun x15 hx_x15 => ?_
   refine Q.condP ?_ ?_
   ·refine Q.bindP hh6 fun x18 hx_x18 => ?_
    all_goals exact hret _
   all_goals exact ih6 _ _ ⟨by omega, by omega⟩
  rw [List.drop_of_length_le (by omega), Z60_q6]
  refine Q.condF (Q.ltF hlt) ?_
  exact hend n6 s6_7 y8_l0
def Z60_q (a0 : TDoc) (a1 : Bs) : (TDef × Bool) := on (Z60_q6 a1 a0.FDefs.l ) fun o6 => match o6 with | Sum.inl _ => (on (()) fun _ => ((TDef.mk (0 : Int) ([] : Bs) (Sl.nil : Sl Bs) (Sl.nil : Sl TDir) (Sl.nil : Sl TField) (Sl.nil : Sl TMember) (Sl.nil : Sl TInput)), false)) | Sum.inr e6 => (e6)
theorem Z60_eq (a0 : TDoc) (a1 : Bs) : Z60 a0 a1 = some (Z60_q a0 a1) := by
 unfold Z60 Z60_q
 refine Q.wrapPP fun Kb6 hKb6 => ?_
 refine Z60_l6_qe  Kb6 ?_ ?_ _ _ _ ⟨Nat.succ_pos _, by omega⟩
 ·intro n6 s6_7 y8_l0
  refine Eq.trans ?_ (hKb6 _).symm
  try dsimp only
  refine Q.wrapPP fun Kj2 hKj2 => ?_
  have hj2 : ∀ (y3_l0 : TDef), Z60_j2  y3_l0 = Kj2 () := by
   intro y3_l0
   refine Eq.trans ?_ (hKj2 _).symm
   unfold Z60_j2
   all_goals rfl
  all_goals exact hj2 _
 intro e6
 refine Eq.trans ?_ (hKb6 _).symm
 try dsimp only
 all_goals rfl
def Z75_q5 (a1 : Bs) : List Bs → Unit ⊕ Bool
 | [] => Sum.inl ()
 | h5 :: r5 => on (h5) fun x13 => bif ((x13 == a1)) then (Sum.inr true) else (Z75_q5 a1 (r5) )
theorem Z75_l5_qe {a0 : (Sl Bs)} {a1 : Bs}  (Kb5 : (Unit ⊕ Bool) → Option Bool) (hend : ∀ (n5 : Nat) (s5_6 : Nat), Z75_j2    = Kb5 (Sum.inl ())) (hret : ∀ e : Bool, some e = Kb5 (Sum.inr e)) : ∀ (n5 : Nat) (s5_6 : Nat), (0 < n5 ∧ a0.l.length < s5_6 + n5) → Z75_l5 a0 a1 n5 s5_6 = Kb5 (Z75_q5 a1 (a0.l.drop s5_6) ) := by
 intro n5
 induction n5 with
 | zero => intro s5_6 hn; exact absurd hn.1 (by omega)
 | succ n5 ih5 =>
  intro s5_6 hn
  rw [Z75_l5]
  by_cases hlt : s5_6 < a0.l.length
  ·obtain ⟨h5, hh5⟩ : ∃ x, a0.l[s5_6]? = some x := ⟨_, List.getElem?_eq_getElem hlt⟩
   rw [Q.drop_of hh5, Z75_q5]
   refine Q.condT (Q.ltT hlt) ?_
   refine Q.bindP hh5 fun x13 hx_x13 => ?_
   refine Q.condP ?_ ?_
   ·all_goals exact hret _
   all_goals exact ih5 _ ⟨by omega, by omega⟩
  rw [List.drop_of_length_le (by omega), Z75_q5]
  refine Q.condF (Q.ltF hlt) ?_
  exact hend n5 s5_6
def Z75_q (a0 : (Sl Bs)) (a1 : Bs) : Bool := on (Z75_q5 a1 a0.l ) fun o5 => match o5 with | Sum.inl _ => (on (()) fun _ => false) | Sum.inr e5 => (e5)
theorem Z75_eq (a0 : (Sl Bs)) (a1 : Bs) : Z75 a0 a1 = some (Z75_q a0 a1) := by
 unfold Z75 Z75_q
 refine Q.wrapPP fun Kb5 hKb5 => ?_
 refine Z75_l5_qe  Kb5 ?_ ?_ _ _ ⟨Nat.succ_pos _, by omega⟩
 ·intro n5 s5_6
  refine Eq.trans ?_ (hKb5 _).symm
  try dsimp only
  refine Q.wrapPP fun Kj2 hKj2 => ?_
  have hj2 : Z75_j2   = Kj2 () := by
   refine Eq.trans ?_ (hKj2 _).symm
   unfold Z75_j2
   all_goals rfl
  all_goals exact hj2
 intro e5
 refine Eq.trans ?_ (hKb5 _).symm
 try dsimp only
 all_goals rfl
def Z68_q (a0 : TSel) : Bs := bif (!(a0.FAlias == ([] : Bs))) then (a0.FAlias) else (a0.FName)
theorem Z68_eq (a0 : TSel) : Z68 a0 = some (Z68_q a0) := by
 unfold Z68 Z68_q
 refine Q.condP ?_ ?_
 ·all_goals rfl
 all_goals rfl
def Z79_q27 (a0 : TQuery) (k_rec_30 : TQuery → (Sl TSel) → (Sl Bs) → (Sl Bs) → Option ((Sl Bs) × (Sl Bs))) (h7 : TSel) : List TFrag → (Sl Bs) → (Sl Bs) → Option (((Sl Bs) × (Sl Bs)))
 | [], s2_28, s3_29 => some (s2_28, s3_29)
 | h27 :: r27, s2_28, s3_29 => on (h27) fun x39 => on (h7) fun x40 => on (bif ((x39.FName == x40.FName)) then h7 else TSel.zero) fun x41 => on (bif ((x39.FName == x40.FName)) then Z75_q s3_29 x41.FName else false) fun x42 => Option.bind (bif (((x39.FName == x40.FName)) && (!x42)) then (on (h7) fun x45 => (appC 16 s3_29 (⟨false, [x45.FName]⟩ : Sl Bs)).bind fun x46 => on (h27) fun x47 => (k_rec_30 a0 x47.FSels s2_28 x46).bind fun x48 => some (x48.1, x48.2)) else (some (s2_28, s3_29))) fun z35 => Z79_q27 a0 k_rec_30 h7 (r27) z35.1 z35.2
theorem Z79_l27_qe {a0 : TQuery} {a1 : (Sl TSel)} {s10_10 : Nat} {k_next_7 : (Sl Bs) → (Sl Bs) → Nat → Option ((Sl Bs) × (Sl Bs))} {k_rec_30 : TQuery → (Sl TSel) → (Sl Bs) → (Sl Bs) → Option ((Sl Bs) × (Sl Bs))} {h7 : TSel} (hh7 : a1.l[s10_10]? = some h7) (Kb27 : (((Sl Bs) × (Sl Bs))) → Option ((Sl Bs) × (Sl Bs))) (hend : ∀ (n27 : Nat) (s2_28 : (Sl Bs)) (s3_29 : (Sl Bs)) (s11_30 : Nat), Z79_j15 s10_10 k_next_7 s2_28 s3_29 = Kb27 (s2_28, s3_29)) : ∀ (n27 : Nat) (s2_28 : (Sl Bs)) (s3_29 : (Sl Bs)) (s11_30 : Nat), (0 < n27 ∧ a0.FFrags.l.length < s11_30 + n27) → Z79_l27 a0 a1 s10_10 k_next_7 k_rec_30 n27 s2_28 s3_29 s11_30 = Option.bind (Z79_q27 a0 k_rec_30 h7 (a0.FFrags.l.drop s11_30) s2_28 s3_29) Kb27 := by
 intro n27
 induction n27 with
 | zero => intro s2_28 s3_29 s11_30 hn; exact absurd hn.1 (by omega)
 | succ n27 ih27 =>
  intro s2_28 s3_29 s11_30 hn
  rw [Z79_l27]
  by_cases hlt : s11_30 < a0.FFrags.l.length
  ·obtain ⟨h27, hh27⟩ : ∃ x, a0.FFrags.l[s11_30]? = some x := ⟨_, List.getElem?_eq_getElem hlt⟩
   rw [Q.drop_of hh27, Z79_q27]
   refine Q.condT (Q.ltT hlt) ?_
   refine Q.bindPO hh27 fun x39 hx_x39 => ?_
   refine Q.bindPO hh7 fun x40 hx_x40 => ?_
   refine Q.guardPO hh7 fun x41 hx_x41 => ?_
   refine Q.guardPO (Z75_eq _ _) fun x42 hx_x42 => ?_
   refine Q.wrapOO fun Kj35 hKj35 => ?_
   have hj35 : ∀ (s2_36 : (Sl Bs)) (s3_37 : (Sl Bs)), Z79_j35 s11_30 (Z79_l27 a0 a1 s10_10 k_next_7 k_rec_30 n27) s2_36 s3_37 = Kj35 (s2_36, s3_37) := by
    intro s2_36 s3_37
    refine Eq.trans ?_ (hKj35 _).symm
    try dsimp only
    unfold Z79_j35
    all_goals exact ih27 _ _ _ ⟨by omega, by omega⟩
   refine Q.condO ?_ ?_
   ·refine Q.bindPO hh7 fun x45 hx_x45 => ?_
    refine Q.bindO rfl fun x46 => ?_
    refine Q.bindPO hh27 fun x47 hx_x47 => ?_
    refine Q.bindO rfl fun x48 => ?_
    all_goals exact hj35 _ _
   all_goals exact hj35 _ _
  rw [List.drop_of_length_le (by omega), Z79_q27]
  refine Q.condF (Q.ltF hlt) ?_
  exact hend n27 s2_28 s3_29 s11_30
def Z79_q7 (a0 : TQuery) (k_rec_30 : TQuery → (Sl TSel) → (Sl Bs) → (Sl Bs) → Option ((Sl Bs) × (Sl Bs))) : List TSel → (Sl Bs) → (Sl Bs) → Option (((Sl Bs) × (Sl Bs)))
 | [], s2_8, s3_9 => some (s2_8, s3_9)
 | h7 :: r7, s2_8, s3_9 => on (h7) fun x19 => Option.bind (bif (decide (x19.FKind = (3 : Int))) then (on (h7) fun x22 => (k_rec_30 a0 x22.FSels s2_8 s3_9).bind fun x23 => some (x23.1, x23.2)) else (bif (decide (x19.FKind = (2 : Int))) then (Option.bind (Z79_q27 a0 k_rec_30 h7 a0.FFrags.l s2_8 s3_9) fun z27 => some (z27.1, z27.2)) else (on (h7) fun x50 => on (Z68_q x50) fun x51 => on (Z75_q s2_8 x51) fun x52 => bif (!x52) then (on (h7) fun x54 => on (Z68_q x54) fun x55 => (appC 16 s2_8 (⟨false, [x55]⟩ : Sl Bs)).bind fun x56 => some (x56, s3_9)) else (some (s2_8, s3_9))))) fun z15 => Z79_q7 a0 k_rec_30 (r7) z15.1 z15.2
theorem Z79_l7_qe {a0 : TQuery} {a1 : (Sl TSel)} {k_rec_30 : TQuery → (Sl TSel) → (Sl Bs) → (Sl Bs) → Option ((Sl Bs) × (Sl Bs))}  (Kb7 : (((Sl Bs) × (Sl Bs))) → Option ((Sl Bs) × (Sl Bs))) (hend : ∀ (n7 : Nat) (s2_8 : (Sl Bs)) (s3_9 : (Sl Bs)) (s10_10 : Nat), Z79_j2   s2_8 s3_9 = Kb7 (s2_8, s3_9)) : ∀ (n7 : Nat) (s2_8 : (Sl Bs)) (s3_9 : (Sl Bs)) (s10_10 : Nat), (0 < n7 ∧ a1.l.length < s10_10 + n7) → Z79_l7 a0 a1 k_rec_30 n7 s2_8 s3_9 s10_10 = Option.bind (Z79_q7 a0 k_rec_30 (a1.l.drop s10_10) s2_8 s3_9) Kb7 := by
 intro n7
 induction n7 with
 | zero => intro s2_8 s3_9 s10_10 hn; exact absurd hn.1 (by omega)
 | succ n7 ih7 =>
  intro s2_8 s3_9 s10_10 hn
  rw [Z79_l7]
  by_cases hlt : s10_10 < a1.l.length
  ·obtain ⟨h7, hh7⟩ : ∃ x, a1.l[s10_10]? = some x := ⟨_, List.getElem?_eq_getElem hlt⟩
   rw [Q.drop_of hh7, Z79_q7]
   refine Q.condT (Q.ltT hlt) ?_
   refine Q.bindPO hh7 fun x19 hx_x19 => ?_
   refine Q.wrapOO fun Kj15 hKj15 => ?_
   have hj15 : ∀ (s2_16 : (Sl Bs)) (s3_17 : (Sl Bs)), Z79_j15 s10_10 (Z79_l7 a0 a1 k_rec_30 n7) s2_16 s3_17 = Kj15 (s2_16, s3_17) := by
    intro s2_16 s3_17
    refine Eq.trans ?_ (hKj15 _).symm
    try dsimp only
    unfold Z79_j15
    all_goals exact ih7 _ _ _ ⟨by omega, by omega⟩
   refine Q.condO ?_ ?_
   ·refine Q.bindPO hh7 fun x22 hx_x22 => ?_
    refine Q.bindO rfl fun x23 => ?_
    all_goals exact hj15 _ _
   refine Q.condO ?_ ?_
   ·refine Q.wrapOO fun Kb27 hKb27 => ?_
    refine Z79_l27_qe hh7 Kb27 ?_ _ _ _ _ ⟨Nat.succ_pos _, by omega⟩
    intro n27 s2_28 s3_29 s11_30
    refine Eq.trans ?_ (hKb27 _).symm
    try dsimp only
    all_goals exact hj15 _ _
   refine Q.bindPO hh7 fun x50 hx_x50 => ?_
   refine Q.bindPO (Z68_eq _) fun x51 hx_x51 => ?_
   refine Q.bindPO (Z75_eq _ _) fun x52 hx_x52 => ?_
   refine Q.condO ?_ ?_
   ·refine Q.bindPO hh7 fun x54 hx_x54 => ?_
    refine Q.bindPO (Z68_eq _) fun x55 hx_x55 => ?_
    refine Q.bindO rfl fun x56 => ?_
    all_goals exact hj15 _ _
   all_goals exact hj15 _ _
  rw [List.drop_of_length_le (by omega), Z79_q7]
  refine Q.condF (Q.ltF hlt) ?_
  exact hend n7 s2_8 s3_9 s10_10
def Z79_qn : Nat → TQuery → (Sl TSel) → (Sl Bs) → (Sl Bs) → Option ((Sl Bs) × (Sl Bs))
 | 0, _, _, _, _ => none
 | n + 1, a0, a1, a2, a3 => Option.bind (Z79_q7 a0 (Z79_qn n) a1.l a2 a3) fun z7 => on ((z7.1, z7.2)) fun z2 => some (z2.1, z2.2)
theorem Z79_qall : ∀ n : Nat, Z79_n n = Z79_qn n := by
 intro n
 induction n with
 | zero => exact (by funext a0 a1 a2 a3; first | rfl | (rw [Z79_n, Z79_qn]))
 | succ n ih =>
  funext a0 a1 a2 a3
  refine Eq.trans ?_ (Q.some_bind _)
  rw [Z79_n, Z79_qn]
  try rw [ih]
  refine Q.wrapOO fun Kb7 hKb7 => ?_
  refine Z79_l7_qe  Kb7 ?_ _ _ _ _ ⟨Nat.succ_pos _, by omega⟩
  intro n7 s2_8 s3_9 s10_10
  refine Eq.trans ?_ (hKb7 _).symm
  try dsimp only
  refine Q.wrapPO fun Kj2 hKj2 => ?_
  have hj2 : ∀ (s2_3 : (Sl Bs)) (s3_4 : (Sl Bs)), Z79_j2  s2_3 s3_4 = Kj2 (s2_3, s3_4) := by
   intro s2_3 s3_4
   refine Eq.trans ?_ (hKj2 _).symm
   try dsimp only
   unfold Z79_j2
   all_goals rfl
  all_goals exact hj2 _ _
def Z79_q (a0 : TQuery) (a1 : (Sl TSel)) (a2 : (Sl Bs)) (a3 : (Sl Bs)) : Option ((Sl Bs) × (Sl Bs)) := Z79_qn F0 a0 a1 a2 a3
theorem Z79_eq (a0 : TQuery) (a1 : (Sl TSel)) (a2 : (Sl Bs)) (a3 : (Sl Bs)) : Z79 a0 a1 a2 a3 = Z79_q a0 a1 a2 a3 := by
 unfold Z79 Z79_q; rw [(Z79_qall F0)]
def Z66_q (a0 : Bs) : Bool := (((((a0 == ([73, 110, 116] : Bs))) || ((a0 == ([83, 116, 114, 105, 110, 103] : Bs)))) || ((a0 == ([66, 111, 111, 108, 101, 97, 110] : Bs)))) || ((a0 == ([73, 68] : Bs))))
theorem Z66_eq (a0 : Bs) : Z66 a0 = some (Z66_q a0) := by
 unfold Z66 Z66_q
 all_goals rfl
def Z57_q (a0 : TDoc) (a1 : Bs) : Bool := on (Z60_q a0 a1) fun x3 => on (Z66_q a1) fun x5 => (((!x5) && x3.2) && (((decide (x3.1.FKind = (1 : Int))) || (decide (x3.1.FKind = (2 : Int)))) || (decide (x3.1.FKind = (3 : Int)))))
theorem Z57_eq (a0 : TDoc) (a1 : Bs) : Z57 a0 a1 = some (Z57_q a0 a1) := by
 unfold Z57 Z57_q
 refine Q.bindP (Z60_eq _ _) fun x3 hx_x3 => ?_
 refine Q.bindP (Z66_eq _) fun x5 hx_x5 => ?_
 all_goals rfl
def Z76_q (a0 : TDoc) (a1 : Bs) : Bs := on (Z57_q a0 a1) fun x4 => bif x4 then (a1) else (([] : Bs))
theorem Z76_eq (a0 : TDoc) (a1 : Bs) : Z76 a0 a1 = some (Z76_q a0 a1) := by
 unfold Z76 Z76_q
 refine Q.bindP (Z57_eq _ _) fun x4 hx_x4 => ?_
 refine Q.condP ?_ ?_
 ·all_goals rfl
 all_goals rfl
def Z77_q (a0 : Bs) (a1 : Bs) : Option TInput := on (Z32_q a1) fun x3 => (Z33_q x3).bind fun x4 => some (TInput.mk a0 x4 false TValue.zero (Sl.nil : Sl TDir))
theorem Z77_eq (a0 : Bs) (a1 : Bs) : Z77 a0 a1 = Z77_q a0 a1 := by
 unfold Z77 Z77_q
 refine Eq.trans ?_ (Q.some_bind _)
 refine Q.bindPO (Z32_eq _) fun x3 hx_x3 => ?_
 refine Q.bindO (Z33_eq _) fun x4 => ?_
 all_goals rfl
def Z70_q (a0 : Bs) (a1 : Int) (a2 : Bool) : Option ((Sl TInput) × Bool) := on (bif ((a0 == ([115, 107, 105, 112] : Bs))) then (((a0 == ([115, 107, 105, 112] : Bs)))) else (((a0 == ([105, 110, 99, 108, 117, 100, 101] : Bs))))) fun s9_6 => bif s9_6 then ((Z77_q ([105, 102] : Bs) ([66, 111, 111, 108, 101, 97, 110] : Bs)).bind fun x9 => some ((⟨false, [x9]⟩ : Sl TInput), true)) else (bif ((a0 == ([100, 101, 102, 101, 114] : Bs))) then ((Z77_q ([108, 97, 98, 101, 108] : Bs) ([83, 116, 114, 105, 110, 103] : Bs)).bind fun x13 => some ((⟨false, [x13]⟩ : Sl TInput), ((decide (a1 = (2 : Int))) || (decide (a1 = (3 : Int)))))) else (bif ((a0 == ([115, 116, 114, 101, 97, 109] : Bs))) then ((Z77_q ([108, 97, 98, 101, 108] : Bs) ([83, 116, 114, 105, 110, 103] : Bs)).bind fun x17 => (Z77_q ([105, 110, 105, 116, 105, 97, 108, 67, 111, 117, 110, 116] : Bs) ([73, 110, 116] : Bs)).bind fun x18 => some ((⟨false, [x17, x18]⟩ : Sl TInput), (((!decide (a1 = (2 : Int))) && (!decide (a1 = (3 : Int)))) && a2))) else (on (()) fun _ => some ((Sl.nil : Sl TInput), false))))
theorem Z70_eq (a0 : Bs) (a1 : Int) (a2 : Bool) : Z70 a0 a1 a2 = Z70_q a0 a1 a2 := by
 unfold Z70 Z70_q
 refine Eq.trans ?_ (Q.some_bind _)
 refine Q.wrapPO fun Kj5 hKj5 => ?_
 have hj5 : ∀ (s9_6 : Bool), Z70_j5 a0 a1 a2 s9_6 = Kj5 s9_6 := by
  intro s9_6
  refine Eq.trans ?_ (hKj5 _).symm
  unfold Z70_j5
  refine Q.condO ?_ ?_
  ·refine Q.bindO (Z77_eq _ _) fun x9 => ?_
   all_goals rfl
  refine Q.condO ?_ ?_
  ·refine Q.bindO (Z77_eq _ _) fun x13 => ?_
   all_goals rfl
  refine Q.condO ?_ ?_
  ·refine Q.bindO (Z77_eq _ _) fun x17 => ?_
   refine Q.bindO (Z77_eq _ _) fun x18 => ?_
   all_goals rfl
  refine Q.wrapPO fun Kj2 hKj2 => ?_
  have hj2 : Z70_j2   = Kj2 () := by
   refine Eq.trans ?_ (hKj2 _).symm
   unfold Z70_j2
   all_goals rfl
  all_goals exact hj2
 refine Q.condP ?_ ?_
 ·all_goals exact hj5 _
 all_goals exact hj5 _
def Z61_q6 (a1 : Bs) : List TInput → Unit ⊕ ((TInput × Bool))
 | [] => Sum.inl ()
 | h6 :: r6 => on (h6) fun x15 => bif ((x15.FName == a1)) then (on (h6) fun x18 => Sum.inr (x18, true)) else (Z61_q6 a1 (r6) )
theorem Z61_l6_qe {a0 : (Sl TInput)} {a1 : Bs}  (Kb6 : (Unit ⊕ ((TInput × Bool))) → Option (TInput × Bool)) (hend : ∀ (n6 : Nat) (s6_7 : Nat) (y8_l0 : TInput), Z61_j2   y8_l0 = Kb6 (Sum.inl ())) (hret : ∀ e : (TInput × Bool), some e = Kb6 (Sum.inr e)) : ∀ (n6 : Nat) (s6_7 : Nat) (y8_l0 : TInput), (0 < n6 ∧ a0.l.length < s6_7 + n6) → Z61_l6 a0 a1 n6 s6_7 y8_l0 = Kb6 (Z61_q6 a1 (a0.l.drop s6_7) ) := by
 intro n6
 induction n6 with
 | zero => intro s6_7 y8_l0 hn; exact absurd hn.1 (by omega)
 | succ n6 ih6 =>
  intro s6_7 y8_l0 hn
  rw [Z61_l6]
  by_cases hlt : s6_7 < a0.l.length
  ·obtain ⟨h6, hh6⟩ : ∃ x, a0.l[s6_7]? = some x := ⟨_, List.getElem?_eq_getElem hlt⟩
   rw [Q.drop_of hh6, Z61_q6]
   refine Q.condT (Q.ltT hlt) ?_
   refine Q.bindP hh6 fun x15 hx_x15 => ?_
   refine Q.condP ?_ ?_
   ·refine Q.bindP hh6 fun x18 hx_x18 => ?_
    all_goals exact hret _
   all_goals exact ih6 _ _ ⟨by omega, by omega⟩
  rw [List.drop_of_length_le (by omega), Z61_q6]
  refine Q.condF (Q.ltF hlt) ?_
  exact hend n6 s6_7 y8_l0
def Z61_q (a0 : (Sl TInput)) (a1 : Bs) : (TInput × Bool) := on (Z61_q6 a1 a0.l ) fun o6 => match o6 with | Sum.inl _ => (on (()) fun _ => ((TInput.mk ([] : Bs) TRef.zero false TValue.zero (Sl.nil : Sl TDir)), false)) | Sum.inr e6 => (e6)
theorem Z61_eq (a0 : (Sl TInput)) (a1 : Bs) : Z61 a0 a1 = some (Z61_q a0 a1) := by
 unfold Z61 Z61_q
 refine Q.wrapPP fun Kb6 hKb6 => ?_
 refine Z61_l6_qe  Kb6 ?_ ?_ _ _ _ ⟨Nat.succ_pos _, by omega⟩
 ·intro n6 s6_7 y8_l0
  refine Eq.trans ?_ (hKb6 _).symm
  try dsimp only
  refine Q.wrapPP fun Kj2 hKj2 => ?_
  have hj2 : ∀ (y3_l0 : TInput), Z61_j2  y3_l0 = Kj2 () := by
   intro y3_l0
   refine Eq.trans ?_ (hKj2 _).symm
   unfold Z61_j2
   all_goals rfl
  all_goals exact hj2 _
 intro e6
 refine Eq.trans ?_ (hKb6 _).symm
 try dsimp only
 all_goals rfl
def Z74_q5 (a1 : Bs) : List TArg → Unit ⊕ Bool
 | [] => Sum.inl ()
 | h5 :: r5 => on (h5) fun x13 => bif ((x13.FName == a1)) then (Sum.inr true) else (Z74_q5 a1 (r5) )
theorem Z74_l5_qe {a0 : (Sl TArg)} {a1 : Bs}  (Kb5 : (Unit ⊕ Bool) → Option Bool) (hend : ∀ (n5 : Nat) (s5_6 : Nat), Z74_j2    = Kb5 (Sum.inl ())) (hret : ∀ e : Bool, some e = Kb5 (Sum.inr e)) : ∀ (n5 : Nat) (s5_6 : Nat), (0 < n5 ∧ a0.l.length < s5_6 + n5) → Z74_l5 a0 a1 n5 s5_6 = Kb5 (Z74_q5 a1 (a0.l.drop s5_6) ) := by
 intro n5
 induction n5 with
 | zero => intro s5_6 hn; exact absurd hn.1 (by omega)
 | succ n5 ih5 =>
  intro s5_6 hn
  rw [Z74_l5]
  by_cases hlt : s5_6 < a0.l.length
  ·obtain ⟨h5, hh5⟩ : ∃ x, a0.l[s5_6]? = some x := ⟨_, List.getElem?_eq_getElem hlt⟩
   rw [Q.drop_of hh5, Z74_q5]
   refine Q.condT (Q.ltT hlt) ?_
   refine Q.bindP hh5 fun x13 hx_x13 => ?_
   refine Q.condP ?_ ?_
   ·all_goals exact hret _
   all_goals exact ih5 _ ⟨by omega, by omega⟩
  rw [List.drop_of_length_le (by omega), Z74_q5]
  refine Q.condF (Q.ltF hlt) ?_
  exact hend n5 s5_6
def Z74_q (a0 : (Sl TArg)) (a1 : Bs) : Bool := on (Z74_q5 a1 a0.l ) fun o5 => match o5 with | Sum.inl _ => (on (()) fun _ => false) | Sum.inr e5 => (e5)
theorem Z74_eq (a0 : (Sl TArg)) (a1 : Bs) : Z74 a0 a1 = some (Z74_q a0 a1) := by
 unfold Z74 Z74_q
 refine Q.wrapPP fun Kb5 hKb5 => ?_
 refine Z74_l5_qe  Kb5 ?_ ?_ _ _ ⟨Nat.succ_pos _, by omega⟩
 ·intro n5 s5_6
  refine Eq.trans ?_ (hKb5 _).symm
  try dsimp only
  refine Q.wrapPP fun Kj2 hKj2 => ?_
  have hj2 : Z74_j2   = Kj2 () := by
   refine Eq.trans ?_ (hKj2 _).symm
   unfold Z74_j2
   all_goals rfl
  all_goals exact hj2
 intro e5
 refine Eq.trans ?_ (hKb5 _).symm
 try dsimp only
 all_goals rfl
def Z64_q (a0 : TDoc) (a1 : Bs) : Bool := on (Z60_q a0 a1) fun x3 => on (Z66_q a1) fun x5 => (x5 || (x3.2 && (decide (x3.1.FKind = (4 : Int)))))
theorem Z64_eq (a0 : TDoc) (a1 : Bs) : Z64 a0 a1 = some (Z64_q a0 a1) := by
 unfold Z64 Z64_q
 refine Q.bindP (Z60_eq _ _) fun x3 hx_x3 => ?_
 refine Q.bindP (Z66_eq _) fun x5 hx_x5 => ?_
 all_goals rfl
def Z62_q (a0 : TDoc) (a1 : Bs) : Bool := on (Z60_q a0 a1) fun x3 => on (Z64_q a0 a1) fun x5 => (x5 || (x3.2 && (decide (x3.1.FKind = (5 : Int)))))
theorem Z62_eq (a0 : TDoc) (a1 : Bs) : Z62 a0 a1 = some (Z62_q a0 a1) := by
 unfold Z62 Z62_q
 refine Q.bindP (Z60_eq _ _) fun x3 hx_x3 => ?_
 refine Q.bindP (Z64_eq _ _) fun x5 hx_x5 => ?_
 all_goals rfl
def Z37_q (a0 : TRef) : Option TRef := (partC a0.FWraps (some (1 : Int)) none).bind fun x3 => (appC 8 (⟨false, []⟩ : Sl Int) x3).bind fun x4 => some (TRef.mk a0.FName x4)
theorem Z37_eq (a0 : TRef) : Z37 a0 = Z37_q a0 := by
 unfold Z37 Z37_q
 refine Eq.trans ?_ (Q.some_bind _)
 refine Q.bindO rfl fun x3 => ?_
 refine Q.bindO rfl fun x4 => ?_
 all_goals rfl
def Z34_q (a0 : TRef) : Option TRef := on (Z31_q a0) fun x4 => bif x4 then ((Z37_q a0).bind fun x7 => some x7) else ((appC 8 (⟨false, []⟩ : Sl Int) a0.FWraps).bind fun x9 => some (TRef.mk a0.FName x9))
theorem Z34_eq (a0 : TRef) : Z34 a0 = Z34_q a0 := by
 unfold Z34 Z34_q
 refine Eq.trans ?_ (Q.some_bind _)
 refine Q.bindPO (Z31_eq _) fun x4 hx_x4 => ?_
 refine Q.condO ?_ ?_
 ·refine Q.bindO (Z37_eq _) fun x7 => ?_
  all_goals rfl
 refine Q.bindO rfl fun x9 => ?_
 all_goals rfl
def Z30_q (a0 : TRef) : Option Bool := (Z34_q a0).bind fun x3 => on (bif (decide ((0 : Int) < ((x3.FWraps.l.length : Nat) : Int))) then ((x3.FWraps.l)[0]?.getD (0 : Int)) else (0 : Int)) fun x6 => some ((decide ((0 : Int) < ((x3.FWraps.l.length : Nat) : Int))) && (decide (x6 = (2 : Int))))
theorem Z30_eq (a0 : TRef) : Z30 a0 = Z30_q a0 := by
 unfold Z30 Z30_q
 refine Eq.trans ?_ (Q.some_bind _)
 refine Q.bindO (Z34_eq _) fun x3 => ?_
 refine Q.guardTO (fun hc => Q.getD_some (by simp at hc; omega)) fun x6 hx_x6 => ?_
 all_goals rfl
def Z29_q (a0 : TRef) : Option (TRef × Bool) := (Z30_q a0).bind fun x4 => bif (!x4) then (some ((TRef.mk ([] : Bs) (Sl.nil : Sl Int)), false)) else ((Z34_q a0).bind fun x8 => (Z37_q x8).bind fun x9 => some (x9, true))
theorem Z29_eq (a0 : TRef) : Z29 a0 = Z29_q a0 := by
 unfold Z29 Z29_q
 refine Eq.trans ?_ (Q.some_bind _)
 refine Q.bindO (Z30_eq _) fun x4 => ?_
 refine Q.condO ?_ ?_
 ·all_goals rfl
 refine Q.bindO (Z34_eq _) fun x8 => ?_
 refine Q.bindO (Z37_eq _) fun x9 => ?_
 all_goals rfl
def r14_Fits_q31 (a0 : TDoc) (x17 : (TRef × Bool)) (k_rec_127 : TDoc → TRef → TValue → Option Bool) : List TValue → Option (Unit ⊕ Bool)
 | [] => some (Sum.inl ())
 | h31 :: r31 => on (h31) fun x39 => (k_rec_127 a0 x17.1 x39).bind fun x40 => bif (!x40) then (some (Sum.inr false)) else (r14_Fits_q31 a0 x17 k_rec_127 (r31) )
theorem r14_Fits_l31_qe {a0 : TDoc} {a2 : TValue} {x17 : (TRef × Bool)} {k_rec_127 : TDoc → TRef → TValue → Option Bool}  (Kb31 : (Unit ⊕ Bool) → Option Bool) (hend : ∀ (n31 : Nat) (s9_32 : Nat), r14_Fits_j28    = Kb31 (Sum.inl ())) (hret : ∀ e : Bool, some e = Kb31 (Sum.inr e)) : ∀ (n31 : Nat) (s9_32 : Nat), (0 < n31 ∧ a2.FItems.l.length < s9_32 + n31) → r14_Fits_l31 a0 a2 x17 k_rec_127 n31 s9_32 = Option.bind (r14_Fits_q31 a0 x17 k_rec_127 (a2.FItems.l.drop s9_32) ) Kb31 := by
 intro n31
 induction n31 with
 | zero => intro s9_32 hn; exact absurd hn.1 (by omega)
 | succ n31 ih31 =>
  intro s9_32 hn
  rw [r14_Fits_l31]
  by_cases hlt : s9_32 < a2.FItems.l.length
  ·obtain ⟨h31, hh31⟩ : ∃ x, a2.FItems.l[s9_32]? = some x := ⟨_, List.getElem?_eq_getElem hlt⟩
   rw [Q.drop_of hh31, r14_Fits_q31]
   refine Q.condT (Q.ltT hlt) ?_
   refine Q.bindPO hh31 fun x39 hx_x39 => ?_
   refine Q.bindO rfl fun x40 => ?_
   refine Q.condO ?_ ?_
   ·all_goals exact hret _
   all_goals exact ih31 _ ⟨by omega, by omega⟩
  rw [List.drop_of_length_le (by omega), r14_Fits_q31]
  refine Q.condF (Q.ltF hlt) ?_
  exact hend n31 s9_32
def r14_named_q26 (a2 : TValue) : List TMember → Unit ⊕ Bool
 | [] => Sum.inl ()
 | h26 :: r26 => on (bif (decide (a2.FKind = (4 : Int))) then h26 else TMember.zero) fun x34 => bif ((decide (a2.FKind = (4 : Int))) && ((x34.FName == a2.FText))) then (Sum.inr true) else (r14_named_q26 a2 (r26) )
theorem r14_named_l26_qe {a2 : TValue} {x17 : (TDef × Bool)}  (Kb26 : (Unit ⊕ Bool) → Option Bool) (hend : ∀ (n26 : Nat) (s9_27 : Nat), r14_named_j23    = Kb26 (Sum.inl ())) (hret : ∀ e : Bool, some e = Kb26 (Sum.inr e)) : ∀ (n26 : Nat) (s9_27 : Nat), (0 < n26 ∧ x17.1.FMembers.l.length < s9_27 + n26) → r14_named_l26 a2 x17 n26 s9_27 = Kb26 (r14_named_q26 a2 (x17.1.FMembers.l.drop s9_27) ) := by
 intro n26
 induction n26 with
 | zero => intro s9_27 hn; exact absurd hn.1 (by omega)
 | succ n26 ih26 =>
  intro s9_27 hn
  rw [r14_named_l26]
  by_cases hlt : s9_27 < x17.1.FMembers.l.length
  ·obtain ⟨h26, hh26⟩ : ∃ x, x17.1.FMembers.l[s9_27]? = some x := ⟨_, List.getElem?_eq_getElem hlt⟩
   rw [Q.drop_of hh26, r14_named_q26]
   refine Q.condT (Q.ltT hlt) ?_
   refine Q.guardP hh26 fun x34 hx_x34 => ?_
   refine Q.condP ?_ ?_
   ·all_goals exact hret _
   all_goals exact ih26 _ ⟨by omega, by omega⟩
  rw [List.drop_of_length_le (by omega), r14_named_q26]
  refine Q.condF (Q.ltF hlt) ?_
  exact hend n26 s9_27
def Z78_q38 (a0 : TDoc) (a1 : TDef) (a2 : TValue) (k_rec_127 : TDoc → TRef → TValue → Option Bool) : List Bs → Nat → Option (Unit ⊕ Bool)
 | [], s7_39 => some (Sum.inl ())
 | h38 :: r38, s7_39 => bif (decide (((s7_39 : Nat) : Int) < ((a2.FItems.l.length : Nat) : Int))) then (on (h38) fun x46 => on (Z61_q a1.FInputs x46) fun x47 => guardO (!(!x47.2)) (a2.FItems.l[s7_39]?) TValue.zero fun x49 => guardO (!(!x47.2)) (k_rec_127 a0 x47.1.FType x49) false fun x50 => bif ((!x47.2) || (!x50)) then (some (Sum.inr false)) else (Z78_q38 a0 a1 a2 k_rec_127 (r38) (s7_39 + 1) )) else (some (Sum.inl ()))
theorem Z78_l38_qe {a0 : TDoc} {a1 : TDef} {a2 : TValue} {k_rec_127 : TDoc → TRef → TValue → Option Bool}  (Kb38 : (Unit ⊕ Bool) → Option Bool) (hend : ∀ (n38 : Nat) (s7_39 : Nat), Z78_j6 a1 a2   = Kb38 (Sum.inl ())) (hret : ∀ e : Bool, some e = Kb38 (Sum.inr e)) : ∀ (n38 : Nat) (s7_39 : Nat), (0 < n38 ∧ a2.FKeys.l.length < s7_39 + n38) → Z78_l38 a0 a1 a2 k_rec_127 n38 s7_39 = Option.bind (Z78_q38 a0 a1 a2 k_rec_127 (a2.FKeys.l.drop s7_39) s7_39 ) Kb38 := by
 intro n38
 induction n38 with
 | zero => intro s7_39 hn; exact absurd hn.1 (by omega)
 | succ n38 ih38 =>
  intro s7_39 hn
  rw [Z78_l38]
  by_cases hlt : s7_39 < a2.FKeys.l.length
  ·obtain ⟨h38, hh38⟩ : ∃ x, a2.FKeys.l[s7_39]? = some x := ⟨_, List.getElem?_eq_getElem hlt⟩
   rw [Q.drop_of hh38, Z78_q38]
   refine Q.condAT (Q.ltT hlt) ?_
   refine Q.condO ?_ ?_
   ·refine Q.bindPO hh38 fun x46 hx_x46 => ?_
    refine Q.bindPO (Z61_eq _ _) fun x47 hx_x47 => ?_
    refine Q.guardOO rfl fun x49 => ?_
    refine Q.guardOO rfl fun x50 => ?_
    refine Q.condO ?_ ?_
    ·all_goals exact hret _
    all_goals exact ih38 _ ⟨by omega, by omega⟩
   all_goals exact hend n38 s7_39
  rw [List.drop_of_length_le (by omega), Z78_q38]
  refine Q.condAF (Q.ltF hlt) ?_
  exact hend n38 s7_39
def Z78_q27 (h10 : TInput) : List Bs → Bool → Bool
 | [], s11_28 => s11_28
 | h27 :: r27, s11_28 => on (bif !s11_28 then h27 else ([] : Bs)) fun x35 => on (bif !s11_28 then h10 else TInput.zero) fun x36 => Z78_q27 h10 (r27) (s11_28 || ((x35 == x36.FName)))
theorem Z78_l27_qe {a1 : TDef} {a2 : TValue} {s10_11 : Nat} {k_next_10 : Nat → Option Bool} {h10 : TInput} (hh10 : a1.FInputs.l[s10_11]? = some h10) (Kb27 : (Bool) → Option Bool) (hend : ∀ (n27 : Nat) (s11_28 : Bool) (s12_29 : Nat), Z78_j18 a1 s10_11 k_next_10 s11_28 = Kb27 s11_28) : ∀ (n27 : Nat) (s11_28 : Bool) (s12_29 : Nat), (0 < n27 ∧ a2.FKeys.l.length < s12_29 + n27) → Z78_l27 a1 a2 s10_11 k_next_10 n27 s11_28 s12_29 = Kb27 (Z78_q27 h10 (a2.FKeys.l.drop s12_29) s11_28) := by
 intro n27
 induction n27 with
 | zero => intro s11_28 s12_29 hn; exact absurd hn.1 (by omega)
 | succ n27 ih27 =>
  intro s11_28 s12_29 hn
  rw [Z78_l27]
  by_cases hlt : s12_29 < a2.FKeys.l.length
  ·obtain ⟨h27, hh27⟩ : ∃ x, a2.FKeys.l[s12_29]? = some x := ⟨_, List.getElem?_eq_getElem hlt⟩
   rw [Q.drop_of hh27, Z78_q27]
   refine Q.condT (Q.ltT hlt) ?_
   refine Q.guardP hh27 fun x35 hx_x35 => ?_
   refine Q.guardP hh10 fun x36 hx_x36 => ?_
   all_goals exact ih27 _ _ ⟨by omega, by omega⟩
  rw [List.drop_of_length_le (by omega), Z78_q27]
  refine Q.condF (Q.ltF hlt) ?_
  exact hend n27 s11_28 s12_29
def Z78_q10 (a2 : TValue) : List TInput → Unit ⊕ Bool
 | [] => Sum.inl ()
 | h10 :: r10 => on (Z78_q27 h10 a2.FKeys.l false) fun s11_28 => on (s11_28) fun s11_19 => on (bif (!s11_19) then h10 else TInput.zero) fun x21 => on (bif ((!s11_19) && (!x21.FHas)) then h10 else TInput.zero) fun x22 => on (bif ((!s11_19) && (!x21.FHas)) then Z31_q x22.FType else false) fun x23 => bif (((!s11_19) && (!x21.FHas)) && x23) then (Sum.inr false) else (on (()) fun _ => Z78_q10 a2 (r10) )
theorem Z78_l10_qe {a1 : TDef} {a2 : TValue}  (Kb10 : (Unit ⊕ Bool) → Option Bool) (hend : ∀ (n10 : Nat) (s10_11 : Nat), Z78_j7    = Kb10 (Sum.inl ())) (hret : ∀ e : Bool, some e = Kb10 (Sum.inr e)) : ∀ (n10 : Nat) (s10_11 : Nat), (0 < n10 ∧ a1.FInputs.l.length < s10_11 + n10) → Z78_l10 a1 a2 n10 s10_11 = Kb10 (Z78_q10 a2 (a1.FInputs.l.drop s10_11) ) := by
 intro n10
 induction n10 with
 | zero => intro s10_11 hn; exact absurd hn.1 (by omega)
 | succ n10 ih10 =>
  intro s10_11 hn
  rw [Z78_l10]
  by_cases hlt : s10_11 < a1.FInputs.l.length
  ·obtain ⟨h10, hh10⟩ : ∃ x, a1.FInputs.l[s10_11]? = some x := ⟨_, List.getElem?_eq_getElem hlt⟩
   rw [Q.drop_of hh10, Z78_q10]
   refine Q.condT (Q.ltT hlt) ?_
   refine Q.wrapPP fun Kb27 hKb27 => ?_
   refine Z78_l27_qe hh10 Kb27 ?_ _ _ _ ⟨Nat.succ_pos _, by omega⟩
   intro n27 s11_28 s12_29
   refine Eq.trans ?_ (hKb27 _).symm
   refine Q.wrapPP fun Kj18 hKj18 => ?_
   have hj18 : ∀ (s11_19 : Bool), Z78_j18 a1 s10_11 (Z78_l10 a1 a2 n10) s11_19 = Kj18 s11_19 := by
    intro s11_19
    refine Eq.trans ?_ (hKj18 _).symm
    unfold Z78_j18
    refine Q.guardP hh10 fun x21 hx_x21 => ?_
    refine Q.guardP hh10 fun x22 hx_x22 => ?_
    refine Q.guardP (Z31_eq _) fun x23 hx_x23 => ?_
    refine Q.condP ?_ ?_
    ·all_goals exact hret _
    refine Q.wrapPP fun Kj16 hKj16 => ?_
    have hj16 : Z78_j16 s10_11 (Z78_l10 a1 a2 n10)  = Kj16 () := by
     refine Eq.trans ?_ (hKj16 _).symm
     unfold Z78_j16
     all_goals exact ih10 _ ⟨by omega, by omega⟩
    all_goals exact hj16
   all_goals exact hj18 _
  rw [List.drop_of_length_le (by omega), Z78_q10]
  refine Q.condF (Q.ltF hlt) ?_
  exact hend n10 s10_11
mutual
def r14_Fits_qn : Nat → TDoc → TRef → TValue → Option Bool
 | 0, _, _, _ => none
 | n + 1, a0, a1, a2 => bif (decide (a2.FKind = (7 : Int))) then (some true) else (on (Z62_q a0 a1.FName) fun x8 => bif (!x8) then (some false) else (bif (decide (a2.FKind = (0 : Int))) then (on (Z31_q a1) fun x15 => some (!x15)) else ((Z29_q a1).bind fun x17 => bif (!x17.2) then (((r14_named_qn n) a0 a1.FName a2).bind fun x22 => some x22) else (bif (!decide (a2.FKind = (5 : Int))) then (((r14_Fits_qn n) a0 x17.1 a2).bind fun x27 => some x27) else (Option.bind (r14_Fits_q31 a0 x17 (r14_Fits_qn n) a2.FItems.l ) fun o31 => match o31 with | Sum.inl _ => (on (()) fun _ => some true) | Sum.inr e31 => (some e31))))))
def r14_named_qn : Nat → TDoc → Bs → TValue → Option Bool
 | 0, _, _, _ => none
 | n + 1, a0, a1, a2 => bif ((a1 == ([73, 110, 116] : Bs))) then (some (((decide (a2.FKind = (2 : Int))) && (decide ((-2147483648 : Int) ≤ a2.FInt))) && (decide (a2.FInt < (2147483648 : Int))))) else (bif ((a1 == ([83, 116, 114, 105, 110, 103] : Bs))) then (some (decide (a2.FKind = (3 : Int)))) else (bif ((a1 == ([66, 111, 111, 108, 101, 97, 110] : Bs))) then (some (decide (a2.FKind = (1 : Int)))) else (bif ((a1 == ([73, 68] : Bs))) then (some ((decide (a2.FKind = (3 : Int))) || (decide (a2.FKind = (2 : Int))))) else (on (Z60_q a0 a1) fun x17 => bif (decide (x17.1.FKind = (5 : Int))) then (((Z78_qn n) a0 x17.1 a2).bind fun x22 => some x22) else (on (r14_named_q26 a2 x17.1.FMembers.l ) fun o26 => match o26 with | Sum.inl _ => (on (()) fun _ => some false) | Sum.inr e26 => (some e26))))))
def Z78_qn : Nat → TDoc → TDef → TValue → Option Bool
 | 0, _, _, _ => none
 | n + 1, a0, a1, a2 => bif (!decide (a2.FKind = (6 : Int))) then (some false) else (Option.bind (Z78_q38 a0 a1 a2 (r14_Fits_qn n) a2.FKeys.l 0 ) fun o38 => match o38 with | Sum.inl _ => (on (()) fun _ => on (Z78_q10 a2 a1.FInputs.l ) fun o10 => match o10 with | Sum.inl _ => (on (()) fun _ => some true) | Sum.inr e10 => (some e10)) | Sum.inr e38 => (some e38))
end
theorem r14_Fits_qall : ∀ n : Nat, r14_Fits_n n = r14_Fits_qn n ∧ r14_named_n n = r14_named_qn n ∧ Z78_n n = Z78_qn n := by
 intro n
 induction n with
 | zero => exact ⟨(by funext a0 a1 a2; first | rfl | (rw [r14_Fits_n, r14_Fits_qn])), (by funext a0 a1 a2; first | rfl | (rw [r14_named_n, r14_named_qn])), (by funext a0 a1 a2; first | rfl | (rw [Z78_n, Z78_qn]))⟩
 | succ n ih =>
  refine ⟨?_, ?_, ?_⟩
  ·funext a0 a1 a2
   refine Eq.trans ?_ (Q.some_bind _)
   rw [r14_Fits_n, r14_Fits_qn]
   try rw [ih.1]
   try rw [ih.2.1]
   try rw [ih.2.2]
   refine Q.condO ?_ ?_
   ·all_goals rfl
   refine Q.bindPO (Z62_eq _ _) fun x8 hx_x8 => ?_
   refine Q.condO ?_ ?_
   ·all_goals rfl
   refine Q.condO ?_ ?_
   ·refine Q.bindPO (Z31_eq _) fun x15 hx_x15 => ?_
    all_goals rfl
   refine Q.bindO (Z29_eq _) fun x17 => ?_
   refine Q.condO ?_ ?_
   ·refine Q.bindO rfl fun x22 => ?_
    all_goals rfl
   refine Q.condO ?_ ?_
   ·refine Q.bindO rfl fun x27 => ?_
    all_goals rfl
   refine Q.wrapOO fun Kb31 hKb31 => ?_
   refine r14_Fits_l31_qe  Kb31 ?_ ?_ _ _ ⟨Nat.succ_pos _, by omega⟩
   ·intro n31 s9_32
    refine Eq.trans ?_ (hKb31 _).symm
    try dsimp only
    refine Q.wrapPO fun Kj28 hKj28 => ?_
    have hj28 : r14_Fits_j28   = Kj28 () := by
     refine Eq.trans ?_ (hKj28 _).symm
     unfold r14_Fits_j28
     all_goals rfl
    all_goals exact hj28
   intro e31
   refine Eq.trans ?_ (hKb31 _).symm
   try dsimp only
   all_goals rfl
  ·funext a0 a1 a2
   refine Eq.trans ?_ (Q.some_bind _)
   rw [r14_named_n, r14_named_qn]
   try rw [ih.1]
   try rw [ih.2.1]
   try rw [ih.2.2]
   refine Q.condO ?_ ?_
   ·all_goals rfl
   refine Q.condO ?_ ?_
   ·all_goals rfl
   refine Q.condO ?_ ?_
   ·all_goals rfl
   refine Q.condO ?_ ?_
   ·all_goals rfl
   refine Q.bindPO (Z60_eq _ _) fun x17 hx_x17 => ?_
   refine Q.condO ?_ ?_
   ·refine Q.bindO rfl fun x22 => ?_
    all_goals rfl
   refine Q.wrapPO fun Kb26 hKb26 => ?_
   refine r14_named_l26_qe  Kb26 ?_ ?_ _ _ ⟨Nat.succ_pos _, by omega⟩
   ·intro n26 s9_27
    refine Eq.trans ?_ (hKb26 _).symm
    try dsimp only
    refine Q.wrapPO fun Kj23 hKj23 => ?_
    have hj23 : r14_named_j23   = Kj23 () := by
     refine Eq.trans ?_ (hKj23 _).symm
     unfold r14_named_j23
     all_goals rfl
    all_goals exact hj23
   intro e26
   refine Eq.trans ?_ (hKb26 _).symm
   try dsimp only
   all_goals rfl
  funext a0 a1 a2
  refine Eq.trans ?_ (Q.some_bind _)
  rw [Z78_n, Z78_qn]
  try rw [ih.1]
  try rw [ih.2.1]
  try rw [ih.2.2]
  refine Q.condO ?_ ?_
  ·all_goals rfl
  refine Q.wrapOO fun Kb38 hKb38 => ?_
  refine Z78_l38_qe  Kb38 ?_ ?_ _ _ ⟨Nat.succ_pos _, by omega⟩
  ·intro n38 s7_39
   refine Eq.trans ?_ (hKb38 _).symm
   try dsimp only
   refine Q.wrapPO fun Kj6 hKj6 => ?_
   have hj6 : Z78_j6 a1 a2  = Kj6 () := by
    refine Eq.trans ?_ (hKj6 _).symm
    unfold Z78_j6
    refine Q.wrapPO fun Kb10 hKb10 => ?_
    refine Z78_l10_qe  Kb10 ?_ ?_ _ _ ⟨Nat.succ_pos _, by omega⟩
    ·intro n10 s10_11
     refine Eq.trans ?_ (hKb10 _).symm
     try dsimp only
     refine Q.wrapPO fun Kj7 hKj7 => ?_
     have hj7 : Z78_j7   = Kj7 () := by
      refine Eq.trans ?_ (hKj7 _).symm
      unfold Z78_j7
      all_goals rfl
     all_goals exact hj7
    intro e10
    refine Eq.trans ?_ (hKb10 _).symm
    try dsimp only
    all_goals rfl
   all_goals exact hj6
  intro e38
  refine Eq.trans ?_ (hKb38 _).symm
  try dsimp only
  all_goals rfl
def r14_Fits_q (a0 : TDoc) (a1 : TRef) (a2 : TValue) : Option Bool := r14_Fits_qn F0 a0 a1 a2
theorem r14_Fits_eq (a0 : TDoc) (a1 : TRef) (a2 : TValue) : r14_Fits a0 a1 a2 = r14_Fits_q a0 a1 a2 := by
 unfold r14_Fits r14_Fits_q; rw [(r14_Fits_qall F0).1]
def Z81_q (a0 : TValue) : Bool := (((decide (a0.FKind = (7 : Int))) || ((decide (a0.FKind = (3 : Int))) && ((a0.FText == ([] : Bs))))) || ((decide (a0.FKind = (2 : Int))) && (decide (a0.FInt < (0 : Int)))))
theorem Z81_eq (a0 : TValue) : Z81 a0 = some (Z81_q a0) := by
 unfold Z81 Z81_q
 all_goals rfl
def Z71_q27 (a0 : TDoc) (a1 : (Sl TInput)) (a2 : (Sl TArg)) (a3 : Bool) (a4 : Bs) : List TArg → Nat → (Sl TFault) → Option ((Sl TFault))
 | [], s12_29, s11_28 => some s11_28
 | h27 :: r27, s12_29, s11_28 => on (h27) fun x37 => on (Z61_q a1 x37.FName) fun x38 => on (bif !(!x38.2) then (⟨a2.nl, a2.l.take s12_29⟩ : Sl TArg) else (Sl.nil : Sl TArg)) fun x40 => on (bif !(!x38.2) then h27 else TArg.zero) fun x41 => on (bif !(!x38.2) then Z74_q x40 x41.FName else false) fun x42 => Option.bind (bif ((!x38.2) || x42) then ((appC 24 s11_28 (⟨false, [(TFault.mk (22 : Int) a4)]⟩ : Sl TFault)).bind fun x44 => some x44) else (on (h27) fun x46 => (r14_Fits_q a0 x38.1.FType x46.FValue).bind fun x47 => on (bif (!(!x47) && a3) then h27 else TArg.zero) fun x48 => on (bif (!(!x47) && a3) then Z81_q x48.FValue else false) fun x49 => bif ((!x47) || (a3 && x49)) then ((appC 24 s11_28 (⟨false, [(TFault.mk (23 : Int) a4)]⟩ : Sl TFault)).bind fun x51 => some x51) else (some s11_28))) fun s11_35 => Z71_q27 a0 a1 a2 a3 a4 (r27) (s12_29 + 1) s11_35
theorem Z71_l27_qe {a0 : TDoc} {a1 : (Sl TInput)} {a2 : (Sl TArg)} {a3 : Bool} {a4 : Bs}  (Kb27 : ((Sl TFault)) → Option (Sl TFault)) (hend : ∀ (n27 : Nat) (s11_28 : (Sl TFault)) (s12_29 : Nat), Z71_j3 a1 a2 a4  s11_28 = Kb27 s11_28) : ∀ (n27 : Nat) (s11_28 : (Sl TFault)) (s12_29 : Nat), (0 < n27 ∧ a2.l.length < s12_29 + n27) → Z71_l27 a0 a1 a2 a3 a4 n27 s11_28 s12_29 = Option.bind (Z71_q27 a0 a1 a2 a3 a4 (a2.l.drop s12_29) s12_29 s11_28) Kb27 := by
 intro n27
 induction n27 with
 | zero => intro s11_28 s12_29 hn; exact absurd hn.1 (by omega)
 | succ n27 ih27 =>
  intro s11_28 s12_29 hn
  rw [Z71_l27]
  by_cases hlt : s12_29 < a2.l.length
  ·obtain ⟨h27, hh27⟩ : ∃ x, a2.l[s12_29]? = some x := ⟨_, List.getElem?_eq_getElem hlt⟩
   rw [Q.drop_of hh27, Z71_q27]
   refine Q.condT (Q.ltT hlt) ?_
   refine Q.bindPO hh27 fun x37 hx_x37 => ?_
   refine Q.bindPO (Z61_eq _ _) fun x38 hx_x38 => ?_
   refine Q.guardPO (Q.partC_take (by omega)) fun x40 hx_x40 => ?_
   refine Q.guardPO hh27 fun x41 hx_x41 => ?_
   refine Q.guardPO (Z74_eq _ _) fun x42 hx_x42 => ?_
   refine Q.wrapOO fun Kj34 hKj34 => ?_
   have hj34 : ∀ (s11_35 : (Sl TFault)), Z71_j34 s12_29 (Z71_l27 a0 a1 a2 a3 a4 n27) s11_35 = Kj34 s11_35 := by
    intro s11_35
    refine Eq.trans ?_ (hKj34 _).symm
    unfold Z71_j34
    all_goals exact ih27 _ _ ⟨by omega, by omega⟩
   refine Q.condO ?_ ?_
   ·refine Q.bindO rfl fun x44 => ?_
    all_goals exact hj34 _
   refine Q.bindPO hh27 fun x46 hx_x46 => ?_
   refine Q.bindO (r14_Fits_eq _ _ _) fun x47 => ?_
   refine Q.guardPO hh27 fun x48 hx_x48 => ?_
   refine Q.guardPO (Z81_eq _) fun x49 hx_x49 => ?_
   refine Q.condO ?_ ?_
   ·refine Q.bindO rfl fun x51 => ?_
    all_goals exact hj34 _
   all_goals exact hj34 _
  rw [List.drop_of_length_le (by omega), Z71_q27]
  refine Q.condF (Q.ltF hlt) ?_
  exact hend n27 s11_28 s12_29
def Z71_q9 (a2 : (Sl TArg)) (a4 : Bs) : List TInput → (Sl TFault) → Option ((Sl TFault))
 | [], s11_10 => some s11_10
 | h9 :: r9, s11_10 => on (h9) fun x19 => on (Z31_q x19.FType) fun x20 => on (bif x20 then h9 else TInput.zero) fun x21 => on (bif (x20 && (!x21.FHas)) then h9 else TInput.zero) fun x22 => on (bif (x20 && (!x21.FHas)) then Z74_q a2 x22.FName else false) fun x23 => Option.bind (bif ((x20 && (!x21.FHas)) && (!x23)) then ((appC 24 s11_10 (⟨false, [(TFault.mk (22 : Int) a4)]⟩ : Sl TFault)).bind fun x25 => some x25) else (some s11_10)) fun s11_17 => Z71_q9 a2 a4 (r9) s11_17
theorem Z71_l9_qe {a1 : (Sl TInput)} {a2 : (Sl TArg)} {a4 : Bs}  (Kb9 : ((Sl TFault)) → Option (Sl TFault)) (hend : ∀ (n9 : Nat) (s11_10 : (Sl TFault)) (s15_11 : Nat), Z71_j5   s11_10 = Kb9 s11_10) : ∀ (n9 : Nat) (s11_10 : (Sl TFault)) (s15_11 : Nat), (0 < n9 ∧ a1.l.length < s15_11 + n9) → Z71_l9 a1 a2 a4 n9 s11_10 s15_11 = Option.bind (Z71_q9 a2 a4 (a1.l.drop s15_11) s11_10) Kb9 := by
 intro n9
 induction n9 with
 | zero => intro s11_10 s15_11 hn; exact absurd hn.1 (by omega)
 | succ n9 ih9 =>
  intro s11_10 s15_11 hn
  rw [Z71_l9]
  by_cases hlt : s15_11 < a1.l.length
  ·obtain ⟨h9, hh9⟩ : ∃ x, a1.l[s15_11]? = some x := ⟨_, List.getElem?_eq_getElem hlt⟩
   rw [Q.drop_of hh9, Z71_q9]
   refine Q.condT (Q.ltT hlt) ?_
   refine Q.bindPO hh9 fun x19 hx_x19 => ?_
   refine Q.bindPO (Z31_eq _) fun x20 hx_x20 => ?_
   refine Q.guardPO hh9 fun x21 hx_x21 => ?_
   refine Q.guardPO hh9 fun x22 hx_x22 => ?_
   refine Q.guardPO (Z74_eq _ _) fun x23 hx_x23 => ?_
   refine Q.wrapOO fun Kj16 hKj16 => ?_
   have hj16 : ∀ (s11_17 : (Sl TFault)), Z71_j16 s15_11 (Z71_l9 a1 a2 a4 n9) s11_17 = Kj16 s11_17 := by
    intro s11_17
    refine Eq.trans ?_ (hKj16 _).symm
    unfold Z71_j16
    all_goals exact ih9 _ _ ⟨by omega, by omega⟩
   refine Q.condO ?_ ?_
   ·refine Q.bindO rfl fun x25 => ?_
    all_goals exact hj16 _
   all_goals exact hj16 _
  rw [List.drop_of_length_le (by omega), Z71_q9]
  refine Q.condF (Q.ltF hlt) ?_
  exact hend n9 s11_10 s15_11
def Z71_q (a0 : TDoc) (a1 : (Sl TInput)) (a2 : (Sl TArg)) (a3 : Bool) (a4 : Bs) : Option (Sl TFault) := Option.bind (Z71_q27 a0 a1 a2 a3 a4 a2.l 0 (Sl.nil : Sl TFault)) fun s11_28 => on (s11_28) fun s11_4 => Option.bind (Z71_q9 a2 a4 a1.l s11_4) fun s11_10 => on (s11_10) fun s11_6 => some s11_6
theorem Z71_eq (a0 : TDoc) (a1 : (Sl TInput)) (a2 : (Sl TArg)) (a3 : Bool) (a4 : Bs) : Z71 a0 a1 a2 a3 a4 = Z71_q a0 a1 a2 a3 a4 := by
 unfold Z71 Z71_q
 refine Eq.trans ?_ (Q.some_bind _)
 refine Q.wrapOO fun Kb27 hKb27 => ?_
 refine Z71_l27_qe  Kb27 ?_ _ _ _ ⟨Nat.succ_pos _, by omega⟩
 intro n27 s11_28 s12_29
 refine Eq.trans ?_ (hKb27 _).symm
 refine Q.wrapPO fun Kj3 hKj3 => ?_
 have hj3 : ∀ (s11_4 : (Sl TFault)), Z71_j3 a1 a2 a4 s11_4 = Kj3 s11_4 := by
  intro s11_4
  refine Eq.trans ?_ (hKj3 _).symm
  unfold Z71_j3
  refine Q.wrapOO fun Kb9 hKb9 => ?_
  refine Z71_l9_qe  Kb9 ?_ _ _ _ ⟨Nat.succ_pos _, by omega⟩
  intro n9 s11_10 s15_11
  refine Eq.trans ?_ (hKb9 _).symm
  refine Q.wrapPO fun Kj5 hKj5 => ?_
  have hj5 : ∀ (s11_6 : (Sl TFault)), Z71_j5  s11_6 = Kj5 s11_6 := by
   intro s11_6
   refine Eq.trans ?_ (hKj5 _).symm
   unfold Z71_j5
   all_goals rfl
  all_goals exact hj5 _
 all_goals exact hj3 _
end Go.Proofs

namespace Go.Proofs
open Go Go.Ab
def Z72_q30 (a1 : TSel) (x17 : TDir) : Nat → Nat → Bool → Option (Bool)
 | 0, s14_32, s13_31 => some s13_31
 | r30 + 1, s14_32, s13_31 => guardO (s13_31) (a1.FDirs.l[s14_32]?) TDir.zero fun x37 => Z72_q30 a1 x17 (r30) (s14_32 + 1) (s13_31 && (!(x37.FName == x17.FName)))
theorem Z72_l30_qe {a0 : TDoc} {a1 : TSel} {a3 : Bs} {s9_8 : (Sl TFault)} {s10_9 : Nat} {x17 : TDir} {x19 : ((Sl TInput) × Bool)} {k_next_7 : (Sl TFault) → Nat → Option (Sl TFault)}  (Kb30 : (Bool) → Option (Sl TFault)) (hend : ∀ (n30 : Nat) (s13_31 : Bool) (s14_32 : Nat), Z72_j20 a0 a3 s9_8 s10_9 x17 x19 k_next_7 s13_31 = Kb30 s13_31) : ∀ (n30 : Nat) (s13_31 : Bool) (s14_32 : Nat), (0 < n30 ∧ s10_9 < s14_32 + n30) → Z72_l30 a0 a1 a3 s9_8 s10_9 x17 x19 k_next_7 n30 s13_31 s14_32 = Option.bind (Z72_q30 a1 x17 (s10_9 - s14_32) s14_32 s13_31) Kb30 := by
 intro n30
 induction n30 with
 | zero => intro s13_31 s14_32 hn; exact absurd hn.1 (by omega)
 | succ n30 ih30 =>
  intro s13_31 s14_32 hn
  rw [Z72_l30]
  by_cases hlt : s14_32 < s10_9
  ·rw [show s10_9 - s14_32 = (s10_9 - (s14_32 + 1)) + 1 by omega, Z72_q30]
   refine Q.condT (Q.ltT hlt) ?_
   refine Q.guardOO rfl fun x37 => ?_
   all_goals exact ih30 _ _ ⟨by omega, by omega⟩
  rw [show s10_9 - s14_32 = 0 by omega, Z72_q30]
  refine Q.condF (Q.ltF hlt) ?_
  exact hend n30 s13_31 s14_32
def Z72_q7 (a0 : TDoc) (a1 : TSel) (a2 : Bool) (a3 : Bs) : List TDir → Nat → (Sl TFault) → Option ((Sl TFault))
 | [], s10_9, s9_8 => some s9_8
 | h7 :: r7, s10_9, s9_8 => on (h7) fun x17 => (Z70_q x17.FName a1.FKind a2).bind fun x19 => Option.bind (Z72_q30 a1 x17 s10_9 0 x19.2) fun s13_31 => on (s13_31) fun s13_21 => Option.bind (bif (!s13_21) then ((appC 24 s9_8 (⟨false, [(TFault.mk (29 : Int) a3)]⟩ : Sl TFault)).bind fun x26 => some x26) else ((Z71_q a0 x19.1 x17.FArgs (((x17.FName == ([100, 101, 102, 101, 114] : Bs))) || ((x17.FName == ([115, 116, 114, 101, 97, 109] : Bs)))) a3).bind fun x27 => (appC 24 s9_8 x27).bind fun x28 => some x28)) fun s9_15 => Z72_q7 a0 a1 a2 a3 (r7) (s10_9 + 1) s9_15
theorem Z72_l7_qe {a0 : TDoc} {a1 : TSel} {a2 : Bool} {a3 : Bs}  (Kb7 : ((Sl TFault)) → Option (Sl TFault)) (hend : ∀ (n7 : Nat) (s9_8 : (Sl TFault)) (s10_9 : Nat), Z72_j3   s9_8 = Kb7 s9_8) : ∀ (n7 : Nat) (s9_8 : (Sl TFault)) (s10_9 : Nat), (0 < n7 ∧ a1.FDirs.l.length < s10_9 + n7) → Z72_l7 a0 a1 a2 a3 n7 s9_8 s10_9 = Option.bind (Z72_q7 a0 a1 a2 a3 (a1.FDirs.l.drop s10_9) s10_9 s9_8) Kb7 := by
 intro n7
 induction n7 with
 | zero => intro s9_8 s10_9 hn; exact absurd hn.1 (by omega)
 | succ n7 ih7 =>
  intro s9_8 s10_9 hn
  rw [Z72_l7]
  by_cases hlt : s10_9 < a1.FDirs.l.length
  ·obtain ⟨h7, hh7⟩ : ∃ x, a1.FDirs.l[s10_9]? = some x := ⟨_, List.getElem?_eq_getElem hlt⟩
   rw [Q.drop_of hh7, Z72_q7]
   refine Q.condT (Q.ltT hlt) ?_
   refine Q.bindPO hh7 fun x17 hx_x17 => ?_
   refine Q.bindO (Z70_eq _ _ _) fun x19 => ?_
   refine Q.wrapOO fun Kb30 hKb30 => ?_
   refine Z72_l30_qe  Kb30 ?_ _ _ _ ⟨Nat.succ_pos _, by omega⟩
   intro n30 s13_31 s14_32
   refine Eq.trans ?_ (hKb30 _).symm
   refine Q.wrapPO fun Kj20 hKj20 => ?_
   have hj20 : ∀ (s13_21 : Bool), Z72_j20 a0 a3 s9_8 s10_9 x17 x19 (Z72_l7 a0 a1 a2 a3 n7) s13_21 = Kj20 s13_21 := by
    intro s13_21
    refine Eq.trans ?_ (hKj20 _).symm
    unfold Z72_j20
    refine Q.wrapOO fun Kj14 hKj14 => ?_
    have hj14 : ∀ (s9_15 : (Sl TFault)), Z72_j14 s10_9 (Z72_l7 a0 a1 a2 a3 n7) s9_15 = Kj14 s9_15 := by
     intro s9_15
     refine Eq.trans ?_ (hKj14 _).symm
     unfold Z72_j14
     all_goals exact ih7 _ _ ⟨by omega, by omega⟩
    refine Q.condO ?_ ?_
    ·refine Q.bindO rfl fun x26 => ?_
     all_goals exact hj14 _
    refine Q.bindO (Z71_eq _ _ _ _ _) fun x27 => ?_
    refine Q.bindO rfl fun x28 => ?_
    all_goals exact hj14 _
   all_goals exact hj20 _
  rw [List.drop_of_length_le (by omega), Z72_q7]
  refine Q.condF (Q.ltF hlt) ?_
  exact hend n7 s9_8 s10_9
def Z72_q (a0 : TDoc) (a1 : TSel) (a2 : Bool) (a3 : Bs) : Option (Sl TFault) := Option.bind (Z72_q7 a0 a1 a2 a3 a1.FDirs.l 0 (Sl.nil : Sl TFault)) fun s9_8 => on (s9_8) fun s9_4 => some s9_4
theorem Z72_eq (a0 : TDoc) (a1 : TSel) (a2 : Bool) (a3 : Bs) : Z72 a0 a1 a2 a3 = Z72_q a0 a1 a2 a3 := by
 unfold Z72 Z72_q
 refine Eq.trans ?_ (Q.some_bind _)
 refine Q.wrapOO fun Kb7 hKb7 => ?_
 refine Z72_l7_qe  Kb7 ?_ _ _ _ ⟨Nat.succ_pos _, by omega⟩
 intro n7 s9_8 s10_9
 refine Eq.trans ?_ (hKb7 _).symm
 refine Q.wrapPO fun Kj3 hKj3 => ?_
 have hj3 : ∀ (s9_4 : (Sl TFault)), Z72_j3  s9_4 = Kj3 s9_4 := by
  intro s9_4
  refine Eq.trans ?_ (hKj3 _).symm
  unfold Z72_j3
  all_goals rfl
 all_goals exact hj3 _
def Z20_q (a0 : Bs) : Option Bool := guardO ((decide ((2 : Int) ≤ ((a0.length : Nat) : Int)))) (a0[0]?) (0 : UInt8) fun x4 => guardO (((decide ((2 : Int) ≤ ((a0.length : Nat) : Int))) && (decide (((x4.toNat : Nat) : Int) = (95 : Int))))) (a0[1]?) (0 : UInt8) fun x5 => some (((decide ((2 : Int) ≤ ((a0.length : Nat) : Int))) && (decide (((x4.toNat : Nat) : Int) = (95 : Int)))) && (decide (((x5.toNat : Nat) : Int) = (95 : Int))))
theorem Z20_eq (a0 : Bs) : Z20 a0 = Z20_q a0 := by
 unfold Z20 Z20_q
 refine Eq.trans ?_ (Q.some_bind _)
 refine Q.guardOO rfl fun x4 => ?_
 refine Q.guardOO rfl fun x5 => ?_
 all_goals rfl
def Z59_q6 (a1 : Bs) : List TField → Unit ⊕ ((TField × Bool))
 | [] => Sum.inl ()
 | h6 :: r6 => on (h6) fun x15 => bif ((x15.FName == a1)) then (on (h6) fun x18 => Sum.inr (x18, true)) else (Z59_q6 a1 (r6) )
theorem Z59_l6_qe {a0 : TDef} {a1 : Bs}  (Kb6 : (Unit ⊕ ((TField × Bool))) → Option (TField × Bool)) (hend : ∀ (n6 : Nat) (s6_7 : Nat) (y8_l0 : TField), Z59_j2   y8_l0 = Kb6 (Sum.inl ())) (hret : ∀ e : (TField × Bool), some e = Kb6 (Sum.inr e)) : ∀ (n6 : Nat) (s6_7 : Nat) (y8_l0 : TField), (0 < n6 ∧ a0.FFields.l.length < s6_7 + n6) → Z59_l6 a0 a1 n6 s6_7 y8_l0 = Kb6 (Z59_q6 a1 (a0.FFields.l.drop s6_7) ) := by
 intro n6
 induction n6 with
 | zero => intro s6_7 y8_l0 hn; exact absurd hn.1 (by omega)
 | succ n6 ih6 =>
  intro s6_7 y8_l0 hn
  rw [Z59_l6]
  by_cases hlt : s6_7 < a0.FFields.l.length
  ·obtain ⟨h6, hh6⟩ : ∃ x, a0.FFields.l[s6_7]? = some x := ⟨_, List.getElem?_eq_getElem hlt⟩
   rw [Q.drop_of hh6, Z59_q6]
   refine Q.condT (Q.ltT hlt) ?_
   refine Q.bindP hh6 fun x15 hx_x15 => ?_
   refine Q.condP ?_ ?_
   ·refine Q.bindP hh6 fun x18 hx_x18 => ?_
    all_goals exact hret _
   all_goals exact ih6 _ _ ⟨by omega, by omega⟩
  rw [List.drop_of_length_le (by omega), Z59_q6]
  refine Q.condF (Q.ltF hlt) ?_
  exact hend n6 s6_7 y8_l0
def Z59_q (a0 : TDef) (a1 : Bs) : (TField × Bool) := on (Z59_q6 a1 a0.FFields.l ) fun o6 => match o6 with | Sum.inl _ => (on (()) fun _ => ((TField.mk ([] : Bs) (Sl.nil : Sl TInput) TRef.zero (Sl.nil : Sl TDir)), false)) | Sum.inr e6 => (e6)
theorem Z59_eq (a0 : TDef) (a1 : Bs) : Z59 a0 a1 = some (Z59_q a0 a1) := by
 unfold Z59 Z59_q
 refine Q.wrapPP fun Kb6 hKb6 => ?_
 refine Z59_l6_qe  Kb6 ?_ ?_ _ _ _ ⟨Nat.succ_pos _, by omega⟩
 ·intro n6 s6_7 y8_l0
  refine Eq.trans ?_ (hKb6 _).symm
  try dsimp only
  refine Q.wrapPP fun Kj2 hKj2 => ?_
  have hj2 : ∀ (y3_l0 : TField), Z59_j2  y3_l0 = Kj2 () := by
   intro y3_l0
   refine Eq.trans ?_ (hKj2 _).symm
   unfold Z59_j2
   all_goals rfl
  all_goals exact hj2 _
 intro e6
 refine Eq.trans ?_ (hKb6 _).symm
 try dsimp only
 all_goals rfl
def Z69_q (a0 : TDoc) (a1 : Bs) (a2 : Bs) : Option (TRef × Bool) := on (Z57_q a0 a1) fun x4 => bif (!x4) then (some ((TRef.mk ([] : Bs) (Sl.nil : Sl Int)), false)) else (bif ((a2 == ([95, 95, 116, 121, 112, 101, 110, 97, 109, 101] : Bs))) then (on (Z32_q ([83, 116, 114, 105, 110, 103] : Bs)) fun x11 => (Z33_q x11).bind fun x12 => some (x12, true)) else (on (Z60_q a0 a1) fun x14 => on (Z59_q x14.1 a2) fun x16 => some (x16.1.FType, x16.2)))
theorem Z69_eq (a0 : TDoc) (a1 : Bs) (a2 : Bs) : Z69 a0 a1 a2 = Z69_q a0 a1 a2 := by
 unfold Z69 Z69_q
 refine Eq.trans ?_ (Q.some_bind _)
 refine Q.bindPO (Z57_eq _ _) fun x4 hx_x4 => ?_
 refine Q.condO ?_ ?_
 ·all_goals rfl
 refine Q.condO ?_ ?_
 ·refine Q.bindPO (Z32_eq _) fun x11 hx_x11 => ?_
  refine Q.bindO (Z33_eq _) fun x12 => ?_
  all_goals rfl
 refine Q.bindPO (Z60_eq _ _) fun x14 hx_x14 => ?_
 refine Q.bindPO (Z59_eq _ _) fun x16 hx_x16 => ?_
 all_goals rfl
def Z73_q (a0 : TDoc) (a1 : TSel) (a2 : Bs) (a3 : Bs) : Option ((Sl TFault) × Bs) := guardO ((!(a1.FAlias == ([] : Bs)))) (Z20_q a1.FAlias) false fun x42 => Option.bind (bif ((!(a1.FAlias == ([] : Bs))) && x42) then ((appC 24 (Sl.nil : Sl TFault) (⟨false, [(TFault.mk (6 : Int) a3)]⟩ : Sl TFault)).bind fun x44 => some x44) else (some (Sl.nil : Sl TFault))) fun s10_4 => (Z69_q a0 a2 a1.FName).bind fun x6 => bif (!x6.2) then (Option.bind (bif (!(a2 == ([] : Bs))) then ((appC 24 s10_4 (⟨false, [(TFault.mk (20 : Int) a3)]⟩ : Sl TFault)).bind fun x17 => some x17) else (some s10_4)) fun s10_11 => (Z72_q a0 a1 true a3).bind fun x13 => (appC 24 s10_11 x13).bind fun x14 => some (x14, ([] : Bs))) else (on (Z64_q a0 x6.1.FName) fun x37 => on (bif !(x37 && (decide ((0 : Int) < ((a1.FSels.l.length : Nat) : Int)))) then Z57_q a0 x6.1.FName else false) fun x38 => Option.bind (bif ((x37 && (decide ((0 : Int) < ((a1.FSels.l.length : Nat) : Int)))) || (x38 && (decide (((a1.FSels.l.length : Nat) : Int) = (0 : Int))))) then ((appC 24 s10_4 (⟨false, [(TFault.mk (21 : Int) a3)]⟩ : Sl TFault)).bind fun x40 => some x40) else (some s10_4)) fun s10_19 => on (Z60_q a0 a2) fun x21 => on (Z59_q x21.1 a1.FName) fun x23 => on (bif ((a1.FName == ([95, 95, 116, 121, 112, 101, 110, 97, 109, 101] : Bs))) then ((TField.mk ([] : Bs) (Sl.nil : Sl TInput) TRef.zero (Sl.nil : Sl TDir))) else (x23.1)) fun y25_l0 => (Z71_q a0 y25_l0.FArgs a1.FArgs false a3).bind fun x27 => (appC 24 s10_19 x27).bind fun x28 => (Z30_q x6.1).bind fun x30 => (Z72_q a0 a1 x30 a3).bind fun x31 => (appC 24 x28 x31).bind fun x32 => on (Z76_q a0 x6.1.FName) fun x33 => some (x32, x33))
theorem Z73_eq (a0 : TDoc) (a1 : TSel) (a2 : Bs) (a3 : Bs) : Z73 a0 a1 a2 a3 = Z73_q a0 a1 a2 a3 := by
 unfold Z73 Z73_q
 refine Eq.trans ?_ (Q.some_bind _)
 refine Q.guardOO (Z20_eq _) fun x42 => ?_
 refine Q.wrapOO fun Kj3 hKj3 => ?_
 have hj3 : ∀ (s10_4 : (Sl TFault)), Z73_j3 a0 a1 a2 a3 s10_4 = Kj3 s10_4 := by
  intro s10_4
  refine Eq.trans ?_ (hKj3 _).symm
  unfold Z73_j3
  refine Q.bindO (Z69_eq _ _ _) fun x6 => ?_
  refine Q.condO ?_ ?_
  ·refine Q.wrapOO fun Kj10 hKj10 => ?_
   have hj10 : ∀ (s10_11 : (Sl TFault)), Z73_j10 a0 a1 a3 s10_11 = Kj10 s10_11 := by
    intro s10_11
    refine Eq.trans ?_ (hKj10 _).symm
    unfold Z73_j10
    refine Q.bindO (Z72_eq _ _ _ _) fun x13 => ?_
    refine Q.bindO rfl fun x14 => ?_
    all_goals rfl
   refine Q.condO ?_ ?_
   ·refine Q.bindO rfl fun x17 => ?_
    all_goals exact hj10 _
   all_goals exact hj10 _
  refine Q.bindPO (Z64_eq _ _) fun x37 hx_x37 => ?_
  refine Q.guardPO (Z57_eq _ _) fun x38 hx_x38 => ?_
  refine Q.wrapOO fun Kj18 hKj18 => ?_
  have hj18 : ∀ (s10_19 : (Sl TFault)), Z73_j18 a0 a1 a2 a3 x6 s10_19 = Kj18 s10_19 := by
   intro s10_19
   refine Eq.trans ?_ (hKj18 _).symm
   unfold Z73_j18
   refine Q.bindPO (Z60_eq _ _) fun x21 hx_x21 => ?_
   refine Q.bindPO (Z59_eq _ _) fun x23 hx_x23 => ?_
   refine Q.wrapPO fun Kj24 hKj24 => ?_
   have hj24 : ∀ (y25_l0 : TField), Z73_j24 a0 a1 a3 x6 s10_19 y25_l0 = Kj24 y25_l0 := by
    intro y25_l0
    refine Eq.trans ?_ (hKj24 _).symm
    unfold Z73_j24
    refine Q.bindO (Z71_eq _ _ _ _ _) fun x27 => ?_
    refine Q.bindO rfl fun x28 => ?_
    refine Q.bindO (Z30_eq _) fun x30 => ?_
    refine Q.bindO (Z72_eq _ _ _ _) fun x31 => ?_
    refine Q.bindO rfl fun x32 => ?_
    refine Q.bindPO (Z76_eq _ _) fun x33 hx_x33 => ?_
    all_goals rfl
   refine Q.condP ?_ ?_
   ·all_goals exact hj24 _
   all_goals exact hj24 _
  refine Q.condO ?_ ?_
  ·refine Q.bindO rfl fun x40 => ?_
   all_goals exact hj18 _
  all_goals exact hj18 _
 refine Q.condO ?_ ?_
 ·refine Q.bindO rfl fun x44 => ?_
  all_goals exact hj3 _
 all_goals exact hj3 _
def Z80_q7 (a0 : TDoc) (a2 : Bs) (a3 : Bs) (k_rec_31 : TDoc → (Sl TSel) → Bs → Bs → Option (Sl TFault)) : List TSel → (Sl TFault) → Option ((Sl TFault))
 | [], s9_8 => some s9_8
 | h7 :: r7, s9_8 => on (h7) fun x17 => Option.bind (bif (decide (x17.FKind = (2 : Int))) then ((Z72_q a0 x17 true a3).bind fun x21 => (appC 24 s9_8 x21).bind fun x22 => some x22) else (bif (decide (x17.FKind = (3 : Int))) then ((Z72_q a0 x17 true a3).bind fun x26 => (appC 24 s9_8 x26).bind fun x27 => on (bif (!(x17.FOn == ([] : Bs))) then (on (Z76_q a0 x17.FOn) fun x35 => x35) else (a2)) fun s12_30 => (k_rec_31 a0 x17.FSels s12_30 a3).bind fun x31 => (appC 24 x27 x31).bind fun x32 => some x32) else ((catC a3 ([47] : Bs)).bind fun x37 => on (Z68_q x17) fun x38 => (catC x37 x38).bind fun x39 => (Z73_q a0 x17 a2 x39).bind fun x41 => (appC 24 s9_8 x41.1).bind fun x43 => (k_rec_31 a0 x17.FSels x41.2 x39).bind fun x44 => (appC 24 x43 x44).bind fun x45 => some x45))) fun s9_15 => Z80_q7 a0 a2 a3 k_rec_31 (r7) s9_15
theorem Z80_l7_qe {a0 : TDoc} {a1 : (Sl TSel)} {a2 : Bs} {a3 : Bs} {k_rec_31 : TDoc → (Sl TSel) → Bs → Bs → Option (Sl TFault)}  (Kb7 : ((Sl TFault)) → Option (Sl TFault)) (hend : ∀ (n7 : Nat) (s9_8 : (Sl TFault)) (s10_9 : Nat), Z80_j3   s9_8 = Kb7 s9_8) : ∀ (n7 : Nat) (s9_8 : (Sl TFault)) (s10_9 : Nat), (0 < n7 ∧ a1.l.length < s10_9 + n7) → Z80_l7 a0 a1 a2 a3 k_rec_31 n7 s9_8 s10_9 = Option.bind (Z80_q7 a0 a2 a3 k_rec_31 (a1.l.drop s10_9) s9_8) Kb7 := by
 intro n7
 induction n7 with
 | zero => intro s9_8 s10_9 hn; exact absurd hn.1 (by omega)
 | succ n7 ih7 =>
  intro s9_8 s10_9 hn
  rw [Z80_l7]
  by_cases hlt : s10_9 < a1.l.length
  ·obtain ⟨h7, hh7⟩ : ∃ x, a1.l[s10_9]? = some x := ⟨_, List.getElem?_eq_getElem hlt⟩
   rw [Q.drop_of hh7, Z80_q7]
   refine Q.condT (Q.ltT hlt) ?_
   refine Q.bindPO hh7 fun x17 hx_x17 => ?_
   refine Q.wrapOO fun Kj14 hKj14 => ?_
   have hj14 : ∀ (s9_15 : (Sl TFault)), Z80_j14 s10_9 (Z80_l7 a0 a1 a2 a3 k_rec_31 n7) s9_15 = Kj14 s9_15 := by
    intro s9_15
    refine Eq.trans ?_ (hKj14 _).symm
    unfold Z80_j14
    all_goals exact ih7 _ _ ⟨by omega, by omega⟩
   refine Q.condO ?_ ?_
   ·refine Q.bindO (Z72_eq _ _ _ _) fun x21 => ?_
    refine Q.bindO rfl fun x22 => ?_
    all_goals exact hj14 _
   refine Q.condO ?_ ?_
   ·refine Q.bindO (Z72_eq _ _ _ _) fun x26 => ?_
    refine Q.bindO rfl fun x27 => ?_
    refine Q.wrapPO fun Kj29 hKj29 => ?_
    have hj29 : ∀ (s12_30 : Bs), Z80_j29 a0 a3 s10_9 x17 x27 (Z80_l7 a0 a1 a2 a3 k_rec_31 n7) k_rec_31 s12_30 = Kj29 s12_30 := by
     intro s12_30
     refine Eq.trans ?_ (hKj29 _).symm
     unfold Z80_j29
     refine Q.bindO rfl fun x31 => ?_
     refine Q.bindO rfl fun x32 => ?_
     all_goals exact hj14 _
    refine Q.condP ?_ ?_
    ·refine Q.bindP (Z76_eq _ _) fun x35 hx_x35 => ?_
     all_goals exact hj29 _
    all_goals exact hj29 _
   refine Q.bindO rfl fun x37 => ?_
   refine Q.bindPO (Z68_eq _) fun x38 hx_x38 => ?_
   refine Q.bindO rfl fun x39 => ?_
   refine Q.bindO (Z73_eq _ _ _ _) fun x41 => ?_
   refine Q.bindO rfl fun x43 => ?_
   refine Q.bindO rfl fun x44 => ?_
   refine Q.bindO rfl fun x45 => ?_
   all_goals exact hj14 _
  rw [List.drop_of_length_le (by omega), Z80_q7]
  refine Q.condF (Q.ltF hlt) ?_
  exact hend n7 s9_8 s10_9
def Z80_qn : Nat → TDoc → (Sl TSel) → Bs → Bs → Option (Sl TFault)
 | 0, _, _, _, _ => none
 | n + 1, a0, a1, a2, a3 => Option.bind (Z80_q7 a0 a2 a3 (Z80_qn n) a1.l (Sl.nil : Sl TFault)) fun s9_8 => on (s9_8) fun s9_4 => some s9_4
theorem Z80_qall : ∀ n : Nat, Z80_n n = Z80_qn n := by
 intro n
 induction n with
 | zero => exact (by funext a0 a1 a2 a3; first | rfl | (rw [Z80_n, Z80_qn]))
 | succ n ih =>
  funext a0 a1 a2 a3
  refine Eq.trans ?_ (Q.some_bind _)
  rw [Z80_n, Z80_qn]
  try rw [ih]
  refine Q.wrapOO fun Kb7 hKb7 => ?_
  refine Z80_l7_qe  Kb7 ?_ _ _ _ ⟨Nat.succ_pos _, by omega⟩
  intro n7 s9_8 s10_9
  refine Eq.trans ?_ (hKb7 _).symm
  refine Q.wrapPO fun Kj3 hKj3 => ?_
  have hj3 : ∀ (s9_4 : (Sl TFault)), Z80_j3  s9_4 = Kj3 s9_4 := by
   intro s9_4
   refine Eq.trans ?_ (hKj3 _).symm
   unfold Z80_j3
   all_goals rfl
  all_goals exact hj3 _
def Z80_q (a0 : TDoc) (a1 : (Sl TSel)) (a2 : Bs) (a3 : Bs) : Option (Sl TFault) := Z80_qn F0 a0 a1 a2 a3
theorem Z80_eq (a0 : TDoc) (a1 : (Sl TSel)) (a2 : Bs) (a3 : Bs) : Z80 a0 a1 a2 a3 = Z80_q a0 a1 a2 a3 := by
 unfold Z80 Z80_q; rw [(Z80_qall F0)]
def Z67_q23 (a0 : TDoc) (a1 : TQuery) : List TOp → (Sl TFault) → Option ((Sl TFault))
 | [], s5_24 => some s5_24
 | h23 :: r23, s5_24 => on (h23) fun x33 => on (Z65_q x33.FKind) fun x35 => on (Z60_q a0 x35) fun x37 => (Z79_q a1 x33.FSels (Sl.nil : Sl Bs) (Sl.nil : Sl Bs)).bind fun x41 => Option.bind (bif ((!decide (x37.1.FKind = (1 : Int))) || ((decide (x33.FKind = (3 : Int))) && (!decide (((x41.1.l.length : Nat) : Int) = (1 : Int))))) then ((appC 24 s5_24 (⟨false, [(TFault.mk (30 : Int) x33.FName)]⟩ : Sl TFault)).bind fun x49 => some x49) else (some s5_24)) fun s5_43 => on (Z76_q a0 x35) fun x44 => (Z80_q a0 x33.FSels x44 x33.FName).bind fun x45 => (appC 24 s5_43 x45).bind fun x46 => on (x46) fun s5_31 => Z67_q23 a0 a1 (r23) s5_31
theorem Z67_l23_qe {a0 : TDoc} {a1 : TQuery}  (Kb23 : ((Sl TFault)) → Option (Sl TFault)) (hend : ∀ (n23 : Nat) (s5_24 : (Sl TFault)) (s6_25 : Nat), Z67_j3 a0 a1  s5_24 = Kb23 s5_24) : ∀ (n23 : Nat) (s5_24 : (Sl TFault)) (s6_25 : Nat), (0 < n23 ∧ a1.FOps.l.length < s6_25 + n23) → Z67_l23 a0 a1 n23 s5_24 s6_25 = Option.bind (Z67_q23 a0 a1 (a1.FOps.l.drop s6_25) s5_24) Kb23 := by
 intro n23
 induction n23 with
 | zero => intro s5_24 s6_25 hn; exact absurd hn.1 (by omega)
 | succ n23 ih23 =>
  intro s5_24 s6_25 hn
  rw [Z67_l23]
  by_cases hlt : s6_25 < a1.FOps.l.length
  ·obtain ⟨h23, hh23⟩ : ∃ x, a1.FOps.l[s6_25]? = some x := ⟨_, List.getElem?_eq_getElem hlt⟩
   rw [Q.drop_of hh23, Z67_q23]
   refine Q.condT (Q.ltT hlt) ?_
   refine Q.bindPO hh23 fun x33 hx_x33 => ?_
   refine Q.bindPO (Z65_eq _) fun x35 hx_x35 => ?_
   refine Q.bindPO (Z60_eq _ _) fun x37 hx_x37 => ?_
   refine Q.bindO (Z79_eq _ _ _ _) fun x41 => ?_
   refine Q.wrapOO fun Kj42 hKj42 => ?_
   have hj42 : ∀ (s5_43 : (Sl TFault)), Z67_j42 a0 s6_25 x33 x35 (Z67_l23 a0 a1 n23) s5_43 = Kj42 s5_43 := by
    intro s5_43
    refine Eq.trans ?_ (hKj42 _).symm
    unfold Z67_j42
    refine Q.bindPO (Z76_eq _ _) fun x44 hx_x44 => ?_
    refine Q.bindO (Z80_eq _ _ _ _) fun x45 => ?_
    refine Q.bindO rfl fun x46 => ?_
    refine Q.wrapPO fun Kj30 hKj30 => ?_
    have hj30 : ∀ (s5_31 : (Sl TFault)), Z67_j30 s6_25 (Z67_l23 a0 a1 n23) s5_31 = Kj30 s5_31 := by
     intro s5_31
     refine Eq.trans ?_ (hKj30 _).symm
     unfold Z67_j30
     all_goals exact ih23 _ _ ⟨by omega, by omega⟩
    all_goals exact hj30 _
   refine Q.condO ?_ ?_
   ·refine Q.bindO rfl fun x49 => ?_
    all_goals exact hj42 _
   all_goals exact hj42 _
  rw [List.drop_of_length_le (by omega), Z67_q23]
  refine Q.condF (Q.ltF hlt) ?_
  exact hend n23 s5_24 s6_25
def Z67_q9 (a0 : TDoc) : List TFrag → (Sl TFault) → Option ((Sl TFault))
 | [], s5_10 => some s5_10
 | h9 :: r9, s5_10 => on (h9) fun x18 => on (Z76_q a0 x18.FOn) fun x19 => (Z80_q a0 x18.FSels x19 x18.FName).bind fun x20 => (appC 24 s5_10 x20).bind fun x21 => Z67_q9 a0 (r9) x21
theorem Z67_l9_qe {a0 : TDoc} {a1 : TQuery}  (Kb9 : ((Sl TFault)) → Option (Sl TFault)) (hend : ∀ (n9 : Nat) (s5_10 : (Sl TFault)) (s13_11 : Nat), Z67_j5   s5_10 = Kb9 s5_10) : ∀ (n9 : Nat) (s5_10 : (Sl TFault)) (s13_11 : Nat), (0 < n9 ∧ a1.FFrags.l.length < s13_11 + n9) → Z67_l9 a0 a1 n9 s5_10 s13_11 = Option.bind (Z67_q9 a0 (a1.FFrags.l.drop s13_11) s5_10) Kb9 := by
 intro n9
 induction n9 with
 | zero => intro s5_10 s13_11 hn; exact absurd hn.1 (by omega)
 | succ n9 ih9 =>
  intro s5_10 s13_11 hn
  rw [Z67_l9]
  by_cases hlt : s13_11 < a1.FFrags.l.length
  ·obtain ⟨h9, hh9⟩ : ∃ x, a1.FFrags.l[s13_11]? = some x := ⟨_, List.getElem?_eq_getElem hlt⟩
   rw [Q.drop_of hh9, Z67_q9]
   refine Q.condT (Q.ltT hlt) ?_
   refine Q.bindPO hh9 fun x18 hx_x18 => ?_
   refine Q.bindPO (Z76_eq _ _) fun x19 hx_x19 => ?_
   refine Q.bindO (Z80_eq _ _ _ _) fun x20 => ?_
   refine Q.bindO rfl fun x21 => ?_
   all_goals exact ih9 _ _ ⟨by omega, by omega⟩
  rw [List.drop_of_length_le (by omega), Z67_q9]
  refine Q.condF (Q.ltF hlt) ?_
  exact hend n9 s5_10 s13_11
def Z67_q (a0 : TDoc) (a1 : TQuery) : Option (Sl TFault) := Option.bind (Z67_q23 a0 a1 a1.FOps.l (Sl.nil : Sl TFault)) fun s5_24 => on (s5_24) fun s5_4 => Option.bind (Z67_q9 a0 a1.FFrags.l s5_4) fun s5_10 => on (s5_10) fun s5_6 => some s5_6
theorem Z67_eq (a0 : TDoc) (a1 : TQuery) : Z67 a0 a1 = Z67_q a0 a1 := by
 unfold Z67 Z67_q
 refine Eq.trans ?_ (Q.some_bind _)
 refine Q.wrapOO fun Kb23 hKb23 => ?_
 refine Z67_l23_qe  Kb23 ?_ _ _ _ ⟨Nat.succ_pos _, by omega⟩
 intro n23 s5_24 s6_25
 refine Eq.trans ?_ (hKb23 _).symm
 refine Q.wrapPO fun Kj3 hKj3 => ?_
 have hj3 : ∀ (s5_4 : (Sl TFault)), Z67_j3 a0 a1 s5_4 = Kj3 s5_4 := by
  intro s5_4
  refine Eq.trans ?_ (hKj3 _).symm
  unfold Z67_j3
  refine Q.wrapOO fun Kb9 hKb9 => ?_
  refine Z67_l9_qe  Kb9 ?_ _ _ _ ⟨Nat.succ_pos _, by omega⟩
  intro n9 s5_10 s13_11
  refine Eq.trans ?_ (hKb9 _).symm
  refine Q.wrapPO fun Kj5 hKj5 => ?_
  have hj5 : ∀ (s5_6 : (Sl TFault)), Z67_j5  s5_6 = Kj5 s5_6 := by
   intro s5_6
   refine Eq.trans ?_ (hKj5 _).symm
   unfold Z67_j5
   all_goals rfl
  all_goals exact hj5 _
 all_goals exact hj3 _
def Z15_q (a0 : TDoc) (a1 : TQuery) : Option Bool := (Z17_q a0 a1).bind fun x4 => bif (!x4) then ((Z16).bind fun x7 => some x7) else ((Z0_q a0 a1).bind fun x9 => (Z67_q a0 a1).bind fun x10 => (Z58_q x9 x10).bind fun x11 => guardO (x11) (Z16) false fun x12 => some (x11 && x12))
theorem Z15_eq (a0 : TDoc) (a1 : TQuery) : Z15 a0 a1 = Z15_q a0 a1 := by
 unfold Z15 Z15_q
 refine Eq.trans ?_ (Q.some_bind _)
 refine Q.bindO (Z17_eq _ _) fun x4 => ?_
 refine Q.condO ?_ ?_
 ·refine Q.bindO rfl fun x7 => ?_
  all_goals rfl
 refine Q.bindO (Z0_eq _ _) fun x9 => ?_
 refine Q.bindO (Z67_eq _ _) fun x10 => ?_
 refine Q.bindO (Z58_eq _ _) fun x11 => ?_
 refine Q.guardOO rfl fun x12 => ?_
 all_goals rfl
end Go.Proofs
