import Derived.Test.YtnbbdamkdkhjkaaGreatV9
set_option maxRecDepth 100000
set_option maxHeartbeats 2000000
set_option linter.unusedVariables false
set_option linter.unusedSimpArgs false
namespace Go.Proofs
open Go Go.Ab
def Z86_q (a0 : TRef) : Bool := on (bif (decide ((0 : Int) < ((a0.FWraps.l.length : Nat) : Int))) then ((a0.FWraps.l)[0]?.getD (0 : Int)) else (0 : Int)) fun x4 => ((decide ((0 : Int) < ((a0.FWraps.l.length : Nat) : Int))) && (decide (x4 = (1 : Int))))
theorem Z86_eq (a0 : TRef) : Z86 a0 = some (Z86_q a0) := by
 unfold Z86 Z86_q
 refine Q.guardT (fun hc => Q.getD_some (by simp at hc; omega)) fun x4 hx_x4 => ?_
 all_goals rfl
def Z89_q (a0 : TRef) : Option TRef := on (Z86_q a0) fun x8 => Option.bind (bif x8 then ((partC a0.FWraps (some (1 : Int)) none).bind fun x10 => some x10) else (some a0.FWraps)) fun s3_4 => (Z78_q s3_4).bind fun x6 => some (TRef.mk a0.FName x6)
theorem Z89_eq (a0 : TRef) : Z89 a0 = Z89_q a0 := by
 unfold Z89 Z89_q
 refine Eq.trans ?_ (Q.some_bind _)
 refine Q.bindPO (Z86_eq _) fun x8 hx_x8 => ?_
 refine Q.wrapOO fun Kj3 hKj3 => ?_
 have hj3 : ∀ (s3_4 : (Sl Int)), Z89_j3 a0 s3_4 = Kj3 s3_4 := by
  intro s3_4
  refine Eq.trans ?_ (hKj3 _).symm
  unfold Z89_j3
  refine Q.bindO (Z78_eq _) fun x6 => ?_
  all_goals rfl
 refine Q.condO ?_ ?_
 ·refine Q.bindO rfl fun x10 => ?_
  all_goals exact hj3 _
 all_goals exact hj3 _
def Z85_q (a0 : TRef) : Option Bool := (Z89_q a0).bind fun x3 => on (bif (decide ((0 : Int) < ((x3.FWraps.l.length : Nat) : Int))) then ((x3.FWraps.l)[0]?.getD (0 : Int)) else (0 : Int)) fun x6 => some ((decide ((0 : Int) < ((x3.FWraps.l.length : Nat) : Int))) && (decide (x6 = (2 : Int))))
theorem Z85_eq (a0 : TRef) : Z85 a0 = Z85_q a0 := by
 unfold Z85 Z85_q
 refine Eq.trans ?_ (Q.some_bind _)
 refine Q.bindO (Z89_eq _) fun x3 => ?_
 refine Q.guardTO (fun hc => Q.getD_some (by simp at hc; omega)) fun x6 hx_x6 => ?_
 all_goals rfl
def Z84_q (a0 : TRef) : Option (TRef × Bool) := (Z85_q a0).bind fun x4 => bif (!x4) then (some ((TRef.mk ([] : Bs) (Sl.nil : Sl Int)), false)) else ((Z89_q a0).bind fun x8 => (partC x8.FWraps (some (1 : Int)) none).bind fun x10 => some ((TRef.mk x8.FName x10), true))
theorem Z84_eq (a0 : TRef) : Z84 a0 = Z84_q a0 := by
 unfold Z84 Z84_q
 refine Eq.trans ?_ (Q.some_bind _)
 refine Q.bindO (Z85_eq _) fun x4 => ?_
 refine Q.condO ?_ ?_
 ·all_goals rfl
 refine Q.bindO (Z89_eq _) fun x8 => ?_
 refine Q.bindO rfl fun x10 => ?_
 all_goals rfl
def Z73_q7 (a1 : Bs) : List TInput → Unit ⊕ ((TInput × Bool))
 | [] => Sum.inl ()
 | h7 :: r7 => on (h7) fun x15 => bif ((x15.FName == a1)) then (Sum.inr (x15, true)) else (Z73_q7 a1 (r7) )
theorem Z73_l7_qe {a0 : (Sl TInput)} {a1 : Bs}  (Kb7 : (Unit ⊕ ((TInput × Bool))) → Option (TInput × Bool)) (hend : ∀ (n7 : Nat) (s10_8 : Nat) (y9_l0 : TInput), Z73_j2   y9_l0 = Kb7 (Sum.inl ())) (hret : ∀ e : (TInput × Bool), some e = Kb7 (Sum.inr e)) : ∀ (n7 : Nat) (s10_8 : Nat) (y9_l0 : TInput), (0 < n7 ∧ a0.l.length < s10_8 + n7) → Z73_l7 a0 a1 n7 s10_8 y9_l0 = Kb7 (Z73_q7 a1 (a0.l.drop s10_8) ) := by
 intro n7
 induction n7 with
 | zero => intro s10_8 y9_l0 hn; exact absurd hn.1 (by omega)
 | succ n7 ih7 =>
  intro s10_8 y9_l0 hn
  rw [Z73_l7]
  by_cases hlt : s10_8 < a0.l.length
  ·obtain ⟨h7, hh7⟩ : ∃ x, a0.l[s10_8]? = some x := ⟨_, List.getElem?_eq_getElem hlt⟩
   rw [Q.drop_of hh7, Z73_q7]
   refine Q.condT (Q.ltT hlt) ?_
   refine Q.bindP hh7 fun x15 hx_x15 => ?_
   refine Q.condP ?_ ?_
   ·all_goals exact hret _
   all_goals exact ih7 _ _ ⟨by omega, by omega⟩
  rw [List.drop_of_length_le (by omega), Z73_q7]
  refine Q.condF (Q.ltF hlt) ?_
  exact hend n7 s10_8 y9_l0
def Z73_q (a0 : (Sl TInput)) (a1 : Bs) : (TInput × Bool) := on (Z73_q7 a1 a0.l ) fun o7 => match o7 with | Sum.inl _ => (on (()) fun _ => ((TInput.mk ([] : Bs) TRef.zero false TValue.zero (Sl.nil : Sl TDir)), false)) | Sum.inr e7 => (e7)
theorem Z73_eq (a0 : (Sl TInput)) (a1 : Bs) : Z73 a0 a1 = some (Z73_q a0 a1) := by
 unfold Z73 Z73_q
 refine Q.wrapPP fun Kb7 hKb7 => ?_
 refine Z73_l7_qe  Kb7 ?_ ?_ _ _ _ ⟨Nat.succ_pos _, by omega⟩
 ·intro n7 s10_8 y9_l0
  refine Eq.trans ?_ (hKb7 _).symm
  try dsimp only
  refine Q.wrapPP fun Kj2 hKj2 => ?_
  have hj2 : ∀ (y3_l0 : TInput), Z73_j2  y3_l0 = Kj2 () := by
   intro y3_l0
   refine Eq.trans ?_ (hKj2 _).symm
   unfold Z73_j2
   all_goals rfl
  all_goals exact hj2 _
 intro e7
 refine Eq.trans ?_ (hKb7 _).symm
 try dsimp only
 all_goals rfl
def Z71_q7 (a1 : Bs) : List TField → Unit ⊕ ((TField × Bool))
 | [] => Sum.inl ()
 | h7 :: r7 => on (h7) fun x15 => bif ((x15.FName == a1)) then (Sum.inr (x15, true)) else (Z71_q7 a1 (r7) )
theorem Z71_l7_qe {a0 : TDef} {a1 : Bs}  (Kb7 : (Unit ⊕ ((TField × Bool))) → Option (TField × Bool)) (hend : ∀ (n7 : Nat) (s11_8 : Nat) (y9_l0 : TField), Z71_j2   y9_l0 = Kb7 (Sum.inl ())) (hret : ∀ e : (TField × Bool), some e = Kb7 (Sum.inr e)) : ∀ (n7 : Nat) (s11_8 : Nat) (y9_l0 : TField), (0 < n7 ∧ a0.FFields.l.length < s11_8 + n7) → Z71_l7 a0 a1 n7 s11_8 y9_l0 = Kb7 (Z71_q7 a1 (a0.FFields.l.drop s11_8) ) := by
 intro n7
 induction n7 with
 | zero => intro s11_8 y9_l0 hn; exact absurd hn.1 (by omega)
 | succ n7 ih7 =>
  intro s11_8 y9_l0 hn
  rw [Z71_l7]
  by_cases hlt : s11_8 < a0.FFields.l.length
  ·obtain ⟨h7, hh7⟩ : ∃ x, a0.FFields.l[s11_8]? = some x := ⟨_, List.getElem?_eq_getElem hlt⟩
   rw [Q.drop_of hh7, Z71_q7]
   refine Q.condT (Q.ltT hlt) ?_
   refine Q.bindP hh7 fun x15 hx_x15 => ?_
   refine Q.condP ?_ ?_
   ·all_goals exact hret _
   all_goals exact ih7 _ _ ⟨by omega, by omega⟩
  rw [List.drop_of_length_le (by omega), Z71_q7]
  refine Q.condF (Q.ltF hlt) ?_
  exact hend n7 s11_8 y9_l0
def Z71_q (a0 : TDef) (a1 : Bs) : (TField × Bool) := on (Z71_q7 a1 a0.FFields.l ) fun o7 => match o7 with | Sum.inl _ => (on (()) fun _ => ((TField.mk ([] : Bs) (Sl.nil : Sl TInput) TRef.zero (Sl.nil : Sl TDir)), false)) | Sum.inr e7 => (e7)
theorem Z71_eq (a0 : TDef) (a1 : Bs) : Z71 a0 a1 = some (Z71_q a0 a1) := by
 unfold Z71 Z71_q
 refine Q.wrapPP fun Kb7 hKb7 => ?_
 refine Z71_l7_qe  Kb7 ?_ ?_ _ _ _ ⟨Nat.succ_pos _, by omega⟩
 ·intro n7 s11_8 y9_l0
  refine Eq.trans ?_ (hKb7 _).symm
  try dsimp only
  refine Q.wrapPP fun Kj2 hKj2 => ?_
  have hj2 : ∀ (y3_l0 : TField), Z71_j2  y3_l0 = Kj2 () := by
   intro y3_l0
   refine Eq.trans ?_ (hKj2 _).symm
   unfold Z71_j2
   all_goals rfl
  all_goals exact hj2 _
 intro e7
 refine Eq.trans ?_ (hKb7 _).symm
 try dsimp only
 all_goals rfl
def Z88_q (a0 : TRef) : Option TRef := on (Z86_q a0) fun x4 => bif x4 then ((Z78_q a0.FWraps).bind fun x7 => some (TRef.mk a0.FName x7)) else ((appC 8 (⟨false, [(1 : Int)]⟩ : Sl Int) a0.FWraps).bind fun x9 => some (TRef.mk a0.FName x9))
theorem Z88_eq (a0 : TRef) : Z88 a0 = Z88_q a0 := by
 unfold Z88 Z88_q
 refine Eq.trans ?_ (Q.some_bind _)
 refine Q.bindPO (Z86_eq _) fun x4 hx_x4 => ?_
 refine Q.condO ?_ ?_
 ·refine Q.bindO (Z78_eq _) fun x7 => ?_
  all_goals rfl
 refine Q.bindO rfl fun x9 => ?_
 all_goals rfl
def Z87_q (a0 : Bs) : TRef := (TRef.mk a0 (Sl.nil : Sl Int))
theorem Z87_eq (a0 : Bs) : Z87 a0 = some (Z87_q a0) := by
 unfold Z87 Z87_q
 all_goals rfl
def Z3_q (a0 : TDoc) (a1 : Bs) (a2 : Bs) : Option (TRef × Bool) := on (Z70_q a0 a1) fun x4 => bif (!x4) then (some ((TRef.mk ([] : Bs) (Sl.nil : Sl Int)), false)) else (bif ((a2 == ([95, 95, 116, 121, 112, 101, 110, 97, 109, 101] : Bs))) then (on (Z87_q ([83, 116, 114, 105, 110, 103] : Bs)) fun x11 => (Z88_q x11).bind fun x12 => some (x12, true)) else (on (Z72_q a0 a1) fun x14 => on (Z71_q x14.1 a2) fun x16 => bif (!x16.2) then (some ((TRef.mk ([] : Bs) (Sl.nil : Sl Int)), false)) else ((Z78_q x16.1.FType.FWraps).bind fun x22 => some ((TRef.mk x16.1.FType.FName x22), true))))
theorem Z3_eq (a0 : TDoc) (a1 : Bs) (a2 : Bs) : Z3 a0 a1 a2 = Z3_q a0 a1 a2 := by
 unfold Z3 Z3_q
 refine Eq.trans ?_ (Q.some_bind _)
 refine Q.bindPO (Z70_eq _ _) fun x4 hx_x4 => ?_
 refine Q.condO ?_ ?_
 ·all_goals rfl
 refine Q.condO ?_ ?_
 ·refine Q.bindPO (Z87_eq _) fun x11 hx_x11 => ?_
  refine Q.bindO (Z88_eq _) fun x12 => ?_
  all_goals rfl
 refine Q.bindPO (Z72_eq _ _) fun x14 hx_x14 => ?_
 refine Q.bindPO (Z71_eq _ _) fun x16 hx_x16 => ?_
 refine Q.condO ?_ ?_
 ·all_goals rfl
 refine Q.bindO (Z78_eq _) fun x22 => ?_
 all_goals rfl
def Z96_q19 (a1 : TSel) (a2 : Bs) (x13 : (TField × Bool)) : List TArg → Usage_recorder → Option (Usage_recorder)
 | [], y21_c0 => some y21_c0
 | h19 :: r19, y21_c0 => on (h19) fun x28 => on (Z73_q x13.1.FArgs x28.FName) fun x30 => Option.bind (bif x30.2 then ((Z98_q y21_c0 a2 a1.FName x28.FName).bind fun x34 => (Z99 x34 x28.FValue x30.1.FType).bind fun x35 => some x35) else (some y21_c0)) fun y26_c0 => Z96_q19 a1 a2 x13 (r19) y26_c0
theorem Z96_l19_qe {a1 : TSel} {a2 : Bs} {x3 : (TRef × Bool)} {x13 : (TField × Bool)}  (Kb19 : (Usage_recorder) → Option (Bs × Usage_recorder)) (hend : ∀ (n19 : Nat) (s54_20 : Nat) (y21_c0 : Usage_recorder), Z96_j14 x3  y21_c0 = Kb19 y21_c0) : ∀ (n19 : Nat) (s54_20 : Nat) (y21_c0 : Usage_recorder), (0 < n19 ∧ a1.FArgs.l.length < s54_20 + n19) → Z96_l19 a1 a2 x3 x13 n19 s54_20 y21_c0 = Option.bind (Z96_q19 a1 a2 x13 (a1.FArgs.l.drop s54_20) y21_c0) Kb19 := by
 intro n19
 induction n19 with
 | zero => intro s54_20 y21_c0 hn; exact absurd hn.1 (by omega)
 | succ n19 ih19 =>
  intro s54_20 y21_c0 hn
  rw [Z96_l19]
  by_cases hlt : s54_20 < a1.FArgs.l.length
  ·obtain ⟨h19, hh19⟩ : ∃ x, a1.FArgs.l[s54_20]? = some x := ⟨_, List.getElem?_eq_getElem hlt⟩
   rw [Q.drop_of hh19, Z96_q19]
   refine Q.condT (Q.ltT hlt) ?_
   refine Q.bindPO hh19 fun x28 hx_x28 => ?_
   refine Q.bindPO (Z73_eq _ _) fun x30 hx_x30 => ?_
   refine Q.wrapOO fun Kj25 hKj25 => ?_
   have hj25 : ∀ (y26_c0 : Usage_recorder), Z96_j25 s54_20 (Z96_l19 a1 a2 x3 x13 n19) y26_c0 = Kj25 y26_c0 := by
    intro y26_c0
    refine Eq.trans ?_ (hKj25 _).symm
    unfold Z96_j25
    all_goals exact ih19 _ _ ⟨by omega, by omega⟩
   refine Q.condO ?_ ?_
   ·refine Q.bindO (Z98_eq _ _ _ _) fun x34 => ?_
    refine Q.bindO rfl fun x35 => ?_
    all_goals exact hj25 _
   all_goals exact hj25 _
  rw [List.drop_of_length_le (by omega), Z96_q19]
  refine Q.condF (Q.ltF hlt) ?_
  exact hend n19 s54_20 y21_c0
def Z96_q (a0 : Usage_recorder) (a1 : TSel) (a2 : Bs) : Option (Bs × Usage_recorder) := (Z3_q a0.Fd a2 a1.FName).bind fun x3 => bif (!x3.2) then (some (([] : Bs), a0)) else ((Z98_q a0 a2 a1.FName ([] : Bs)).bind fun x9 => on (Z72_q x9.Fd a2) fun x11 => on (Z71_q x11.1 a1.FName) fun x13 => Option.bind (Z96_q19 a1 a2 x13 a1.FArgs.l x9) fun y21_c0 => on (y21_c0) fun y15_c0 => some (x3.1.FName, y15_c0))
theorem Z96_eq (a0 : Usage_recorder) (a1 : TSel) (a2 : Bs) : Z96 a0 a1 a2 = Z96_q a0 a1 a2 := by
 unfold Z96 Z96_q
 refine Eq.trans ?_ (Q.some_bind _)
 refine Q.bindO (Z3_eq _ _ _) fun x3 => ?_
 refine Q.condO ?_ ?_
 ·all_goals rfl
 refine Q.bindO (Z98_eq _ _ _ _) fun x9 => ?_
 refine Q.bindPO (Z72_eq _ _) fun x11 hx_x11 => ?_
 refine Q.bindPO (Z71_eq _ _) fun x13 hx_x13 => ?_
 refine Q.wrapOO fun Kb19 hKb19 => ?_
 refine Z96_l19_qe  Kb19 ?_ _ _ _ ⟨Nat.succ_pos _, by omega⟩
 intro n19 s54_20 y21_c0
 refine Eq.trans ?_ (hKb19 _).symm
 refine Q.wrapPO fun Kj14 hKj14 => ?_
 have hj14 : ∀ (y15_c0 : Usage_recorder), Z96_j14 x3 y15_c0 = Kj14 y15_c0 := by
  intro y15_c0
  refine Eq.trans ?_ (hKj14 _).symm
  unfold Z96_j14
  all_goals rfl
 all_goals exact hj14 _
def Z97_q3 (a2 : Bs) (k_rec_25 : Usage_recorder → (Sl TSel) → Bs → Option Usage_recorder) : List TSel → Usage_recorder → Option (Usage_recorder)
 | [], y5_c0 => some y5_c0
 | h3 :: r3, y5_c0 => on (h3) fun x12 => Option.bind (bif (decide (x12.FKind = (2 : Int))) then (some y5_c0) else (bif (decide (x12.FKind = (3 : Int))) then (Option.bind (bif (!(x12.FOn == ([] : Bs))) then ((Z95_q y5_c0 x12.FOn).bind fun x26 => some (x12.FOn, x26)) else (some (a2, y5_c0))) fun z19 => (k_rec_25 z19.2 x12.FSels z19.1).bind fun x22 => some x22) else ((Z96_q y5_c0 x12 a2).bind fun x27 => (k_rec_25 x27.2 x12.FSels x27.1).bind fun x28 => some x28))) fun y10_c0 => Z97_q3 a2 k_rec_25 (r3) y10_c0
theorem Z97_l3_qe {a1 : (Sl TSel)} {a2 : Bs} {k_rec_25 : Usage_recorder → (Sl TSel) → Bs → Option Usage_recorder}  (Kb3 : (Usage_recorder) → Option Usage_recorder) (hend : ∀ (n3 : Nat) (s11_4 : Nat) (y5_c0 : Usage_recorder), some y5_c0 = Kb3 y5_c0) : ∀ (n3 : Nat) (s11_4 : Nat) (y5_c0 : Usage_recorder), (0 < n3 ∧ a1.l.length < s11_4 + n3) → Z97_l3 a1 a2 k_rec_25 n3 s11_4 y5_c0 = Option.bind (Z97_q3 a2 k_rec_25 (a1.l.drop s11_4) y5_c0) Kb3 := by
 intro n3
 induction n3 with
 | zero => intro s11_4 y5_c0 hn; exact absurd hn.1 (by omega)
 | succ n3 ih3 =>
  intro s11_4 y5_c0 hn
  rw [Z97_l3]
  by_cases hlt : s11_4 < a1.l.length
  ·obtain ⟨h3, hh3⟩ : ∃ x, a1.l[s11_4]? = some x := ⟨_, List.getElem?_eq_getElem hlt⟩
   rw [Q.drop_of hh3, Z97_q3]
   refine Q.condT (Q.ltT hlt) ?_
   refine Q.bindPO hh3 fun x12 hx_x12 => ?_
   refine Q.wrapOO fun Kj9 hKj9 => ?_
   have hj9 : ∀ (y10_c0 : Usage_recorder), Z97_j9 s11_4 (Z97_l3 a1 a2 k_rec_25 n3) y10_c0 = Kj9 y10_c0 := by
    intro y10_c0
    refine Eq.trans ?_ (hKj9 _).symm
    unfold Z97_j9
    all_goals exact ih3 _ _ ⟨by omega, by omega⟩
   refine Q.condO ?_ ?_
   ·all_goals exact hj9 _
   refine Q.condO ?_ ?_
   ·refine Q.wrapOO fun Kj19 hKj19 => ?_
    have hj19 : ∀ (s8_20 : Bs) (y21_c0 : Usage_recorder), Z97_j19 s11_4 x12 (Z97_l3 a1 a2 k_rec_25 n3) k_rec_25 s8_20 y21_c0 = Kj19 (s8_20, y21_c0) := by
     intro s8_20 y21_c0
     refine Eq.trans ?_ (hKj19 _).symm
     try dsimp only
     unfold Z97_j19
     refine Q.bindO rfl fun x22 => ?_
     all_goals exact hj9 _
    refine Q.condO ?_ ?_
    ·refine Q.bindO (Z95_eq _ _) fun x26 => ?_
     all_goals exact hj19 _ _
    all_goals exact hj19 _ _
   refine Q.bindO (Z96_eq _ _ _) fun x27 => ?_
   refine Q.bindO rfl fun x28 => ?_
   all_goals exact hj9 _
  rw [List.drop_of_length_le (by omega), Z97_q3]
  refine Q.condF (Q.ltF hlt) ?_
  exact hend n3 s11_4 y5_c0
def Z97_qn : Nat → Usage_recorder → (Sl TSel) → Bs → Option Usage_recorder
 | 0, _, _, _ => none
 | n + 1, a0, a1, a2 => Option.bind (Z97_q3 a2 (Z97_qn n) a1.l a0) fun y5_c0 => some y5_c0
theorem Z97_qall : ∀ n : Nat, Z97_n n = Z97_qn n := by
 intro n
 induction n with
 | zero => exact (by funext a0 a1 a2; first | rfl | (rw [Z97_n, Z97_qn]))
 | succ n ih =>
  funext a0 a1 a2
  refine Eq.trans ?_ (Q.some_bind _)
  rw [Z97_n, Z97_qn]
  try rw [ih]
  refine Q.wrapOO fun Kb3 hKb3 => ?_
  refine Z97_l3_qe  Kb3 ?_ _ _ _ ⟨Nat.succ_pos _, by omega⟩
  intro n3 s11_4 y5_c0
  refine Eq.trans ?_ (hKb3 _).symm
  all_goals rfl
def Z97_q (a0 : Usage_recorder) (a1 : (Sl TSel)) (a2 : Bs) : Option Usage_recorder := Z97_qn F0 a0 a1 a2
theorem Z97_eq (a0 : Usage_recorder) (a1 : (Sl TSel)) (a2 : Bs) : Z97 a0 a1 a2 = Z97_q a0 a1 a2 := by
 unfold Z97 Z97_q; rw [(Z97_qall F0)]
def Z92_q39 (a1 : TQuery) : List Bs → Usage_recorder → Option (Usage_recorder)
 | [], y41_id34_9 => some y41_id34_9
 | h39 :: r39, y41_id34_9 => on (h39) fun x47 => on (Z4_q a1 x47) fun x49 => (Z95_q y41_id34_9 x49.1.FOn).bind fun x51 => (Z97_q x51 x49.1.FSels x49.1.FOn).bind fun x52 => Z92_q39 a1 (r39) x52
theorem Z92_l39_qe {a1 : TQuery} {x7 : TOp} {x15 : ((Sl Bs) × Bool)}  (Kb39 : (Usage_recorder) → Option (Sl TUse)) (hend : ∀ (n39 : Nat) (s51_40 : Nat) (y41_id34_9 : Usage_recorder), Z92_j16 x7  y41_id34_9 = Kb39 y41_id34_9) : ∀ (n39 : Nat) (s51_40 : Nat) (y41_id34_9 : Usage_recorder), (0 < n39 ∧ x15.1.l.length < s51_40 + n39) → Z92_l39 a1 x7 x15 n39 s51_40 y41_id34_9 = Option.bind (Z92_q39 a1 (x15.1.l.drop s51_40) y41_id34_9) Kb39 := by
 intro n39
 induction n39 with
 | zero => intro s51_40 y41_id34_9 hn; exact absurd hn.1 (by omega)
 | succ n39 ih39 =>
  intro s51_40 y41_id34_9 hn
  rw [Z92_l39]
  by_cases hlt : s51_40 < x15.1.l.length
  ·obtain ⟨h39, hh39⟩ : ∃ x, x15.1.l[s51_40]? = some x := ⟨_, List.getElem?_eq_getElem hlt⟩
   rw [Q.drop_of hh39, Z92_q39]
   refine Q.condT (Q.ltT hlt) ?_
   refine Q.bindPO hh39 fun x47 hx_x47 => ?_
   refine Q.bindPO (Z4_eq _ _) fun x49 hx_x49 => ?_
   refine Q.bindO (Z95_eq _ _) fun x51 => ?_
   refine Q.bindO (Z97_eq _ _ _) fun x52 => ?_
   all_goals exact ih39 _ _ ⟨by omega, by omega⟩
  rw [List.drop_of_length_le (by omega), Z92_q39]
  refine Q.condF (Q.ltF hlt) ?_
  exact hend n39 s51_40 y41_id34_9
def Z92_q24  : List TVar → Usage_recorder → Option (Usage_recorder)
 | [], y26_id34_9 => some y26_id34_9
 | h24 :: r24, y26_id34_9 => on (h24) fun x33 => Option.bind (bif x33.FHas then ((Z99 y26_id34_9 x33.FDefault x33.FType).bind fun x36 => some x36) else (some y26_id34_9)) fun y31_id34_9 => Z92_q24  (r24) y31_id34_9
theorem Z92_l24_qe {x7 : TOp}  (Kb24 : (Usage_recorder) → Option (Sl TUse)) (hend : ∀ (n24 : Nat) (s75_25 : Nat) (y26_id34_9 : Usage_recorder), Z92_j18   y26_id34_9 = Kb24 y26_id34_9) : ∀ (n24 : Nat) (s75_25 : Nat) (y26_id34_9 : Usage_recorder), (0 < n24 ∧ x7.FVars.l.length < s75_25 + n24) → Z92_l24 x7 n24 s75_25 y26_id34_9 = Option.bind (Z92_q24  (x7.FVars.l.drop s75_25) y26_id34_9) Kb24 := by
 intro n24
 induction n24 with
 | zero => intro s75_25 y26_id34_9 hn; exact absurd hn.1 (by omega)
 | succ n24 ih24 =>
  intro s75_25 y26_id34_9 hn
  rw [Z92_l24]
  by_cases hlt : s75_25 < x7.FVars.l.length
  ·obtain ⟨h24, hh24⟩ : ∃ x, x7.FVars.l[s75_25]? = some x := ⟨_, List.getElem?_eq_getElem hlt⟩
   rw [Q.drop_of hh24, Z92_q24]
   refine Q.condT (Q.ltT hlt) ?_
   refine Q.bindPO hh24 fun x33 hx_x33 => ?_
   refine Q.wrapOO fun Kj30 hKj30 => ?_
   have hj30 : ∀ (y31_id34_9 : Usage_recorder), Z92_j30 s75_25 (Z92_l24 x7 n24) y31_id34_9 = Kj30 y31_id34_9 := by
    intro y31_id34_9
    refine Eq.trans ?_ (hKj30 _).symm
    unfold Z92_j30
    all_goals exact ih24 _ _ ⟨by omega, by omega⟩
   refine Q.condO ?_ ?_
   ·refine Q.bindO rfl fun x36 => ?_
    all_goals exact hj30 _
   all_goals exact hj30 _
  rw [List.drop_of_length_le (by omega), Z92_q24]
  refine Q.condF (Q.ltF hlt) ?_
  exact hend n24 s75_25 y26_id34_9
def Z92_q (a0 : TDoc) (a1 : TQuery) (a2 : Int) : Option (Sl TUse) := bif ((decide (a2 < (0 : Int))) || (decide (((a1.FOps.l.length : Nat) : Int) ≤ a2))) then (some (Sl.nil : Sl TUse)) else ((idxC a1.FOps.l a2).bind fun x7 => on (Z74_q x7.FKind) fun x12 => (Z97_q (Usage_recorder.mk a0 a1 (Sl.nil : Sl TUse)) x7.FSels x12).bind fun x13 => (Z5_q a1 x7.FSels).bind fun x15 => Option.bind (Z92_q39 a1 x15.1.l x13) fun y41_id34_9 => on (y41_id34_9) fun y17_id34_9 => Option.bind (Z92_q24  x7.FVars.l y17_id34_9) fun y26_id34_9 => on (y26_id34_9) fun y19_id34_9 => (Z93_q y19_id34_9.Fout).bind fun x21 => some x21)
theorem Z92_eq (a0 : TDoc) (a1 : TQuery) (a2 : Int) : Z92 a0 a1 a2 = Z92_q a0 a1 a2 := by
 unfold Z92 Z92_q
 refine Eq.trans ?_ (Q.some_bind _)
 refine Q.condO ?_ ?_
 ·all_goals rfl
 refine Q.bindO rfl fun x7 => ?_
 refine Q.bindPO (Z74_eq _) fun x12 hx_x12 => ?_
 refine Q.bindO (Z97_eq _ _ _) fun x13 => ?_
 refine Q.bindO (Z5_eq _ _) fun x15 => ?_
 refine Q.wrapOO fun Kb39 hKb39 => ?_
 refine Z92_l39_qe  Kb39 ?_ _ _ _ ⟨Nat.succ_pos _, by omega⟩
 intro n39 s51_40 y41_id34_9
 refine Eq.trans ?_ (hKb39 _).symm
 refine Q.wrapPO fun Kj16 hKj16 => ?_
 have hj16 : ∀ (y17_id34_9 : Usage_recorder), Z92_j16 x7 y17_id34_9 = Kj16 y17_id34_9 := by
  intro y17_id34_9
  refine Eq.trans ?_ (hKj16 _).symm
  unfold Z92_j16
  refine Q.wrapOO fun Kb24 hKb24 => ?_
  refine Z92_l24_qe  Kb24 ?_ _ _ _ ⟨Nat.succ_pos _, by omega⟩
  intro n24 s75_25 y26_id34_9
  refine Eq.trans ?_ (hKb24 _).symm
  refine Q.wrapPO fun Kj18 hKj18 => ?_
  have hj18 : ∀ (y19_id34_9 : Usage_recorder), Z92_j18  y19_id34_9 = Kj18 y19_id34_9 := by
   intro y19_id34_9
   refine Eq.trans ?_ (hKj18 _).symm
   unfold Z92_j18
   refine Q.bindO (Z93_eq _) fun x21 => ?_
   all_goals rfl
  all_goals exact hj18 _
 all_goals exact hj16 _
def Z49_q6 (a1 : Bs) : List TDef → Unit ⊕ ((TDef × Bool))
 | [] => Sum.inl ()
 | h6 :: r6 => on (h6) fun x15 => bif ((x15.FName == a1)) then (on (h6) fun x18 => Sum.inr (x18, true)) else (Z49_q6 a1 (r6) )
theorem Z49_l6_qe {a0 : TDoc} {a1 : Bs}  (Kb6 : (Unit ⊕ ((TDef × Bool))) → Option (TDef × Bool)) (hend : ∀ (n6 : Nat) (s6_7 : Nat) (y8_l0 : TDef), Z49_j2   y8_l0 = Kb6 (Sum.inl ())) (hret : ∀ e : (TDef × Bool), some e = Kb6 (Sum.inr e)) : ∀ (n6 : Nat) (s6_7 : Nat) (y8_l0 : TDef), (0 < n6 ∧ a0.FDefs.l.length < s6_7 + n6) → Z49_l6 a0 a1 n6 s6_7 y8_l0 = Kb6 (Z49_q6 a1 (a0.FDefs.l.drop s6_7) ) := by
 intro n6
 induction n6 with
 | zero => intro s6_7 y8_l0 hn; exact absurd hn.1 (by omega)
 | succ n6 ih6 =>
  intro s6_7 y8_l0 hn
  rw [Z49_l6]
  by_cases hlt : s6_7 < a0.FDefs.l.length
  ·obtain ⟨h6, hh6⟩ : ∃ x, a0.FDefs.l[s6_7]? = some x := ⟨_, List.getElem?_eq_getElem hlt⟩
   rw [Q.drop_of hh6, Z49_q6]
   refine Q.condT (Q.ltT hlt) ?_
   refine Q.bindP hh6 fun x15 hx_x15 => ?_
   refine Q.condP ?_ ?_
   ·refine Q.bindP hh6 fun x18 hx_x18 => ?_
    all_goals exact hret _
   all_goals exact ih6 _ _ ⟨by omega, by omega⟩
  rw [List.drop_of_length_le (by omega), Z49_q6]
  refine Q.condF (Q.ltF hlt) ?_
  exact hend n6 s6_7 y8_l0
def Z49_q (a0 : TDoc) (a1 : Bs) : (TDef × Bool) := on (Z49_q6 a1 a0.FDefs.l ) fun o6 => match o6 with | Sum.inl _ => (on (()) fun _ => ((TDef.mk (0 : Int) ([] : Bs) (Sl.nil : Sl Bs) (Sl.nil : Sl TDir) (Sl.nil : Sl TField) (Sl.nil : Sl TMember) (Sl.nil : Sl TInput)), false)) | Sum.inr e6 => (e6)
theorem Z49_eq (a0 : TDoc) (a1 : Bs) : Z49 a0 a1 = some (Z49_q a0 a1) := by
 unfold Z49 Z49_q
 refine Q.wrapPP fun Kb6 hKb6 => ?_
 refine Z49_l6_qe  Kb6 ?_ ?_ _ _ _ ⟨Nat.succ_pos _, by omega⟩
 ·intro n6 s6_7 y8_l0
  refine Eq.trans ?_ (hKb6 _).symm
  try dsimp only
  refine Q.wrapPP fun Kj2 hKj2 => ?_
  have hj2 : ∀ (y3_l0 : TDef), Z49_j2  y3_l0 = Kj2 () := by
   intro y3_l0
   refine Eq.trans ?_ (hKj2 _).symm
   unfold Z49_j2
   all_goals rfl
  all_goals exact hj2 _
 intro e6
 refine Eq.trans ?_ (hKb6 _).symm
 try dsimp only
 all_goals rfl
def Z53_q (a0 : Bs) : Bool := (((((a0 == ([73, 110, 116] : Bs))) || ((a0 == ([83, 116, 114, 105, 110, 103] : Bs)))) || ((a0 == ([66, 111, 111, 108, 101, 97, 110] : Bs)))) || ((a0 == ([73, 68] : Bs))))
theorem Z53_eq (a0 : Bs) : Z53 a0 = some (Z53_q a0) := by
 unfold Z53 Z53_q
 all_goals rfl
def Z47_q (a0 : TDoc) (a1 : Bs) : Bool := on (Z49_q a0 a1) fun x3 => on (Z53_q a1) fun x5 => (((!x5) && x3.2) && (((decide (x3.1.FKind = (1 : Int))) || (decide (x3.1.FKind = (2 : Int)))) || (decide (x3.1.FKind = (3 : Int)))))
theorem Z47_eq (a0 : TDoc) (a1 : Bs) : Z47 a0 a1 = some (Z47_q a0 a1) := by
 unfold Z47 Z47_q
 refine Q.bindP (Z49_eq _ _) fun x3 hx_x3 => ?_
 refine Q.bindP (Z53_eq _) fun x5 hx_x5 => ?_
 all_goals rfl
def Z65_q (a0 : TDoc) (a1 : Bs) : Bs := on (Z47_q a0 a1) fun x4 => bif x4 then (a1) else (([] : Bs))
theorem Z65_eq (a0 : TDoc) (a1 : Bs) : Z65 a0 a1 = some (Z65_q a0 a1) := by
 unfold Z65 Z65_q
 refine Q.bindP (Z47_eq _ _) fun x4 hx_x4 => ?_
 refine Q.condP ?_ ?_
 ·all_goals rfl
 all_goals rfl
def Z68_q (a0 : Bs) (a1 : Bs) (a2 : Bs) : TUse := (TUse.mk a0 a1 a2 (1 : Int))
theorem Z68_eq (a0 : Bs) (a1 : Bs) (a2 : Bs) : Z68 a0 a1 a2 = some (Z68_q a0 a1 a2) := by
 unfold Z68 Z68_q
 all_goals rfl
def Z23_q (a0 : TRef) : Bool := on (bif (decide ((0 : Int) < ((a0.FWraps.l.length : Nat) : Int))) then ((a0.FWraps.l)[0]?.getD (0 : Int)) else (0 : Int)) fun x4 => ((decide ((0 : Int) < ((a0.FWraps.l.length : Nat) : Int))) && (decide (x4 = (1 : Int))))
theorem Z23_eq (a0 : TRef) : Z23 a0 = some (Z23_q a0) := by
 unfold Z23 Z23_q
 refine Q.guardT (fun hc => Q.getD_some (by simp at hc; omega)) fun x4 hx_x4 => ?_
 all_goals rfl
def Z29_q (a0 : Int) (a1 : TRef) : Option TRef := (appC 8 (⟨false, [a0]⟩ : Sl Int) a1.FWraps).bind fun x3 => some (TRef.mk a1.FName x3)
theorem Z29_eq (a0 : Int) (a1 : TRef) : Z29 a0 a1 = Z29_q a0 a1 := by
 unfold Z29 Z29_q
 refine Eq.trans ?_ (Q.some_bind _)
 refine Q.bindO rfl fun x3 => ?_
 all_goals rfl
def Z25_q (a0 : TRef) : Option TRef := on (Z23_q a0) fun x4 => bif x4 then ((appC 8 (⟨false, []⟩ : Sl Int) a0.FWraps).bind fun x7 => some (TRef.mk a0.FName x7)) else ((Z29_q (1 : Int) a0).bind fun x9 => some x9)
theorem Z25_eq (a0 : TRef) : Z25 a0 = Z25_q a0 := by
 unfold Z25 Z25_q
 refine Eq.trans ?_ (Q.some_bind _)
 refine Q.bindPO (Z23_eq _) fun x4 hx_x4 => ?_
 refine Q.condO ?_ ?_
 ·refine Q.bindO rfl fun x7 => ?_
  all_goals rfl
 refine Q.bindO (Z29_eq _ _) fun x9 => ?_
 all_goals rfl
def Z24_q (a0 : Bs) : TRef := (TRef.mk a0 (Sl.nil : Sl Int))
theorem Z24_eq (a0 : Bs) : Z24 a0 = some (Z24_q a0) := by
 unfold Z24 Z24_q
 all_goals rfl
def Z48_q6 (a1 : Bs) : List TField → Unit ⊕ ((TField × Bool))
 | [] => Sum.inl ()
 | h6 :: r6 => on (h6) fun x15 => bif ((x15.FName == a1)) then (on (h6) fun x18 => Sum.inr (x18, true)) else (Z48_q6 a1 (r6) )
theorem Z48_l6_qe {a0 : TDef} {a1 : Bs}  (Kb6 : (Unit ⊕ ((TField × Bool))) → Option (TField × Bool)) (hend : ∀ (n6 : Nat) (s6_7 : Nat) (y8_l0 : TField), Z48_j2   y8_l0 = Kb6 (Sum.inl ())) (hret : ∀ e : (TField × Bool), some e = Kb6 (Sum.inr e)) : ∀ (n6 : Nat) (s6_7 : Nat) (y8_l0 : TField), (0 < n6 ∧ a0.FFields.l.length < s6_7 + n6) → Z48_l6 a0 a1 n6 s6_7 y8_l0 = Kb6 (Z48_q6 a1 (a0.FFields.l.drop s6_7) ) := by
 intro n6
 induction n6 with
 | zero => intro s6_7 y8_l0 hn; exact absurd hn.1 (by omega)
 | succ n6 ih6 =>
  intro s6_7 y8_l0 hn
  rw [Z48_l6]
  by_cases hlt : s6_7 < a0.FFields.l.length
  ·obtain ⟨h6, hh6⟩ : ∃ x, a0.FFields.l[s6_7]? = some x := ⟨_, List.getElem?_eq_getElem hlt⟩
   rw [Q.drop_of hh6, Z48_q6]
   refine Q.condT (Q.ltT hlt) ?_
   refine Q.bindP hh6 fun x15 hx_x15 => ?_
   refine Q.condP ?_ ?_
   ·refine Q.bindP hh6 fun x18 hx_x18 => ?_
    all_goals exact hret _
   all_goals exact ih6 _ _ ⟨by omega, by omega⟩
  rw [List.drop_of_length_le (by omega), Z48_q6]
  refine Q.condF (Q.ltF hlt) ?_
  exact hend n6 s6_7 y8_l0
def Z48_q (a0 : TDef) (a1 : Bs) : (TField × Bool) := on (Z48_q6 a1 a0.FFields.l ) fun o6 => match o6 with | Sum.inl _ => (on (()) fun _ => ((TField.mk ([] : Bs) (Sl.nil : Sl TInput) TRef.zero (Sl.nil : Sl TDir)), false)) | Sum.inr e6 => (e6)
theorem Z48_eq (a0 : TDef) (a1 : Bs) : Z48 a0 a1 = some (Z48_q a0 a1) := by
 unfold Z48 Z48_q
 refine Q.wrapPP fun Kb6 hKb6 => ?_
 refine Z48_l6_qe  Kb6 ?_ ?_ _ _ _ ⟨Nat.succ_pos _, by omega⟩
 ·intro n6 s6_7 y8_l0
  refine Eq.trans ?_ (hKb6 _).symm
  try dsimp only
  refine Q.wrapPP fun Kj2 hKj2 => ?_
  have hj2 : ∀ (y3_l0 : TField), Z48_j2  y3_l0 = Kj2 () := by
   intro y3_l0
   refine Eq.trans ?_ (hKj2 _).symm
   unfold Z48_j2
   all_goals rfl
  all_goals exact hj2 _
 intro e6
 refine Eq.trans ?_ (hKb6 _).symm
 try dsimp only
 all_goals rfl
def Z59_q (a0 : TDoc) (a1 : Bs) (a2 : Bs) : Option (TRef × Bool) := on (Z47_q a0 a1) fun x4 => bif (!x4) then (some ((TRef.mk ([] : Bs) (Sl.nil : Sl Int)), false)) else (bif ((a2 == ([95, 95, 116, 121, 112, 101, 110, 97, 109, 101] : Bs))) then (on (Z24_q ([83, 116, 114, 105, 110, 103] : Bs)) fun x11 => (Z25_q x11).bind fun x12 => some (x12, true)) else (on (Z49_q a0 a1) fun x14 => on (Z48_q x14.1 a2) fun x16 => some (x16.1.FType, x16.2)))
theorem Z59_eq (a0 : TDoc) (a1 : Bs) (a2 : Bs) : Z59 a0 a1 a2 = Z59_q a0 a1 a2 := by
 unfold Z59 Z59_q
 refine Eq.trans ?_ (Q.some_bind _)
 refine Q.bindPO (Z47_eq _ _) fun x4 hx_x4 => ?_
 refine Q.condO ?_ ?_
 ·all_goals rfl
 refine Q.condO ?_ ?_
 ·refine Q.bindPO (Z24_eq _) fun x11 hx_x11 => ?_
  refine Q.bindO (Z25_eq _) fun x12 => ?_
  all_goals rfl
 refine Q.bindPO (Z49_eq _ _) fun x14 hx_x14 => ?_
 refine Q.bindPO (Z48_eq _ _) fun x16 hx_x16 => ?_
 all_goals rfl
def Z28_q (a0 : TRef) : Option TRef := (partC a0.FWraps (some (1 : Int)) none).bind fun x3 => (appC 8 (⟨false, []⟩ : Sl Int) x3).bind fun x4 => some (TRef.mk a0.FName x4)
theorem Z28_eq (a0 : TRef) : Z28 a0 = Z28_q a0 := by
 unfold Z28 Z28_q
 refine Eq.trans ?_ (Q.some_bind _)
 refine Q.bindO rfl fun x3 => ?_
 refine Q.bindO rfl fun x4 => ?_
 all_goals rfl
def Z26_q (a0 : TRef) : Option TRef := on (Z23_q a0) fun x4 => bif x4 then ((Z28_q a0).bind fun x7 => some x7) else ((appC 8 (⟨false, []⟩ : Sl Int) a0.FWraps).bind fun x9 => some (TRef.mk a0.FName x9))
theorem Z26_eq (a0 : TRef) : Z26 a0 = Z26_q a0 := by
 unfold Z26 Z26_q
 refine Eq.trans ?_ (Q.some_bind _)
 refine Q.bindPO (Z23_eq _) fun x4 hx_x4 => ?_
 refine Q.condO ?_ ?_
 ·refine Q.bindO (Z28_eq _) fun x7 => ?_
  all_goals rfl
 refine Q.bindO rfl fun x9 => ?_
 all_goals rfl
def Z22_q (a0 : TRef) : Option Bool := (Z26_q a0).bind fun x3 => on (bif (decide ((0 : Int) < ((x3.FWraps.l.length : Nat) : Int))) then ((x3.FWraps.l)[0]?.getD (0 : Int)) else (0 : Int)) fun x6 => some ((decide ((0 : Int) < ((x3.FWraps.l.length : Nat) : Int))) && (decide (x6 = (2 : Int))))
theorem Z22_eq (a0 : TRef) : Z22 a0 = Z22_q a0 := by
 unfold Z22 Z22_q
 refine Eq.trans ?_ (Q.some_bind _)
 refine Q.bindO (Z26_eq _) fun x3 => ?_
 refine Q.guardTO (fun hc => Q.getD_some (by simp at hc; omega)) fun x6 hx_x6 => ?_
 all_goals rfl
def Z21_q (a0 : TRef) : Option (TRef × Bool) := (Z22_q a0).bind fun x4 => bif (!x4) then (some ((TRef.mk ([] : Bs) (Sl.nil : Sl Int)), false)) else ((Z26_q a0).bind fun x8 => (Z28_q x8).bind fun x9 => some (x9, true))
theorem Z21_eq (a0 : TRef) : Z21 a0 = Z21_q a0 := by
 unfold Z21 Z21_q
 refine Eq.trans ?_ (Q.some_bind _)
 refine Q.bindO (Z22_eq _) fun x4 => ?_
 refine Q.condO ?_ ?_
 ·all_goals rfl
 refine Q.bindO (Z26_eq _) fun x8 => ?_
 refine Q.bindO (Z28_eq _) fun x9 => ?_
 all_goals rfl
def Z50_q6 (a1 : Bs) : List TInput → Unit ⊕ ((TInput × Bool))
 | [] => Sum.inl ()
 | h6 :: r6 => on (h6) fun x15 => bif ((x15.FName == a1)) then (on (h6) fun x18 => Sum.inr (x18, true)) else (Z50_q6 a1 (r6) )
theorem Z50_l6_qe {a0 : (Sl TInput)} {a1 : Bs}  (Kb6 : (Unit ⊕ ((TInput × Bool))) → Option (TInput × Bool)) (hend : ∀ (n6 : Nat) (s6_7 : Nat) (y8_l0 : TInput), Z50_j2   y8_l0 = Kb6 (Sum.inl ())) (hret : ∀ e : (TInput × Bool), some e = Kb6 (Sum.inr e)) : ∀ (n6 : Nat) (s6_7 : Nat) (y8_l0 : TInput), (0 < n6 ∧ a0.l.length < s6_7 + n6) → Z50_l6 a0 a1 n6 s6_7 y8_l0 = Kb6 (Z50_q6 a1 (a0.l.drop s6_7) ) := by
 intro n6
 induction n6 with
 | zero => intro s6_7 y8_l0 hn; exact absurd hn.1 (by omega)
 | succ n6 ih6 =>
  intro s6_7 y8_l0 hn
  rw [Z50_l6]
  by_cases hlt : s6_7 < a0.l.length
  ·obtain ⟨h6, hh6⟩ : ∃ x, a0.l[s6_7]? = some x := ⟨_, List.getElem?_eq_getElem hlt⟩
   rw [Q.drop_of hh6, Z50_q6]
   refine Q.condT (Q.ltT hlt) ?_
   refine Q.bindP hh6 fun x15 hx_x15 => ?_
   refine Q.condP ?_ ?_
   ·refine Q.bindP hh6 fun x18 hx_x18 => ?_
    all_goals exact hret _
   all_goals exact ih6 _ _ ⟨by omega, by omega⟩
  rw [List.drop_of_length_le (by omega), Z50_q6]
  refine Q.condF (Q.ltF hlt) ?_
  exact hend n6 s6_7 y8_l0
def Z50_q (a0 : (Sl TInput)) (a1 : Bs) : (TInput × Bool) := on (Z50_q6 a1 a0.l ) fun o6 => match o6 with | Sum.inl _ => (on (()) fun _ => ((TInput.mk ([] : Bs) TRef.zero false TValue.zero (Sl.nil : Sl TDir)), false)) | Sum.inr e6 => (e6)
theorem Z50_eq (a0 : (Sl TInput)) (a1 : Bs) : Z50 a0 a1 = some (Z50_q a0 a1) := by
 unfold Z50 Z50_q
 refine Q.wrapPP fun Kb6 hKb6 => ?_
 refine Z50_l6_qe  Kb6 ?_ ?_ _ _ _ ⟨Nat.succ_pos _, by omega⟩
 ·intro n6 s6_7 y8_l0
  refine Eq.trans ?_ (hKb6 _).symm
  try dsimp only
  refine Q.wrapPP fun Kj2 hKj2 => ?_
  have hj2 : ∀ (y3_l0 : TInput), Z50_j2  y3_l0 = Kj2 () := by
   intro y3_l0
   refine Eq.trans ?_ (hKj2 _).symm
   unfold Z50_j2
   all_goals rfl
  all_goals exact hj2 _
 intro e6
 refine Eq.trans ?_ (hKb6 _).symm
 try dsimp only
 all_goals rfl
def Z69_q12 (a0 : TDoc) (x4 : (TRef × Bool)) (k_rec_34 : TDoc → TRef → TValue → Option (Sl TUse)) : List TValue → (Sl TUse) → Option ((Sl TUse))
 | [], s7_13 => some s7_13
 | h12 :: r12, s7_13 => bif x4.2 then (on (h12) fun x20 => (k_rec_34 a0 x4.1 x20).bind fun x21 => (appC 56 s7_13 x21).bind fun x22 => Z69_q12 a0 x4 k_rec_34 (r12) x22) else (some s7_13)
theorem Z69_l12_qe {a0 : TDoc} {a2 : TValue} {x4 : (TRef × Bool)} {k_rec_34 : TDoc → TRef → TValue → Option (Sl TUse)}  (Kb12 : ((Sl TUse)) → Option (Sl TUse)) (hend : ∀ (n12 : Nat) (s7_13 : (Sl TUse)) (s10_14 : Nat), Z69_j8   s7_13 = Kb12 s7_13) : ∀ (n12 : Nat) (s7_13 : (Sl TUse)) (s10_14 : Nat), (0 < n12 ∧ a2.FItems.l.length < s10_14 + n12) → Z69_l12 a0 a2 x4 k_rec_34 n12 s7_13 s10_14 = Option.bind (Z69_q12 a0 x4 k_rec_34 (a2.FItems.l.drop s10_14) s7_13) Kb12 := by
 intro n12
 induction n12 with
 | zero => intro s7_13 s10_14 hn; exact absurd hn.1 (by omega)
 | succ n12 ih12 =>
  intro s7_13 s10_14 hn
  rw [Z69_l12]
  by_cases hlt : s10_14 < a2.FItems.l.length
  ·obtain ⟨h12, hh12⟩ : ∃ x, a2.FItems.l[s10_14]? = some x := ⟨_, List.getElem?_eq_getElem hlt⟩
   rw [Q.drop_of hh12, Z69_q12]
   refine Q.condAT (Q.ltT hlt) ?_
   refine Q.condO ?_ ?_
   ·refine Q.bindPO hh12 fun x20 hx_x20 => ?_
    refine Q.bindO rfl fun x21 => ?_
    refine Q.bindO rfl fun x22 => ?_
    all_goals exact ih12 _ _ ⟨by omega, by omega⟩
   all_goals exact hend n12 s7_13 s10_14
  rw [List.drop_of_length_le (by omega), Z69_q12]
  refine Q.condAF (Q.ltF hlt) ?_
  exact hend n12 s7_13 s10_14
def Z69_q41 (a0 : TDoc) (a2 : TValue) (y31_l0 : TDef) (k_rec_34 : TDoc → TRef → TValue → Option (Sl TUse)) : List Bs → Nat → (Sl TUse) → Option ((Sl TUse))
 | [], s13_43, s7_42 => some s7_42
 | h41 :: r41, s13_43, s7_42 => bif (((decide (((s13_43 : Nat) : Int) < ((a2.FItems.l.length : Nat) : Int)))) && (decide (a2.FKind = (6 : Int)))) && (decide (y31_l0.FKind = (5 : Int))) then (on (h41) fun x51 => on (Z50_q y31_l0.FInputs x51) fun x52 => Option.bind (bif x52.2 then ((a2.FItems.l[s13_43]?).bind fun x55 => (k_rec_34 a0 x52.1.FType x55).bind fun x56 => (appC 56 s7_42 x56).bind fun x57 => some x57) else (some s7_42)) fun s7_49 => Z69_q41 a0 a2 y31_l0 k_rec_34 (r41) (s13_43 + 1) s7_49) else (some s7_42)
theorem Z69_l41_qe {a0 : TDoc} {a2 : TValue} {y31_l0 : TDef} {k_rec_34 : TDoc → TRef → TValue → Option (Sl TUse)}  (Kb41 : ((Sl TUse)) → Option (Sl TUse)) (hend : ∀ (n41 : Nat) (s7_42 : (Sl TUse)) (s13_43 : Nat), Z69_j37   s7_42 = Kb41 s7_42) : ∀ (n41 : Nat) (s7_42 : (Sl TUse)) (s13_43 : Nat), (0 < n41 ∧ a2.FKeys.l.length < s13_43 + n41) → Z69_l41 a0 a2 y31_l0 k_rec_34 n41 s7_42 s13_43 = Option.bind (Z69_q41 a0 a2 y31_l0 k_rec_34 (a2.FKeys.l.drop s13_43) s13_43 s7_42) Kb41 := by
 intro n41
 induction n41 with
 | zero => intro s7_42 s13_43 hn; exact absurd hn.1 (by omega)
 | succ n41 ih41 =>
  intro s7_42 s13_43 hn
  rw [Z69_l41]
  by_cases hlt : s13_43 < a2.FKeys.l.length
  ·obtain ⟨h41, hh41⟩ : ∃ x, a2.FKeys.l[s13_43]? = some x := ⟨_, List.getElem?_eq_getElem hlt⟩
   rw [Q.drop_of hh41, Z69_q41]
   refine Q.condA3T (Q.ltT hlt) ?_
   refine Q.condO ?_ ?_
   ·refine Q.bindPO hh41 fun x51 hx_x51 => ?_
    refine Q.bindPO (Z50_eq _ _) fun x52 hx_x52 => ?_
    refine Q.wrapOO fun Kj48 hKj48 => ?_
    have hj48 : ∀ (s7_49 : (Sl TUse)), Z69_j48 s13_43 (Z69_l41 a0 a2 y31_l0 k_rec_34 n41) s7_49 = Kj48 s7_49 := by
     intro s7_49
     refine Eq.trans ?_ (hKj48 _).symm
     unfold Z69_j48
     all_goals exact ih41 _ _ ⟨by omega, by omega⟩
    refine Q.condO ?_ ?_
    ·refine Q.bindO rfl fun x55 => ?_
     refine Q.bindO rfl fun x56 => ?_
     refine Q.bindO rfl fun x57 => ?_
     all_goals exact hj48 _
    all_goals exact hj48 _
   all_goals exact hend n41 s7_42 s13_43
  rw [List.drop_of_length_le (by omega), Z69_q41]
  refine Q.condA3F (Q.ltF hlt) ?_
  exact hend n41 s7_42 s13_43
def Z69_qn : Nat → TDoc → TRef → TValue → Option (Sl TUse)
 | 0, _, _, _ => none
 | n + 1, a0, a1, a2 => (Z21_q a1).bind fun x4 => bif (decide (a2.FKind = (5 : Int))) then (Option.bind (Z69_q12 a0 x4 (Z69_qn n) a2.FItems.l (Sl.nil : Sl TUse)) fun s7_13 => on (s7_13) fun s7_9 => some s7_9) else (bif x4.2 then (((Z69_qn n) a0 x4.1 a2).bind fun x27 => some x27) else (on (Z49_q a0 a1.FName) fun x29 => on (Z53_q a1.FName) fun x59 => on (bif x59 then ((TDef.mk (0 : Int) ([] : Bs) (Sl.nil : Sl Bs) (Sl.nil : Sl TDir) (Sl.nil : Sl TField) (Sl.nil : Sl TMember) (Sl.nil : Sl TInput))) else (x29.1)) fun y31_l0 => bif ((decide (a2.FKind = (4 : Int))) && (decide (y31_l0.FKind = (4 : Int)))) then (on (Z68_q a1.FName a2.FText ([] : Bs)) fun x36 => some (⟨false, [x36]⟩ : Sl TUse)) else (Option.bind (Z69_q41 a0 a2 y31_l0 (Z69_qn n) a2.FKeys.l 0 (Sl.nil : Sl TUse)) fun s7_42 => on (s7_42) fun s7_38 => some s7_38)))
theorem Z69_qall : ∀ n : Nat, Z69_n n = Z69_qn n := by
 intro n
 induction n with
 | zero => exact (by funext a0 a1 a2; first | rfl | (rw [Z69_n, Z69_qn]))
 | succ n ih =>
  funext a0 a1 a2
  refine Eq.trans ?_ (Q.some_bind _)
  rw [Z69_n, Z69_qn]
  try rw [ih]
  refine Q.bindO (Z21_eq _) fun x4 => ?_
  refine Q.condO ?_ ?_
  ·refine Q.wrapOO fun Kb12 hKb12 => ?_
   refine Z69_l12_qe  Kb12 ?_ _ _ _ ⟨Nat.succ_pos _, by omega⟩
   intro n12 s7_13 s10_14
   refine Eq.trans ?_ (hKb12 _).symm
   refine Q.wrapPO fun Kj8 hKj8 => ?_
   have hj8 : ∀ (s7_9 : (Sl TUse)), Z69_j8  s7_9 = Kj8 s7_9 := by
    intro s7_9
    refine Eq.trans ?_ (hKj8 _).symm
    unfold Z69_j8
    all_goals rfl
   all_goals exact hj8 _
  refine Q.condO ?_ ?_
  ·refine Q.bindO rfl fun x27 => ?_
   all_goals rfl
  refine Q.bindPO (Z49_eq _ _) fun x29 hx_x29 => ?_
  refine Q.bindPO (Z53_eq _) fun x59 hx_x59 => ?_
  refine Q.wrapPO fun Kj30 hKj30 => ?_
  have hj30 : ∀ (y31_l0 : TDef), Z69_j30 a0 a1 a2 (Z69_qn n) y31_l0 = Kj30 y31_l0 := by
   intro y31_l0
   refine Eq.trans ?_ (hKj30 _).symm
   unfold Z69_j30
   refine Q.condO ?_ ?_
   ·refine Q.bindPO (Z68_eq _ _ _) fun x36 hx_x36 => ?_
    all_goals rfl
   refine Q.wrapOO fun Kb41 hKb41 => ?_
   refine Z69_l41_qe  Kb41 ?_ _ _ _ ⟨Nat.succ_pos _, by omega⟩
   intro n41 s7_42 s13_43
   refine Eq.trans ?_ (hKb41 _).symm
   refine Q.wrapPO fun Kj37 hKj37 => ?_
   have hj37 : ∀ (s7_38 : (Sl TUse)), Z69_j37  s7_38 = Kj37 s7_38 := by
    intro s7_38
    refine Eq.trans ?_ (hKj37 _).symm
    unfold Z69_j37
    all_goals rfl
   all_goals exact hj37 _
  refine Q.condP ?_ ?_
  ·all_goals exact hj30 _
  all_goals exact hj30 _
def Z69_q (a0 : TDoc) (a1 : TRef) (a2 : TValue) : Option (Sl TUse) := Z69_qn F0 a0 a1 a2
theorem Z69_eq (a0 : TDoc) (a1 : TRef) (a2 : TValue) : Z69 a0 a1 a2 = Z69_q a0 a1 a2 := by
 unfold Z69 Z69_q; rw [(Z69_qall F0)]
def Z63_q12 (a0 : TDoc) (a1 : TSel) (a2 : Bs) (x7 : (TField × Bool)) : List TArg → (Sl TUse) → Option ((Sl TUse))
 | [], s7_13 => some s7_13
 | h12 :: r12, s7_13 => on (h12) fun x22 => on (Z50_q x7.1.FArgs x22.FName) fun x23 => Option.bind (bif x23.2 then (on (h12) fun x27 => on (Z68_q a2 a1.FName x27.FName) fun x28 => (appC 56 s7_13 (⟨false, [x28]⟩ : Sl TUse)).bind fun x29 => on (h12) fun x30 => (Z69_q a0 x23.1.FType x30.FValue).bind fun x31 => (appC 56 x29 x31).bind fun x32 => some x32) else (some s7_13)) fun s7_20 => Z63_q12 a0 a1 a2 x7 (r12) s7_20
theorem Z63_l12_qe {a0 : TDoc} {a1 : TSel} {a2 : Bs} {x7 : (TField × Bool)}  (Kb12 : ((Sl TUse)) → Option (Sl TUse)) (hend : ∀ (n12 : Nat) (s7_13 : (Sl TUse)) (s12_14 : Nat), Z63_j8   s7_13 = Kb12 s7_13) : ∀ (n12 : Nat) (s7_13 : (Sl TUse)) (s12_14 : Nat), (0 < n12 ∧ a1.FArgs.l.length < s12_14 + n12) → Z63_l12 a0 a1 a2 x7 n12 s7_13 s12_14 = Option.bind (Z63_q12 a0 a1 a2 x7 (a1.FArgs.l.drop s12_14) s7_13) Kb12 := by
 intro n12
 induction n12 with
 | zero => intro s7_13 s12_14 hn; exact absurd hn.1 (by omega)
 | succ n12 ih12 =>
  intro s7_13 s12_14 hn
  rw [Z63_l12]
  by_cases hlt : s12_14 < a1.FArgs.l.length
  ·obtain ⟨h12, hh12⟩ : ∃ x, a1.FArgs.l[s12_14]? = some x := ⟨_, List.getElem?_eq_getElem hlt⟩
   rw [Q.drop_of hh12, Z63_q12]
   refine Q.condT (Q.ltT hlt) ?_
   refine Q.bindPO hh12 fun x22 hx_x22 => ?_
   refine Q.bindPO (Z50_eq _ _) fun x23 hx_x23 => ?_
   refine Q.wrapOO fun Kj19 hKj19 => ?_
   have hj19 : ∀ (s7_20 : (Sl TUse)), Z63_j19 s12_14 (Z63_l12 a0 a1 a2 x7 n12) s7_20 = Kj19 s7_20 := by
    intro s7_20
    refine Eq.trans ?_ (hKj19 _).symm
    unfold Z63_j19
    all_goals exact ih12 _ _ ⟨by omega, by omega⟩
   refine Q.condO ?_ ?_
   ·refine Q.bindPO hh12 fun x27 hx_x27 => ?_
    refine Q.bindPO (Z68_eq _ _ _) fun x28 hx_x28 => ?_
    refine Q.bindO rfl fun x29 => ?_
    refine Q.bindPO hh12 fun x30 hx_x30 => ?_
    refine Q.bindO (Z69_eq _ _ _) fun x31 => ?_
    refine Q.bindO rfl fun x32 => ?_
    all_goals exact hj19 _
   all_goals exact hj19 _
  rw [List.drop_of_length_le (by omega), Z63_q12]
  refine Q.condF (Q.ltF hlt) ?_
  exact hend n12 s7_13 s12_14
def Z63_q (a0 : TDoc) (a1 : TSel) (a2 : Bs) : Option (Sl TUse) := on (Z68_q a2 a1.FName ([] : Bs)) fun x3 => on (Z49_q a0 a2) fun x5 => on (Z48_q x5.1 a1.FName) fun x7 => Option.bind (Z63_q12 a0 a1 a2 x7 a1.FArgs.l (⟨false, [x3]⟩ : Sl TUse)) fun s7_13 => on (s7_13) fun s7_9 => some s7_9
theorem Z63_eq (a0 : TDoc) (a1 : TSel) (a2 : Bs) : Z63 a0 a1 a2 = Z63_q a0 a1 a2 := by
 unfold Z63 Z63_q
 refine Eq.trans ?_ (Q.some_bind _)
 refine Q.bindPO (Z68_eq _ _ _) fun x3 hx_x3 => ?_
 refine Q.bindPO (Z49_eq _ _) fun x5 hx_x5 => ?_
 refine Q.bindPO (Z48_eq _ _) fun x7 hx_x7 => ?_
 refine Q.wrapOO fun Kb12 hKb12 => ?_
 refine Z63_l12_qe  Kb12 ?_ _ _ _ ⟨Nat.succ_pos _, by omega⟩
 intro n12 s7_13 s12_14
 refine Eq.trans ?_ (hKb12 _).symm
 refine Q.wrapPO fun Kj8 hKj8 => ?_
 have hj8 : ∀ (s7_9 : (Sl TUse)), Z63_j8  s7_9 = Kj8 s7_9 := by
  intro s7_9
  refine Eq.trans ?_ (hKj8 _).symm
  unfold Z63_j8
  all_goals rfl
 all_goals exact hj8 _
def Z67_q7 (a0 : TDoc) (a2 : Bs) (k_rec_28 : TDoc → (Sl TSel) → Bs → Option (Sl TUse)) : List TSel → (Sl TUse) → Option ((Sl TUse))
 | [], s7_8 => some s7_8
 | h7 :: r7, s7_8 => on (h7) fun x17 => Option.bind (bif (decide (x17.FKind = (2 : Int))) then (some s7_8) else (Option.bind (bif (decide (x17.FKind = (3 : Int))) then (on (bif (!(x17.FOn == ([] : Bs))) then (on (Z65_q a0 x17.FOn) fun x37 => x37) else (a2)) fun s10_30 => bif ((!(x17.FOn == ([] : Bs))) && (!(s10_30 == ([] : Bs)))) then (on (Z68_q s10_30 ([] : Bs) ([] : Bs)) fun x33 => (appC 56 s7_8 (⟨false, [x33]⟩ : Sl TUse)).bind fun x34 => some (x34, s10_30)) else (some (s7_8, s10_30))) else ((Z59_q a0 a2 x17.FName).bind fun x39 => bif x39.2 then ((Z63_q a0 x17 a2).bind fun x44 => (appC 56 s7_8 x44).bind fun x45 => on (Z65_q a0 x39.1.FName) fun x46 => some (x45, x46)) else (some (s7_8, ([] : Bs))))) fun z19 => (k_rec_28 a0 x17.FSels z19.2).bind fun x22 => (appC 56 z19.1 x22).bind fun x23 => some x23)) fun s7_15 => Z67_q7 a0 a2 k_rec_28 (r7) s7_15
theorem Z67_l7_qe {a0 : TDoc} {a1 : (Sl TSel)} {a2 : Bs} {k_rec_28 : TDoc → (Sl TSel) → Bs → Option (Sl TUse)}  (Kb7 : ((Sl TUse)) → Option (Sl TUse)) (hend : ∀ (n7 : Nat) (s7_8 : (Sl TUse)) (s8_9 : Nat), Z67_j3   s7_8 = Kb7 s7_8) : ∀ (n7 : Nat) (s7_8 : (Sl TUse)) (s8_9 : Nat), (0 < n7 ∧ a1.l.length < s8_9 + n7) → Z67_l7 a0 a1 a2 k_rec_28 n7 s7_8 s8_9 = Option.bind (Z67_q7 a0 a2 k_rec_28 (a1.l.drop s8_9) s7_8) Kb7 := by
 intro n7
 induction n7 with
 | zero => intro s7_8 s8_9 hn; exact absurd hn.1 (by omega)
 | succ n7 ih7 =>
  intro s7_8 s8_9 hn
  rw [Z67_l7]
  by_cases hlt : s8_9 < a1.l.length
  ·obtain ⟨h7, hh7⟩ : ∃ x, a1.l[s8_9]? = some x := ⟨_, List.getElem?_eq_getElem hlt⟩
   rw [Q.drop_of hh7, Z67_q7]
   refine Q.condT (Q.ltT hlt) ?_
   refine Q.bindPO hh7 fun x17 hx_x17 => ?_
   refine Q.wrapOO fun Kj14 hKj14 => ?_
   have hj14 : ∀ (s7_15 : (Sl TUse)), Z67_j14 s8_9 (Z67_l7 a0 a1 a2 k_rec_28 n7) s7_15 = Kj14 s7_15 := by
    intro s7_15
    refine Eq.trans ?_ (hKj14 _).symm
    unfold Z67_j14
    all_goals exact ih7 _ _ ⟨by omega, by omega⟩
   refine Q.condO ?_ ?_
   ·all_goals exact hj14 _
   refine Q.wrapOO fun Kj19 hKj19 => ?_
   have hj19 : ∀ (s7_20 : (Sl TUse)) (s10_21 : Bs), Z67_j19 a0 s8_9 x17 (Z67_l7 a0 a1 a2 k_rec_28 n7) k_rec_28 s7_20 s10_21 = Kj19 (s7_20, s10_21) := by
    intro s7_20 s10_21
    refine Eq.trans ?_ (hKj19 _).symm
    try dsimp only
    unfold Z67_j19
    refine Q.bindO rfl fun x22 => ?_
    refine Q.bindO rfl fun x23 => ?_
    all_goals exact hj14 _
   refine Q.condO ?_ ?_
   ·refine Q.wrapPO fun Kj29 hKj29 => ?_
    have hj29 : ∀ (s10_30 : Bs), Z67_j29 a0 s7_8 s8_9 x17 (Z67_l7 a0 a1 a2 k_rec_28 n7) k_rec_28 s10_30 = Kj29 s10_30 := by
     intro s10_30
     refine Eq.trans ?_ (hKj29 _).symm
     unfold Z67_j29
     refine Q.condO ?_ ?_
     ·refine Q.bindPO (Z68_eq _ _ _) fun x33 hx_x33 => ?_
      refine Q.bindO rfl fun x34 => ?_
      all_goals exact hj19 _ _
     all_goals exact hj19 _ _
    refine Q.condP ?_ ?_
    ·refine Q.bindP (Z65_eq _ _) fun x37 hx_x37 => ?_
     all_goals exact hj29 _
    all_goals exact hj29 _
   refine Q.bindO (Z59_eq _ _ _) fun x39 => ?_
   refine Q.condO ?_ ?_
   ·refine Q.bindO (Z63_eq _ _ _) fun x44 => ?_
    refine Q.bindO rfl fun x45 => ?_
    refine Q.bindPO (Z65_eq _ _) fun x46 hx_x46 => ?_
    all_goals exact hj19 _ _
   all_goals exact hj19 _ _
  rw [List.drop_of_length_le (by omega), Z67_q7]
  refine Q.condF (Q.ltF hlt) ?_
  exact hend n7 s7_8 s8_9
def Z67_qn : Nat → TDoc → (Sl TSel) → Bs → Option (Sl TUse)
 | 0, _, _, _ => none
 | n + 1, a0, a1, a2 => Option.bind (Z67_q7 a0 a2 (Z67_qn n) a1.l (Sl.nil : Sl TUse)) fun s7_8 => on (s7_8) fun s7_4 => some s7_4
theorem Z67_qall : ∀ n : Nat, Z67_n n = Z67_qn n := by
 intro n
 induction n with
 | zero => exact (by funext a0 a1 a2; first | rfl | (rw [Z67_n, Z67_qn]))
 | succ n ih =>
  funext a0 a1 a2
  refine Eq.trans ?_ (Q.some_bind _)
  rw [Z67_n, Z67_qn]
  try rw [ih]
  refine Q.wrapOO fun Kb7 hKb7 => ?_
  refine Z67_l7_qe  Kb7 ?_ _ _ _ ⟨Nat.succ_pos _, by omega⟩
  intro n7 s7_8 s8_9
  refine Eq.trans ?_ (hKb7 _).symm
  refine Q.wrapPO fun Kj3 hKj3 => ?_
  have hj3 : ∀ (s7_4 : (Sl TUse)), Z67_j3  s7_4 = Kj3 s7_4 := by
   intro s7_4
   refine Eq.trans ?_ (hKj3 _).symm
   unfold Z67_j3
   all_goals rfl
  all_goals exact hj3 _
def Z67_q (a0 : TDoc) (a1 : (Sl TSel)) (a2 : Bs) : Option (Sl TUse) := Z67_qn F0 a0 a1 a2
theorem Z67_eq (a0 : TDoc) (a1 : (Sl TSel)) (a2 : Bs) : Z67 a0 a1 a2 = Z67_q a0 a1 a2 := by
 unfold Z67 Z67_q; rw [(Z67_qall F0)]
def Z52_q (a0 : Int) : Bs := bif (decide (a0 = (1 : Int))) then (([81, 117, 101, 114, 121] : Bs)) else (bif (decide (a0 = (2 : Int))) then (([77, 117, 116, 97, 116, 105, 111, 110] : Bs)) else (bif (decide (a0 = (3 : Int))) then (([83, 117, 98, 115, 99, 114, 105, 112, 116, 105, 111, 110] : Bs)) else (([] : Bs))))
theorem Z52_eq (a0 : Int) : Z52 a0 = some (Z52_q a0) := by
 unfold Z52 Z52_q
 refine Q.condP ?_ ?_
 ·all_goals rfl
 refine Q.condP ?_ ?_
 ·all_goals rfl
 refine Q.condP ?_ ?_
 ·all_goals rfl
 all_goals rfl
def Z54_q6 (a1 : Bs) : List TFrag → Unit ⊕ ((TFrag × Bool))
 | [] => Sum.inl ()
 | h6 :: r6 => on (h6) fun x15 => bif ((x15.FName == a1)) then (on (h6) fun x18 => Sum.inr (x18, true)) else (Z54_q6 a1 (r6) )
theorem Z54_l6_qe {a0 : TQuery} {a1 : Bs}  (Kb6 : (Unit ⊕ ((TFrag × Bool))) → Option (TFrag × Bool)) (hend : ∀ (n6 : Nat) (s6_7 : Nat) (y8_l0 : TFrag), Z54_j2   y8_l0 = Kb6 (Sum.inl ())) (hret : ∀ e : (TFrag × Bool), some e = Kb6 (Sum.inr e)) : ∀ (n6 : Nat) (s6_7 : Nat) (y8_l0 : TFrag), (0 < n6 ∧ a0.FFrags.l.length < s6_7 + n6) → Z54_l6 a0 a1 n6 s6_7 y8_l0 = Kb6 (Z54_q6 a1 (a0.FFrags.l.drop s6_7) ) := by
 intro n6
 induction n6 with
 | zero => intro s6_7 y8_l0 hn; exact absurd hn.1 (by omega)
 | succ n6 ih6 =>
  intro s6_7 y8_l0 hn
  rw [Z54_l6]
  by_cases hlt : s6_7 < a0.FFrags.l.length
  ·obtain ⟨h6, hh6⟩ : ∃ x, a0.FFrags.l[s6_7]? = some x := ⟨_, List.getElem?_eq_getElem hlt⟩
   rw [Q.drop_of hh6, Z54_q6]
   refine Q.condT (Q.ltT hlt) ?_
   refine Q.bindP hh6 fun x15 hx_x15 => ?_
   refine Q.condP ?_ ?_
   ·refine Q.bindP hh6 fun x18 hx_x18 => ?_
    all_goals exact hret _
   all_goals exact ih6 _ _ ⟨by omega, by omega⟩
  rw [List.drop_of_length_le (by omega), Z54_q6]
  refine Q.condF (Q.ltF hlt) ?_
  exact hend n6 s6_7 y8_l0
def Z54_q (a0 : TQuery) (a1 : Bs) : (TFrag × Bool) := on (Z54_q6 a1 a0.FFrags.l ) fun o6 => match o6 with | Sum.inl _ => (on (()) fun _ => ((TFrag.mk ([] : Bs) ([] : Bs) (Sl.nil : Sl TSel)), false)) | Sum.inr e6 => (e6)
theorem Z54_eq (a0 : TQuery) (a1 : Bs) : Z54 a0 a1 = some (Z54_q a0 a1) := by
 unfold Z54 Z54_q
 refine Q.wrapPP fun Kb6 hKb6 => ?_
 refine Z54_l6_qe  Kb6 ?_ ?_ _ _ _ ⟨Nat.succ_pos _, by omega⟩
 ·intro n6 s6_7 y8_l0
  refine Eq.trans ?_ (hKb6 _).symm
  try dsimp only
  refine Q.wrapPP fun Kj2 hKj2 => ?_
  have hj2 : ∀ (y3_l0 : TFrag), Z54_j2  y3_l0 = Kj2 () := by
   intro y3_l0
   refine Eq.trans ?_ (hKj2 _).symm
   unfold Z54_j2
   all_goals rfl
  all_goals exact hj2 _
 intro e6
 refine Eq.trans ?_ (hKb6 _).symm
 try dsimp only
 all_goals rfl
end Go.Proofs

namespace Go.Proofs
open Go Go.Ab
def Z57_q5 (a1 : Bs) : List Bs → Unit ⊕ Bool
 | [] => Sum.inl ()
 | h5 :: r5 => on (h5) fun x13 => bif ((x13 == a1)) then (Sum.inr true) else (Z57_q5 a1 (r5) )
theorem Z57_l5_qe {a0 : (Sl Bs)} {a1 : Bs}  (Kb5 : (Unit ⊕ Bool) → Option Bool) (hend : ∀ (n5 : Nat) (s5_6 : Nat), Z57_j2    = Kb5 (Sum.inl ())) (hret : ∀ e : Bool, some e = Kb5 (Sum.inr e)) : ∀ (n5 : Nat) (s5_6 : Nat), (0 < n5 ∧ a0.l.length < s5_6 + n5) → Z57_l5 a0 a1 n5 s5_6 = Kb5 (Z57_q5 a1 (a0.l.drop s5_6) ) := by
 intro n5
 induction n5 with
 | zero => intro s5_6 hn; exact absurd hn.1 (by omega)
 | succ n5 ih5 =>
  intro s5_6 hn
  rw [Z57_l5]
  by_cases hlt : s5_6 < a0.l.length
  ·obtain ⟨h5, hh5⟩ : ∃ x, a0.l[s5_6]? = some x := ⟨_, List.getElem?_eq_getElem hlt⟩
   rw [Q.drop_of hh5, Z57_q5]
   refine Q.condT (Q.ltT hlt) ?_
   refine Q.bindP hh5 fun x13 hx_x13 => ?_
   refine Q.condP ?_ ?_
   ·all_goals exact hret _
   all_goals exact ih5 _ ⟨by omega, by omega⟩
  rw [List.drop_of_length_le (by omega), Z57_q5]
  refine Q.condF (Q.ltF hlt) ?_
  exact hend n5 s5_6
def Z57_q (a0 : (Sl Bs)) (a1 : Bs) : Bool := on (Z57_q5 a1 a0.l ) fun o5 => match o5 with | Sum.inl _ => (on (()) fun _ => false) | Sum.inr e5 => (e5)
theorem Z57_eq (a0 : (Sl Bs)) (a1 : Bs) : Z57 a0 a1 = some (Z57_q a0 a1) := by
 unfold Z57 Z57_q
 refine Q.wrapPP fun Kb5 hKb5 => ?_
 refine Z57_l5_qe  Kb5 ?_ ?_ _ _ ⟨Nat.succ_pos _, by omega⟩
 ·intro n5 s5_6
  refine Eq.trans ?_ (hKb5 _).symm
  try dsimp only
  refine Q.wrapPP fun Kj2 hKj2 => ?_
  have hj2 : Z57_j2   = Kj2 () := by
   refine Eq.trans ?_ (hKj2 _).symm
   unfold Z57_j2
   all_goals rfl
  all_goals exact hj2
 intro e5
 refine Eq.trans ?_ (hKb5 _).symm
 try dsimp only
 all_goals rfl
def Z58_q8 (a0 : TQuery) (k_rec_68 : TQuery → (Sl TSel) → (Sl Bs) → Option ((Sl Bs) × Bool)) : List TSel → (Sl Bs) → Bool → Option (((Sl Bs) × Bool))
 | [], s2_9, s8_10 => some (s2_9, s8_10)
 | h8 :: r8, s2_9, s8_10 => on (h8) fun x20 => on (h8) fun x29 => Option.bind (on (fun (s2_22 : (Sl Bs)) (s8_23 : Bool) (s10_24 : (Sl TSel)) => (k_rec_68 a0 s10_24 s2_22).bind fun x26 => some (x26.1, (s8_23 && x26.2))) fun kj21 => bif (decide (x29.FKind = (2 : Int))) then (on (h8) fun x32 => on (Z54_q a0 x32.FName) fun x33 => on (bif (!x33.2) then (false) else (s8_10)) fun s8_35 => on (bif !(!x33.2) then Z57_q s2_9 x33.1.FName else false) fun x38 => bif ((!x33.2) || x38) then (some (s2_9, s8_35)) else ((appC 16 s2_9 (⟨false, [x33.1.FName]⟩ : Sl Bs)).bind fun x41 => kj21 x41 s8_35 x33.1.FSels)) else (kj21 s2_9 s8_10 x20.FSels)) fun z16 => Z58_q8 a0 k_rec_68 (r8) z16.1 z16.2
theorem Z58_l8_qe {a0 : TQuery} {a1 : (Sl TSel)} {k_rec_68 : TQuery → (Sl TSel) → (Sl Bs) → Option ((Sl Bs) × Bool)}  (Kb8 : (((Sl Bs) × Bool)) → Option ((Sl Bs) × Bool)) (hend : ∀ (n8 : Nat) (s2_9 : (Sl Bs)) (s8_10 : Bool) (s9_11 : Nat), Z58_j3   s2_9 s8_10 = Kb8 (s2_9, s8_10)) : ∀ (n8 : Nat) (s2_9 : (Sl Bs)) (s8_10 : Bool) (s9_11 : Nat), (0 < n8 ∧ a1.l.length < s9_11 + n8) → Z58_l8 a0 a1 k_rec_68 n8 s2_9 s8_10 s9_11 = Option.bind (Z58_q8 a0 k_rec_68 (a1.l.drop s9_11) s2_9 s8_10) Kb8 := by
 intro n8
 induction n8 with
 | zero => intro s2_9 s8_10 s9_11 hn; exact absurd hn.1 (by omega)
 | succ n8 ih8 =>
  intro s2_9 s8_10 s9_11 hn
  rw [Z58_l8]
  by_cases hlt : s9_11 < a1.l.length
  ·obtain ⟨h8, hh8⟩ : ∃ x, a1.l[s9_11]? = some x := ⟨_, List.getElem?_eq_getElem hlt⟩
   rw [Q.drop_of hh8, Z58_q8]
   refine Q.condT (Q.ltT hlt) ?_
   refine Q.bindPO hh8 fun x20 hx_x20 => ?_
   refine Q.bindPO hh8 fun x29 hx_x29 => ?_
   refine Q.wrapOO fun Kj16 hKj16 => ?_
   have hj16 : ∀ (s2_17 : (Sl Bs)) (s8_18 : Bool), Z58_j16 s9_11 (Z58_l8 a0 a1 k_rec_68 n8) s2_17 s8_18 = Kj16 (s2_17, s8_18) := by
    intro s2_17 s8_18
    refine Eq.trans ?_ (hKj16 _).symm
    try dsimp only
    unfold Z58_j16
    all_goals exact ih8 _ _ _ ⟨by omega, by omega⟩
   refine Q.mixO fun kj21 hkj21 => ?_
   have hj21 : ∀ (s2_22 : (Sl Bs)) (s8_23 : Bool) (s10_24 : (Sl TSel)), Z58_j21 a0 s9_11 (Z58_l8 a0 a1 k_rec_68 n8) k_rec_68 s2_22 s8_23 s10_24 = Option.bind (kj21 s2_22 s8_23 s10_24) Kj16 := by
    intro s2_22 s8_23 s10_24
    unfold Z58_j21
    rw [hkj21]
    try dsimp only
    refine Q.bindO rfl fun x26 => ?_
    all_goals exact hj16 _ _
   refine Q.condO ?_ ?_
   ·refine Q.bindPO hh8 fun x32 hx_x32 => ?_
    refine Q.bindPO (Z54_eq _ _) fun x33 hx_x33 => ?_
    refine Q.wrapPO fun Kj34 hKj34 => ?_
    have hj34 : ∀ (s8_35 : Bool), Z58_j34 a0 s2_9 s9_11 x33 (Z58_l8 a0 a1 k_rec_68 n8) k_rec_68 s8_35 = Kj34 s8_35 := by
     intro s8_35
     refine Eq.trans ?_ (hKj34 _).symm
     unfold Z58_j34
     refine Q.guardPO (Z57_eq _ _) fun x38 hx_x38 => ?_
     refine Q.condO ?_ ?_
     ·all_goals exact hj16 _ _
     refine Q.bindO rfl fun x41 => ?_
     all_goals exact hj21 _ _ _
    refine Q.condP ?_ ?_
    ·all_goals exact hj34 _
    all_goals exact hj34 _
   all_goals exact hj21 _ _ _
  rw [List.drop_of_length_le (by omega), Z58_q8]
  refine Q.condF (Q.ltF hlt) ?_
  exact hend n8 s2_9 s8_10 s9_11
def Z58_qn : Nat → TQuery → (Sl TSel) → (Sl Bs) → Option ((Sl Bs) × Bool)
 | 0, _, _, _ => none
 | n + 1, a0, a1, a2 => Option.bind (Z58_q8 a0 (Z58_qn n) a1.l a2 true) fun z8 => on ((z8.1, z8.2)) fun z3 => some (z3.1, z3.2)
theorem Z58_qall : ∀ n : Nat, Z58_n n = Z58_qn n := by
 intro n
 induction n with
 | zero => exact (by funext a0 a1 a2; first | rfl | (rw [Z58_n, Z58_qn]))
 | succ n ih =>
  funext a0 a1 a2
  refine Eq.trans ?_ (Q.some_bind _)
  rw [Z58_n, Z58_qn]
  try rw [ih]
  refine Q.wrapOO fun Kb8 hKb8 => ?_
  refine Z58_l8_qe  Kb8 ?_ _ _ _ _ ⟨Nat.succ_pos _, by omega⟩
  intro n8 s2_9 s8_10 s9_11
  refine Eq.trans ?_ (hKb8 _).symm
  try dsimp only
  refine Q.wrapPO fun Kj3 hKj3 => ?_
  have hj3 : ∀ (s2_4 : (Sl Bs)) (s8_5 : Bool), Z58_j3  s2_4 s8_5 = Kj3 (s2_4, s8_5) := by
   intro s2_4 s8_5
   refine Eq.trans ?_ (hKj3 _).symm
   try dsimp only
   unfold Z58_j3
   all_goals rfl
  all_goals exact hj3 _ _
def Z58_q (a0 : TQuery) (a1 : (Sl TSel)) (a2 : (Sl Bs)) : Option ((Sl Bs) × Bool) := Z58_qn F0 a0 a1 a2
theorem Z58_eq (a0 : TQuery) (a1 : (Sl TSel)) (a2 : (Sl Bs)) : Z58 a0 a1 a2 = Z58_q a0 a1 a2 := by
 unfold Z58 Z58_q; rw [(Z58_qall F0)]
def Z56_q (a0 : TQuery) (a1 : TFrag) : Option Bool := (Z58_q a0 a1.FSels (Sl.nil : Sl Bs)).bind fun x4 => on (Z57_q x4.1 a1.FName) fun x6 => some x6
theorem Z56_eq (a0 : TQuery) (a1 : TFrag) : Z56 a0 a1 = Z56_q a0 a1 := by
 unfold Z56 Z56_q
 refine Eq.trans ?_ (Q.some_bind _)
 refine Q.bindO (Z58_eq _ _ _) fun x4 => ?_
 refine Q.bindPO (Z57_eq _ _) fun x6 hx_x6 => ?_
 all_goals rfl
def Z55_q9 (a0 : TQuery) : List Bs → Bool → Option (Bool)
 | [], s7_10 => some s7_10
 | h9 :: r9, s7_10 => on (h9) fun x19 => on (Z54_q a0 x19) fun x20 => (Z56_q a0 x20.1).bind fun x22 => on (bif x22 then (false) else (s7_10)) fun s7_17 => Z55_q9 a0 (r9) s7_17
theorem Z55_l9_qe {a0 : TQuery} {x4 : ((Sl Bs) × Bool)}  (Kb9 : (Bool) → Option ((Sl Bs) × Bool)) (hend : ∀ (n9 : Nat) (s7_10 : Bool) (s8_11 : Nat), Z55_j5 x4  s7_10 = Kb9 s7_10) : ∀ (n9 : Nat) (s7_10 : Bool) (s8_11 : Nat), (0 < n9 ∧ x4.1.l.length < s8_11 + n9) → Z55_l9 a0 x4 n9 s7_10 s8_11 = Option.bind (Z55_q9 a0 (x4.1.l.drop s8_11) s7_10) Kb9 := by
 intro n9
 induction n9 with
 | zero => intro s7_10 s8_11 hn; exact absurd hn.1 (by omega)
 | succ n9 ih9 =>
  intro s7_10 s8_11 hn
  rw [Z55_l9]
  by_cases hlt : s8_11 < x4.1.l.length
  ·obtain ⟨h9, hh9⟩ : ∃ x, x4.1.l[s8_11]? = some x := ⟨_, List.getElem?_eq_getElem hlt⟩
   rw [Q.drop_of hh9, Z55_q9]
   refine Q.condT (Q.ltT hlt) ?_
   refine Q.bindPO hh9 fun x19 hx_x19 => ?_
   refine Q.bindPO (Z54_eq _ _) fun x20 hx_x20 => ?_
   refine Q.bindO (Z56_eq _ _) fun x22 => ?_
   refine Q.wrapPO fun Kj16 hKj16 => ?_
   have hj16 : ∀ (s7_17 : Bool), Z55_j16 s8_11 (Z55_l9 a0 x4 n9) s7_17 = Kj16 s7_17 := by
    intro s7_17
    refine Eq.trans ?_ (hKj16 _).symm
    unfold Z55_j16
    all_goals exact ih9 _ _ ⟨by omega, by omega⟩
   refine Q.condP ?_ ?_
   ·all_goals exact hj16 _
   all_goals exact hj16 _
  rw [List.drop_of_length_le (by omega), Z55_q9]
  refine Q.condF (Q.ltF hlt) ?_
  exact hend n9 s7_10 s8_11
def Z55_q (a0 : TQuery) (a1 : (Sl TSel)) : Option ((Sl Bs) × Bool) := (Z58_q a0 a1 (Sl.nil : Sl Bs)).bind fun x4 => Option.bind (Z55_q9 a0 x4.1.l x4.2) fun s7_10 => on (s7_10) fun s7_6 => some (x4.1, s7_6)
theorem Z55_eq (a0 : TQuery) (a1 : (Sl TSel)) : Z55 a0 a1 = Z55_q a0 a1 := by
 unfold Z55 Z55_q
 refine Eq.trans ?_ (Q.some_bind _)
 refine Q.bindO (Z58_eq _ _ _) fun x4 => ?_
 refine Q.wrapOO fun Kb9 hKb9 => ?_
 refine Z55_l9_qe  Kb9 ?_ _ _ _ ⟨Nat.succ_pos _, by omega⟩
 intro n9 s7_10 s8_11
 refine Eq.trans ?_ (hKb9 _).symm
 refine Q.wrapPO fun Kj5 hKj5 => ?_
 have hj5 : ∀ (s7_6 : Bool), Z55_j5 x4 s7_6 = Kj5 s7_6 := by
  intro s7_6
  refine Eq.trans ?_ (hKj5 _).symm
  unfold Z55_j5
  all_goals rfl
 all_goals exact hj5 _
def Z66_q (a0 : TUse) (a1 : TUse) : Bool := bif (!(a0.FType == a1.FType)) then ((Op.bytesLess a0.FType a1.FType)) else (bif (!(a0.FField == a1.FField)) then ((Op.bytesLess a0.FField a1.FField)) else ((Op.bytesLess a0.FArg a1.FArg)))
theorem Z66_eq (a0 : TUse) (a1 : TUse) : Z66 a0 a1 = some (Z66_q a0 a1) := by
 unfold Z66 Z66_q
 refine Q.condP ?_ ?_
 ·all_goals rfl
 refine Q.condP ?_ ?_
 ·all_goals rfl
 all_goals rfl
def Z64_q15  : List TUse → (Sl TUse) → Bool → TUse → Option (((Sl TUse) × Bool × TUse))
 | [], s5_16, s6_17, y19_l0 => some (s5_16, s6_17, y19_l0)
 | h15 :: r15, s5_16, s6_17, y19_l0 => on (bif (!s6_17) then h15 else TUse.zero) fun x35 => on (bif (!s6_17) then Z66_q x35 y19_l0 else false) fun x36 => Option.bind (on (fun (s5_29 : (Sl TUse)) (s6_30 : Bool) (y31_l0 : TUse) => on (h15) fun x32 => (appC 56 s5_29 (⟨false, [x32]⟩ : Sl TUse)).bind fun x33 => some (x33, s6_30, y31_l0)) fun kj28 => bif ((!s6_17) && (!x36)) then (on (h15) fun x41 => on (Z66_q y19_l0 x41) fun x42 => bif (!x42) then (on (h15) fun x45 => (appC 56 s5_16 (⟨false, [(TUse.mk y19_l0.FType y19_l0.FField y19_l0.FArg (IntKind.wrap .i64 (y19_l0.FCount + x45.FCount)))]⟩ : Sl TUse)).bind fun x47 => some (x47, true, (TUse.mk y19_l0.FType y19_l0.FField y19_l0.FArg (IntKind.wrap .i64 (y19_l0.FCount + x45.FCount))))) else ((appC 56 s5_16 (⟨false, [y19_l0]⟩ : Sl TUse)).bind fun x48 => kj28 x48 true y19_l0)) else (kj28 s5_16 s6_17 y19_l0)) fun z24 => Z64_q15  (r15) z24.1 z24.2.1 z24.2.2
theorem Z64_l15_qe {a0 : (Sl TUse)}  (Kb15 : (((Sl TUse) × Bool × TUse)) → Option (Sl TUse)) (hend : ∀ (n15 : Nat) (s5_16 : (Sl TUse)) (s6_17 : Bool) (s7_18 : Nat) (y19_l0 : TUse), Z64_j4   s5_16 s6_17 y19_l0 = Kb15 (s5_16, s6_17, y19_l0)) : ∀ (n15 : Nat) (s5_16 : (Sl TUse)) (s6_17 : Bool) (s7_18 : Nat) (y19_l0 : TUse), (0 < n15 ∧ a0.l.length < s7_18 + n15) → Z64_l15 a0 n15 s5_16 s6_17 s7_18 y19_l0 = Option.bind (Z64_q15  (a0.l.drop s7_18) s5_16 s6_17 y19_l0) Kb15 := by
 intro n15
 induction n15 with
 | zero => intro s5_16 s6_17 s7_18 y19_l0 hn; exact absurd hn.1 (by omega)
 | succ n15 ih15 =>
  intro s5_16 s6_17 s7_18 y19_l0 hn
  rw [Z64_l15]
  by_cases hlt : s7_18 < a0.l.length
  ·obtain ⟨h15, hh15⟩ : ∃ x, a0.l[s7_18]? = some x := ⟨_, List.getElem?_eq_getElem hlt⟩
   rw [Q.drop_of hh15, Z64_q15]
   refine Q.condT (Q.ltT hlt) ?_
   refine Q.guardPO hh15 fun x35 hx_x35 => ?_
   refine Q.guardPO (Z66_eq _ _) fun x36 hx_x36 => ?_
   refine Q.wrapOO fun Kj24 hKj24 => ?_
   have hj24 : ∀ (s5_25 : (Sl TUse)) (s6_26 : Bool) (y27_l0 : TUse), Z64_j24 s7_18 (Z64_l15 a0 n15) s5_25 s6_26 y27_l0 = Kj24 (s5_25, s6_26, y27_l0) := by
    intro s5_25 s6_26 y27_l0
    refine Eq.trans ?_ (hKj24 _).symm
    try dsimp only
    unfold Z64_j24
    all_goals exact ih15 _ _ _ _ ⟨by omega, by omega⟩
   refine Q.mixO fun kj28 hkj28 => ?_
   have hj28 : ∀ (s5_29 : (Sl TUse)) (s6_30 : Bool) (y31_l0 : TUse), Z64_j28 a0 s7_18 (Z64_l15 a0 n15) s5_29 s6_30 y31_l0 = Option.bind (kj28 s5_29 s6_30 y31_l0) Kj24 := by
    intro s5_29 s6_30 y31_l0
    unfold Z64_j28
    rw [hkj28]
    try dsimp only
    refine Q.bindPO hh15 fun x32 hx_x32 => ?_
    refine Q.bindO rfl fun x33 => ?_
    all_goals exact hj24 _ _ _
   refine Q.condO ?_ ?_
   ·refine Q.bindPO hh15 fun x41 hx_x41 => ?_
    refine Q.bindPO (Z66_eq _ _) fun x42 hx_x42 => ?_
    refine Q.condO ?_ ?_
    ·refine Q.bindPO hh15 fun x45 hx_x45 => ?_
     refine Q.bindO rfl fun x47 => ?_
     all_goals exact hj24 _ _ _
    refine Q.bindO rfl fun x48 => ?_
    all_goals exact hj28 _ _ _
   all_goals exact hj28 _ _ _
  rw [List.drop_of_length_le (by omega), Z64_q15]
  refine Q.condF (Q.ltF hlt) ?_
  exact hend n15 s5_16 s6_17 s7_18 y19_l0
def Z64_q (a0 : (Sl TUse)) (a1 : TUse) : Option (Sl TUse) := Option.bind (Z64_q15  a0.l (Sl.nil : Sl TUse) false a1) fun z15 => on ((z15.1, z15.2.1, z15.2.2)) fun z4 => Option.bind (bif (!z4.2.1) then ((appC 56 z4.1 (⟨false, [z4.2.2]⟩ : Sl TUse)).bind fun x13 => some x13) else (some z4.1)) fun s5_9 => some s5_9
theorem Z64_eq (a0 : (Sl TUse)) (a1 : TUse) : Z64 a0 a1 = Z64_q a0 a1 := by
 unfold Z64 Z64_q
 refine Eq.trans ?_ (Q.some_bind _)
 refine Q.wrapOO fun Kb15 hKb15 => ?_
 refine Z64_l15_qe  Kb15 ?_ _ _ _ _ _ ⟨Nat.succ_pos _, by omega⟩
 intro n15 s5_16 s6_17 s7_18 y19_l0
 refine Eq.trans ?_ (hKb15 _).symm
 try dsimp only
 refine Q.wrapPO fun Kj4 hKj4 => ?_
 have hj4 : ∀ (s5_5 : (Sl TUse)) (s6_6 : Bool) (y7_l0 : TUse), Z64_j4  s5_5 s6_6 y7_l0 = Kj4 (s5_5, s6_6, y7_l0) := by
  intro s5_5 s6_6 y7_l0
  refine Eq.trans ?_ (hKj4 _).symm
  try dsimp only
  unfold Z64_j4
  refine Q.wrapOO fun Kj8 hKj8 => ?_
  have hj8 : ∀ (s5_9 : (Sl TUse)), Z64_j8  s5_9 = Kj8 s5_9 := by
   intro s5_9
   refine Eq.trans ?_ (hKj8 _).symm
   unfold Z64_j8
   all_goals rfl
  refine Q.condO ?_ ?_
  ·refine Q.bindO rfl fun x13 => ?_
   all_goals exact hj8 _
  all_goals exact hj8 _
 all_goals exact hj4 _ _ _
def Z62_q7  : List TUse → (Sl TUse) → Option ((Sl TUse))
 | [], s3_8 => some s3_8
 | h7 :: r7, s3_8 => on (h7) fun x15 => (Z64_q s3_8 x15).bind fun x16 => Z62_q7  (r7) x16
theorem Z62_l7_qe {a0 : (Sl TUse)}  (Kb7 : ((Sl TUse)) → Option (Sl TUse)) (hend : ∀ (n7 : Nat) (s3_8 : (Sl TUse)) (s4_9 : Nat), Z62_j3   s3_8 = Kb7 s3_8) : ∀ (n7 : Nat) (s3_8 : (Sl TUse)) (s4_9 : Nat), (0 < n7 ∧ a0.l.length < s4_9 + n7) → Z62_l7 a0 n7 s3_8 s4_9 = Option.bind (Z62_q7  (a0.l.drop s4_9) s3_8) Kb7 := by
 intro n7
 induction n7 with
 | zero => intro s3_8 s4_9 hn; exact absurd hn.1 (by omega)
 | succ n7 ih7 =>
  intro s3_8 s4_9 hn
  rw [Z62_l7]
  by_cases hlt : s4_9 < a0.l.length
  ·obtain ⟨h7, hh7⟩ : ∃ x, a0.l[s4_9]? = some x := ⟨_, List.getElem?_eq_getElem hlt⟩
   rw [Q.drop_of hh7, Z62_q7]
   refine Q.condT (Q.ltT hlt) ?_
   refine Q.bindPO hh7 fun x15 hx_x15 => ?_
   refine Q.bindO (Z64_eq _ _) fun x16 => ?_
   all_goals exact ih7 _ _ ⟨by omega, by omega⟩
  rw [List.drop_of_length_le (by omega), Z62_q7]
  refine Q.condF (Q.ltF hlt) ?_
  exact hend n7 s3_8 s4_9
def Z62_q (a0 : (Sl TUse)) : Option (Sl TUse) := Option.bind (Z62_q7  a0.l (Sl.nil : Sl TUse)) fun s3_8 => on (s3_8) fun s3_4 => some s3_4
theorem Z62_eq (a0 : (Sl TUse)) : Z62 a0 = Z62_q a0 := by
 unfold Z62 Z62_q
 refine Eq.trans ?_ (Q.some_bind _)
 refine Q.wrapOO fun Kb7 hKb7 => ?_
 refine Z62_l7_qe  Kb7 ?_ _ _ _ ⟨Nat.succ_pos _, by omega⟩
 intro n7 s3_8 s4_9
 refine Eq.trans ?_ (hKb7 _).symm
 refine Q.wrapPO fun Kj3 hKj3 => ?_
 have hj3 : ∀ (s3_4 : (Sl TUse)), Z62_j3  s3_4 = Kj3 s3_4 := by
  intro s3_4
  refine Eq.trans ?_ (hKj3 _).symm
  unfold Z62_j3
  all_goals rfl
 all_goals exact hj3 _
def Z60_q38 (a0 : TDoc) (a1 : TQuery) : List Bs → (Sl TUse) → Option ((Sl TUse))
 | [], s8_39 => some s8_39
 | h38 :: r38, s8_39 => on (h38) fun x48 => on (Z54_q a1 x48) fun x49 => on (Z65_q a0 x49.1.FOn) fun x51 => Option.bind (bif (x49.2 && (!(x51 == ([] : Bs)))) then (on (Z68_q x51 ([] : Bs) ([] : Bs)) fun x60 => (appC 56 s8_39 (⟨false, [x60]⟩ : Sl TUse)).bind fun x61 => some x61) else (some s8_39)) fun s8_53 => Option.bind (bif x49.2 then ((Z67_q a0 x49.1.FSels x51).bind fun x56 => (appC 56 s8_53 x56).bind fun x57 => some x57) else (some s8_53)) fun s8_46 => Z60_q38 a0 a1 (r38) s8_46
theorem Z60_l38_qe {a0 : TDoc} {a1 : TQuery} {x7 : TOp} {x13 : ((Sl Bs) × Bool)}  (Kb38 : ((Sl TUse)) → Option (Sl TUse)) (hend : ∀ (n38 : Nat) (s8_39 : (Sl TUse)) (s11_40 : Nat), Z60_j14 a0 x7  s8_39 = Kb38 s8_39) : ∀ (n38 : Nat) (s8_39 : (Sl TUse)) (s11_40 : Nat), (0 < n38 ∧ x13.1.l.length < s11_40 + n38) → Z60_l38 a0 a1 x7 x13 n38 s8_39 s11_40 = Option.bind (Z60_q38 a0 a1 (x13.1.l.drop s11_40) s8_39) Kb38 := by
 intro n38
 induction n38 with
 | zero => intro s8_39 s11_40 hn; exact absurd hn.1 (by omega)
 | succ n38 ih38 =>
  intro s8_39 s11_40 hn
  rw [Z60_l38]
  by_cases hlt : s11_40 < x13.1.l.length
  ·obtain ⟨h38, hh38⟩ : ∃ x, x13.1.l[s11_40]? = some x := ⟨_, List.getElem?_eq_getElem hlt⟩
   rw [Q.drop_of hh38, Z60_q38]
   refine Q.condT (Q.ltT hlt) ?_
   refine Q.bindPO hh38 fun x48 hx_x48 => ?_
   refine Q.bindPO (Z54_eq _ _) fun x49 hx_x49 => ?_
   refine Q.bindPO (Z65_eq _ _) fun x51 hx_x51 => ?_
   refine Q.wrapOO fun Kj52 hKj52 => ?_
   have hj52 : ∀ (s8_53 : (Sl TUse)), Z60_j52 a0 s11_40 x49 x51 (Z60_l38 a0 a1 x7 x13 n38) s8_53 = Kj52 s8_53 := by
    intro s8_53
    refine Eq.trans ?_ (hKj52 _).symm
    unfold Z60_j52
    refine Q.wrapOO fun Kj45 hKj45 => ?_
    have hj45 : ∀ (s8_46 : (Sl TUse)), Z60_j45 s11_40 (Z60_l38 a0 a1 x7 x13 n38) s8_46 = Kj45 s8_46 := by
     intro s8_46
     refine Eq.trans ?_ (hKj45 _).symm
     unfold Z60_j45
     all_goals exact ih38 _ _ ⟨by omega, by omega⟩
    refine Q.condO ?_ ?_
    ·refine Q.bindO (Z67_eq _ _ _) fun x56 => ?_
     refine Q.bindO rfl fun x57 => ?_
     all_goals exact hj45 _
    all_goals exact hj45 _
   refine Q.condO ?_ ?_
   ·refine Q.bindPO (Z68_eq _ _ _) fun x60 hx_x60 => ?_
    refine Q.bindO rfl fun x61 => ?_
    all_goals exact hj52 _
   all_goals exact hj52 _
  rw [List.drop_of_length_le (by omega), Z60_q38]
  refine Q.condF (Q.ltF hlt) ?_
  exact hend n38 s8_39 s11_40
def Z60_q21 (a0 : TDoc) : List TVar → (Sl TUse) → Option ((Sl TUse))
 | [], s8_22 => some s8_22
 | h21 :: r21, s8_22 => on (h21) fun x31 => Option.bind (bif x31.FHas then (on (h21) fun x33 => on (h21) fun x34 => (Z69_q a0 x33.FType x34.FDefault).bind fun x35 => (appC 56 s8_22 x35).bind fun x36 => some x36) else (some s8_22)) fun s8_29 => Z60_q21 a0 (r21) s8_29
theorem Z60_l21_qe {a0 : TDoc} {x7 : TOp}  (Kb21 : ((Sl TUse)) → Option (Sl TUse)) (hend : ∀ (n21 : Nat) (s8_22 : (Sl TUse)) (s15_23 : Nat), Z60_j16   s8_22 = Kb21 s8_22) : ∀ (n21 : Nat) (s8_22 : (Sl TUse)) (s15_23 : Nat), (0 < n21 ∧ x7.FVars.l.length < s15_23 + n21) → Z60_l21 a0 x7 n21 s8_22 s15_23 = Option.bind (Z60_q21 a0 (x7.FVars.l.drop s15_23) s8_22) Kb21 := by
 intro n21
 induction n21 with
 | zero => intro s8_22 s15_23 hn; exact absurd hn.1 (by omega)
 | succ n21 ih21 =>
  intro s8_22 s15_23 hn
  rw [Z60_l21]
  by_cases hlt : s15_23 < x7.FVars.l.length
  ·obtain ⟨h21, hh21⟩ : ∃ x, x7.FVars.l[s15_23]? = some x := ⟨_, List.getElem?_eq_getElem hlt⟩
   rw [Q.drop_of hh21, Z60_q21]
   refine Q.condT (Q.ltT hlt) ?_
   refine Q.bindPO hh21 fun x31 hx_x31 => ?_
   refine Q.wrapOO fun Kj28 hKj28 => ?_
   have hj28 : ∀ (s8_29 : (Sl TUse)), Z60_j28 s15_23 (Z60_l21 a0 x7 n21) s8_29 = Kj28 s8_29 := by
    intro s8_29
    refine Eq.trans ?_ (hKj28 _).symm
    unfold Z60_j28
    all_goals exact ih21 _ _ ⟨by omega, by omega⟩
   refine Q.condO ?_ ?_
   ·refine Q.bindPO hh21 fun x33 hx_x33 => ?_
    refine Q.bindPO hh21 fun x34 hx_x34 => ?_
    refine Q.bindO (Z69_eq _ _ _) fun x35 => ?_
    refine Q.bindO rfl fun x36 => ?_
    all_goals exact hj28 _
   all_goals exact hj28 _
  rw [List.drop_of_length_le (by omega), Z60_q21]
  refine Q.condF (Q.ltF hlt) ?_
  exact hend n21 s8_22 s15_23
def Z60_q (a0 : TDoc) (a1 : TQuery) (a2 : Int) : Option (Sl TUse) := bif ((decide (a2 < (0 : Int))) || (decide (((a1.FOps.l.length : Nat) : Int) ≤ a2))) then (some (Sl.nil : Sl TUse)) else ((idxC a1.FOps.l a2).bind fun x7 => on (Z52_q x7.FKind) fun x9 => on (Z65_q a0 x9) fun x10 => (Z67_q a0 x7.FSels x10).bind fun x11 => (Z55_q a1 x7.FSels).bind fun x13 => Option.bind (Z60_q38 a0 a1 x13.1.l x11) fun s8_39 => on (s8_39) fun s8_15 => Option.bind (Z60_q21 a0 x7.FVars.l s8_15) fun s8_22 => on (s8_22) fun s8_17 => (Z62_q s8_17).bind fun x19 => some x19)
theorem Z60_eq (a0 : TDoc) (a1 : TQuery) (a2 : Int) : Z60 a0 a1 a2 = Z60_q a0 a1 a2 := by
 unfold Z60 Z60_q
 refine Eq.trans ?_ (Q.some_bind _)
 refine Q.condO ?_ ?_
 ·all_goals rfl
 refine Q.bindO rfl fun x7 => ?_
 refine Q.bindPO (Z52_eq _) fun x9 hx_x9 => ?_
 refine Q.bindPO (Z65_eq _ _) fun x10 hx_x10 => ?_
 refine Q.bindO (Z67_eq _ _ _) fun x11 => ?_
 refine Q.bindO (Z55_eq _ _) fun x13 => ?_
 refine Q.wrapOO fun Kb38 hKb38 => ?_
 refine Z60_l38_qe  Kb38 ?_ _ _ _ ⟨Nat.succ_pos _, by omega⟩
 intro n38 s8_39 s11_40
 refine Eq.trans ?_ (hKb38 _).symm
 refine Q.wrapPO fun Kj14 hKj14 => ?_
 have hj14 : ∀ (s8_15 : (Sl TUse)), Z60_j14 a0 x7 s8_15 = Kj14 s8_15 := by
  intro s8_15
  refine Eq.trans ?_ (hKj14 _).symm
  unfold Z60_j14
  refine Q.wrapOO fun Kb21 hKb21 => ?_
  refine Z60_l21_qe  Kb21 ?_ _ _ _ ⟨Nat.succ_pos _, by omega⟩
  intro n21 s8_22 s15_23
  refine Eq.trans ?_ (hKb21 _).symm
  refine Q.wrapPO fun Kj16 hKj16 => ?_
  have hj16 : ∀ (s8_17 : (Sl TUse)), Z60_j16  s8_17 = Kj16 s8_17 := by
   intro s8_17
   refine Eq.trans ?_ (hKj16 _).symm
   unfold Z60_j16
   refine Q.bindO (Z62_eq _) fun x19 => ?_
   all_goals rfl
  all_goals exact hj16 _
 all_goals exact hj14 _
def Z8_q (a0 : TDoc) (a1 : TQuery) (a2 : Int) : Option Bool := (Z10_q a0 a1).bind fun x4 => bif (!x4) then ((Z9).bind fun x7 => some x7) else ((Z92_q a0 a1 a2).bind fun x9 => (Z60_q a0 a1 a2).bind fun x10 => (Z61_q x9 x10).bind fun x11 => guardO (x11) (Z9) false fun x12 => some (x11 && x12))
theorem Z8_eq (a0 : TDoc) (a1 : TQuery) (a2 : Int) : Z8 a0 a1 a2 = Z8_q a0 a1 a2 := by
 unfold Z8 Z8_q
 refine Eq.trans ?_ (Q.some_bind _)
 refine Q.bindO (Z10_eq _ _) fun x4 => ?_
 refine Q.condO ?_ ?_
 ·refine Q.bindO rfl fun x7 => ?_
  all_goals rfl
 refine Q.bindO (Z92_eq _ _ _) fun x9 => ?_
 refine Q.bindO (Z60_eq _ _ _) fun x10 => ?_
 refine Q.bindO (Z61_eq _ _) fun x11 => ?_
 refine Q.guardOO rfl fun x12 => ?_
 all_goals rfl
end Go.Proofs

namespace Go.Proofs
open Go Go.Ab
theorem Z27_loop (a : TRef) (ha : a.FWraps.l.length ≤ 1048576) (l : List Int) (i : Nat) (h : i + l.length = a.FWraps.l.length) : Ok (Z27_q10 a l i) := by
 induction l generalizing i with
 | nil => exact Tot.some _
 | cons x r ih =>
  simp only [List.length_cons] at h
  have hr := ih (i + 1) (by omega)
  rw [Z27_q10]
  simp only [on]
  refine Tot.cond (fun _ => Tot.some _) fun _ => ?_
  by_cases hi : 0 < i
  ·have h1 : decide ((0 : Int) < ((i : Nat) : Int)) = true := by simpa using hi
   obtain ⟨v, hv⟩ := idxC_ok (l := a.FWraps.l) (n := (i : Int) - 1) (by omega)
   simp only [h1, cond_true, Bool.true_and, subC_ok (a := (i : Int)) (b := 1) (by omega)]
   cases decide (x = 1) <;> simp only [guardO, hv, if_true, Option.bind_some, Bool.false_eq_true, if_false, Bool.false_and, cond_false]
   ·exact hr
   ·(repeat' (first | exact Tot.some _ | assumption | (with_reducible refine Tot.bind ?_ fun _ _ => ?_) | (with_reducible refine Tot.guard (fun _ => ?_) fun _ _ _ => ?_) | (with_reducible refine Tot.cond (fun _ => ?_) fun _ => ?_) | (with_reducible refine Tot.on fun _ _ => ?_) | split))
  ·have h1 : decide ((0 : Int) < ((i : Nat) : Int)) = false := by simpa using hi
   simp only [h1, Bool.false_and, guardO, Bool.false_eq_true, if_false, cond_false]
   exact hr
theorem Z27_ok (a : TRef) (ha : a.FWraps.l.length ≤ 1048576) : Ok (Z27_q a) := by
 unfold Z27_q
 (repeat' (first | exact Tot.some _ | assumption | (with_reducible refine Tot.bind ?_ fun _ _ => ?_) | (with_reducible refine Tot.guard (fun _ => ?_) fun _ _ _ => ?_) | (with_reducible refine Tot.cond (fun _ => ?_) fun _ => ?_) | (with_reducible refine Tot.on fun _ _ => ?_) | split))
 exact Z27_loop a ha _ _ (by simp)
theorem Z17_loop (k : TValue → Option Int) (l : List TValue) (s : Int) (hk : ∀ x ∈ l, ∃ r, k x = some r ∧ 1 ≤ r ∧ r ≤ x.sz) (hs : 0 ≤ s) (hb : s + ((l.map TValue.sz).sum : Nat) ≤ 1152921504606846976) : ∃ r, Z17_q7 k l s = some r ∧ s ≤ r ∧ r ≤ s + ((l.map TValue.sz).sum : Nat) := by
 induction l generalizing s with
 | nil => exact ⟨s, rfl, by simp, by simp⟩
 | cons x r ih =>
  obtain ⟨v, h1, h2, h3⟩ := hk x List.mem_cons_self
  simp only [List.map_cons, List.sum_cons] at hb ⊢
  rw [Z17_q7]
  simp only [on, h1, Option.bind_some]
  rw [addC_ok (by omega)]
  simp only [Option.bind_some]
  obtain ⟨w, h4, h5, h6⟩ := ih (s + v) (fun y hy => hk y (List.mem_cons_of_mem _ hy)) (by omega) (by omega)
  exact ⟨w, h4, by omega, by omega⟩
theorem TValue.item_lt {v x : TValue} (h : x ∈ v.FItems.l) : x.sz < v.sz := by
 have h1 := v.sz_def; have h2 := Sl.mem_le (f := TValue.sz) h; omega
theorem TValue.items_sum (v : TValue) : 2 + (v.FItems.l.map TValue.sz).sum ≤ v.sz := by
 have h1 := v.sz_def; have h2 : Sl.sz TValue.sz v.FItems = 1 + (v.FItems.l.map TValue.sz).sum := rfl; omega
theorem Z17_tot (n : Nat) : ∀ v : TValue, v.sz < n → v.sz ≤ 1073741824 → ∃ r, Z17_qn n v = some r ∧ 1 ≤ r ∧ r ≤ v.sz := by
 induction n with
 | zero => intro v h; omega
 | succ n ih =>
  intro v h hb
  have h0 := v.items_sum
  obtain ⟨w, h4, h5, h6⟩ := Z17_loop (Z17_qn n) v.FItems.l 1 (fun x hx => by have := TValue.item_lt hx; exact ih x (by omega) (by omega)) (by omega) (by omega)
  rw [Z17_qn, h4]
  exact ⟨w, rfl, by omega, by omega⟩
theorem Z17_ok (v : TValue) (h : v.sz ≤ 1048576) : ∃ r, Z17_q v = some r ∧ 1 ≤ r ∧ r ≤ v.sz := Z17_tot F0 v (by rw [F0_eq]; omega) (by omega)
theorem Z15_loop (k : TValue → Option Int) (l : List TValue) (s b : Int) (hk : ∀ x ∈ l, ∃ r, k x = some r ∧ 1 ≤ r ∧ r ≤ b) (hs : 0 ≤ s ∧ s ≤ b) : ∃ r, Z15_q8 k l s = some r ∧ 0 ≤ r ∧ r ≤ b := by
 induction l generalizing s with
 | nil => exact ⟨s, rfl, by omega, by omega⟩
 | cons x r ih =>
  obtain ⟨v, h1, h2, h3⟩ := hk x List.mem_cons_self
  rw [Z15_q8]
  simp only [on, h1, Option.bind_some]
  exact ih _ (fun y hy => hk y (List.mem_cons_of_mem _ hy)) (by split <;> omega)
theorem Z15_tot (n : Nat) : ∀ v : TValue, v.sz < n → v.sz ≤ 1073741824 → ∃ r, Z15_qn n v = some r ∧ 1 ≤ r ∧ r ≤ v.sz := by
 induction n with
 | zero => intro v h; omega
 | succ n ih =>
  intro v h hb
  have h0 := v.items_sum
  obtain ⟨w, h4, h5, h6⟩ := Z15_loop (Z15_qn n) v.FItems.l 0 (v.sz - 1 : Nat) (fun x hx => by have := TValue.item_lt hx; obtain ⟨r, h7, h8, h9⟩ := ih x (by omega) (by omega); exact ⟨r, h7, h8, by omega⟩) (by omega)
  rw [Z15_qn, h4]
  simp only [on, Option.bind_some]
  rw [addC_ok (by omega)]
  exact ⟨w + 1, rfl, by omega, by omega⟩
theorem Z15_ok (v : TValue) (h : v.sz ≤ 1048576) : Ok (Z15_q v) := by
 obtain ⟨r, hr, _⟩ := Z15_tot F0 v (by rw [F0_eq]; omega) (by omega); exact ⟨r, hr⟩
theorem Z19_in (a : Sl Bs) (x : Bs) (m i : Nat) (h : i + m ≤ a.l.length) : Ok (Z19_q13 a x m i) := by
 induction m generalizing i with
 | zero => exact Tot.some _
 | succ m ih =>
  rw [Z19_q13]
  (repeat' (first | exact Tot.some _ | assumption | (with_reducible refine Tot.bind ?_ fun _ _ => ?_) | (with_reducible refine Tot.guard (fun _ => ?_) fun _ _ _ => ?_) | (with_reducible refine Tot.cond (fun _ => ?_) fun _ => ?_) | (with_reducible refine Tot.on fun _ _ => ?_) | split))
  ·exact get_ok (by omega)
  ·exact ih _ (by omega)
theorem Z19_out (a : Sl Bs) (l : List Bs) (i : Nat) (h : i + l.length = a.l.length) : Ok (Z19_q5 a l i) := by
 induction l generalizing i with
 | nil => exact Tot.some _
 | cons x r ih =>
  simp only [List.length_cons] at h
  rw [Z19_q5]
  (repeat' (first | exact Tot.some _ | assumption | (with_reducible refine Tot.bind ?_ fun _ _ => ?_) | (with_reducible refine Tot.guard (fun _ => ?_) fun _ _ _ => ?_) | (with_reducible refine Tot.cond (fun _ => ?_) fun _ => ?_) | (with_reducible refine Tot.on fun _ _ => ?_) | split))
  ·exact Z19_in a x _ _ (by omega)
  ·exact ih _ (by omega)
theorem Z19_ok (a : Sl Bs) : Ok (Z19_q a) := by
 unfold Z19_q
 (repeat' (first | exact Tot.some _ | assumption | (with_reducible refine Tot.bind ?_ fun _ _ => ?_) | (with_reducible refine Tot.guard (fun _ => ?_) fun _ _ _ => ?_) | (with_reducible refine Tot.cond (fun _ => ?_) fun _ => ?_) | (with_reducible refine Tot.on fun _ _ => ?_) | split))
 exact Z19_out a _ _ (by simp)
theorem Z18_ok (v : TValue) (b : Bool) : Ok (Z18_q v b) := by
 unfold Z18_q
 (repeat' (first | exact Tot.some _ | assumption | (with_reducible refine Tot.bind ?_ fun _ _ => ?_) | (with_reducible refine Tot.guard (fun _ => ?_) fun _ _ _ => ?_) | (with_reducible refine Tot.cond (fun _ => ?_) fun _ => ?_) | (with_reducible refine Tot.on fun _ _ => ?_) | split))
 exact Z19_ok _
theorem Z20_loop (b : Bool) (k : TValue → Bool → Option Bool) (l : List TValue) (hk : ∀ x ∈ l, Ok (k x b)) : Ok (Z20_q11 b k l) := by
 induction l with
 | nil => exact Tot.some _
 | cons x r ih =>
  rw [Z20_q11]
  (repeat' (first | exact Tot.some _ | assumption | (with_reducible refine Tot.bind ?_ fun _ _ => ?_) | (with_reducible refine Tot.guard (fun _ => ?_) fun _ _ _ => ?_) | (with_reducible refine Tot.cond (fun _ => ?_) fun _ => ?_) | (with_reducible refine Tot.on fun _ _ => ?_) | split))
  ·rename_i h; rw [h]; exact hk x List.mem_cons_self
  ·exact ih fun y hy => hk y (List.mem_cons_of_mem _ hy)
theorem Z20_tot (n : Nat) : ∀ (v : TValue) (b : Bool), v.sz < n → Ok (Z20_qn n v b) := by
 induction n with
 | zero => intro v b h; omega
 | succ n ih =>
  intro v b h
  rw [Z20_qn]
  (repeat' (first | exact Tot.some _ | assumption | (with_reducible refine Tot.bind ?_ fun _ _ => ?_) | (with_reducible refine Tot.guard (fun _ => ?_) fun _ _ _ => ?_) | (with_reducible refine Tot.cond (fun _ => ?_) fun _ => ?_) | (with_reducible refine Tot.on fun _ _ => ?_) | split))
  ·exact Z18_ok _ _
  ·exact Z20_loop b _ _ fun x hx => ih x b (by have := TValue.item_lt hx; omega)
theorem Z16_ok (v : TValue) (h : v.sz ≤ 1048576) : Ok (Z16_q v) := by
 unfold Z16_q
 obtain ⟨r, hr, _⟩ := Z17_ok v h
 (repeat' (first | exact Tot.some _ | assumption | (with_reducible refine Tot.bind ?_ fun _ _ => ?_) | (with_reducible refine Tot.guard (fun _ => ?_) fun _ _ _ => ?_) | (with_reducible refine Tot.cond (fun _ => ?_) fun _ => ?_) | (with_reducible refine Tot.on fun _ _ => ?_) | split))
 ·exact ⟨r, hr⟩
 ·exact Z15_ok v h
 ·exact Z20_tot F0 v true (by rw [F0_eq]; omega)
theorem Z31_loop (k : TValue → Option Bool) (l : List TValue) (hk : ∀ x ∈ l, Ok (k x)) : Ok (Z31_q5 k l) := by
 induction l with
 | nil => exact Tot.some _
 | cons x r ih =>
  rw [Z31_q5]
  (repeat' (first | exact Tot.some _ | assumption | (with_reducible refine Tot.bind ?_ fun _ _ => ?_) | (with_reducible refine Tot.guard (fun _ => ?_) fun _ _ _ => ?_) | (with_reducible refine Tot.cond (fun _ => ?_) fun _ => ?_) | (with_reducible refine Tot.on fun _ _ => ?_) | split))
  ·rename_i h; rw [h]; exact hk x List.mem_cons_self
  ·exact ih fun y hy => hk y (List.mem_cons_of_mem _ hy)
theorem Z31_tot (n : Nat) : ∀ (v : TValue), v.sz < n → Ok (Z31_qn n v) := by
 induction n with
 | zero => intro v h; omega
 | succ n ih =>
  intro v h
  rw [Z31_qn]
  (repeat' (first | exact Tot.some _ | assumption | (with_reducible refine Tot.bind ?_ fun _ _ => ?_) | (with_reducible refine Tot.guard (fun _ => ?_) fun _ _ _ => ?_) | (with_reducible refine Tot.cond (fun _ => ?_) fun _ => ?_) | (with_reducible refine Tot.on fun _ _ => ?_) | split))
  exact Z31_loop _ _ fun x hx => ih x (by have := TValue.item_lt hx; omega)
theorem Z31_ok (v : TValue) (h : v.sz ≤ 1048576) : Ok (Z31_q v) := Z31_tot F0 v (by rw [F0_eq]; omega)
theorem TArg.value_le (a : TArg) : a.FValue.sz ≤ a.sz := by have := a.sz_def; omega
theorem TDir.arg_le {x : TDir} {a : TArg} (h : a ∈ x.FArgs.l) : a.sz ≤ x.sz := by have := x.sz_def; have := Sl.mem_le (f := TArg.sz) h; omega
theorem Z33_in (h10 : TDir) (l : List TArg) (h : ∀ a ∈ l, a.sz ≤ 1048576) : Ok (Z33_q25 h10 l) := by
 induction l with
 | nil => exact Tot.some _
 | cons x r ih =>
  have h1 := h x List.mem_cons_self; have h2 := x.value_le
  rw [Z33_q25]
  (repeat' (first | exact Tot.some _ | assumption | (with_reducible refine Tot.bind ?_ fun _ _ => ?_) | (with_reducible refine Tot.guard (fun _ => ?_) fun _ _ _ => ?_) | (with_reducible refine Tot.cond (fun _ => ?_) fun _ => ?_) | (with_reducible refine Tot.on fun _ _ => ?_) | split))
  all_goals first | exact ih fun y hy => h y (List.mem_cons_of_mem _ hy) | (subst_vars; first | exact Z16_ok _ (by omega) | exact Z31_ok _ (by omega))
theorem Z33_loop (l : List TDir) (h : ∀ a ∈ l, a.sz ≤ 1048576) : Ok (Z33_q10 l) := by
 induction l with
 | nil => exact Tot.some _
 | cons x r ih =>
  have h1 := h x List.mem_cons_self
  rw [Z33_q10]
  (repeat' (first | exact Tot.some _ | assumption | (with_reducible refine Tot.bind ?_ fun _ _ => ?_) | (with_reducible refine Tot.guard (fun _ => ?_) fun _ _ _ => ?_) | (with_reducible refine Tot.cond (fun _ => ?_) fun _ => ?_) | (with_reducible refine Tot.on fun _ _ => ?_) | split))
  ·exact Z33_in x _ fun a ha => by have := TDir.arg_le ha; omega
  ·exact ih fun y hy => h y (List.mem_cons_of_mem _ hy)
theorem Z33_ok (s : Sl TDir) (h : Sl.sz TDir.sz s ≤ 1048576) : Ok (Z33_q s) := by
 unfold Z33_q
 (repeat' (first | exact Tot.some _ | assumption | (with_reducible refine Tot.bind ?_ fun _ _ => ?_) | (with_reducible refine Tot.guard (fun _ => ?_) fun _ _ _ => ?_) | (with_reducible refine Tot.cond (fun _ => ?_) fun _ => ?_) | (with_reducible refine Tot.on fun _ _ => ?_) | split))
 exact Z33_loop _ fun a ha => by have := Sl.mem_le (f := TDir.sz) ha; omega
theorem TRef.wraps_le (r : TRef) : r.FWraps.l.length ≤ r.sz := by have := r.sz_def; have := Sl.len_le (f := fun _ : Int => 1) r.FWraps (fun _ => Nat.le_refl _); omega
theorem Z35_loop (l : List TInput) (h : ∀ a ∈ l, a.sz ≤ 1048576) : Ok (Z35_q10 l) := by
 induction l with
 | nil => exact Tot.some _
 | cons x r ih =>
  have h1 := h x List.mem_cons_self; have h2 := x.sz_def; have h3 := x.FType.wraps_le
  rw [Z35_q10]
  (repeat' (first | exact Tot.some _ | assumption | (with_reducible refine Tot.bind ?_ fun _ _ => ?_) | (with_reducible refine Tot.guard (fun _ => ?_) fun _ _ _ => ?_) | (with_reducible refine Tot.cond (fun _ => ?_) fun _ => ?_) | (with_reducible refine Tot.on fun _ _ => ?_) | split))
  all_goals first | exact ih fun y hy => h y (List.mem_cons_of_mem _ hy) | (subst_vars; first | exact Z27_ok _ (by omega) | exact Z33_ok _ (by omega) | exact Z16_ok _ (by omega) | exact Z31_ok _ (by omega))
theorem Z35_ok (s : Sl TInput) (h : Sl.sz TInput.sz s ≤ 1048576) : Ok (Z35_q s) := by
 unfold Z35_q
 (repeat' (first | exact Tot.some _ | assumption | (with_reducible refine Tot.bind ?_ fun _ _ => ?_) | (with_reducible refine Tot.guard (fun _ => ?_) fun _ _ _ => ?_) | (with_reducible refine Tot.cond (fun _ => ?_) fun _ => ?_) | (with_reducible refine Tot.on fun _ _ => ?_) | split))
 exact Z35_loop _ fun a ha => by have := Sl.mem_le (f := TInput.sz) ha; omega
theorem Z34_loop (l : List TField) (h : ∀ a ∈ l, a.sz ≤ 1048576) : Ok (Z34_q10 l) := by
 induction l with
 | nil => exact Tot.some _
 | cons x r ih =>
  have h1 := h x List.mem_cons_self; have h2 := x.sz_def; have h3 := x.FType.wraps_le
  have hz : TField.zero.FType.FWraps.l.length ≤ 1048576 := by decide
  rw [Z34_q10]
  simp only [on]
  cases Z12_q x.FName <;> simp only [Bool.not_true, Bool.not_false, cond_true, cond_false, Bool.or_false, Bool.or_true, Bool.true_or, Bool.false_or]
  ·simp [guardO]; exact Tot.some _
  ·obtain ⟨b1, e1⟩ := Z35_ok x.FArgs (by omega)
   obtain ⟨b2, e2⟩ := Z27_ok x.FType (by omega)
   obtain ⟨b3, e3⟩ := Z33_ok x.FDirs (by omega)
   have hr := ih fun y hy => h y (List.mem_cons_of_mem _ hy)
   cases b1 <;> cases b2 <;> cases b3 <;> simp [guardO, e1, e2, e3] <;> first | exact Tot.some _ | exact hr
theorem Z34_ok (s : Sl TField) (h : Sl.sz TField.sz s ≤ 1048576) : Ok (Z34_q s) := by
 unfold Z34_q
 (repeat' (first | exact Tot.some _ | assumption | (with_reducible refine Tot.bind ?_ fun _ _ => ?_) | (with_reducible refine Tot.guard (fun _ => ?_) fun _ _ _ => ?_) | (with_reducible refine Tot.cond (fun _ => ?_) fun _ => ?_) | (with_reducible refine Tot.on fun _ _ => ?_) | split))
 exact Z34_loop _ fun a ha => by have := Sl.mem_le (f := TField.sz) ha; omega
theorem Z36_loop (b : Bool) (l : List TMember) (h : ∀ a ∈ l, a.sz ≤ 1048576) : Ok (Z36_q10 b l) := by
 induction l with
 | nil => exact Tot.some _
 | cons x r ih =>
  have h1 := h x List.mem_cons_self; have h2 := x.sz_def
  rw [Z36_q10]
  simp only [on]
  cases Z12_q x.FName <;> simp only [Bool.not_true, Bool.not_false, cond_true, cond_false, Bool.or_false, Bool.or_true, Bool.true_or, Bool.false_or]
  ·simp [guardO]; exact Tot.some _
  ·obtain ⟨b3, e3⟩ := Z33_ok x.FDirs (by omega)
   have hr := ih fun y hy => h y (List.mem_cons_of_mem _ hy)
   simp only [guardO, e3, if_true, Option.bind_some]
   (repeat' (first | exact Tot.some _ | assumption | (with_reducible refine Tot.bind ?_ fun _ _ => ?_) | (with_reducible refine Tot.guard (fun _ => ?_) fun _ _ _ => ?_) | (with_reducible refine Tot.cond (fun _ => ?_) fun _ => ?_) | (with_reducible refine Tot.on fun _ _ => ?_) | split))
theorem Z36_ok (s : Sl TMember) (b : Bool) (h : Sl.sz TMember.sz s ≤ 1048576) : Ok (Z36_q s b) := by
 unfold Z36_q
 (repeat' (first | exact Tot.some _ | assumption | (with_reducible refine Tot.bind ?_ fun _ _ => ?_) | (with_reducible refine Tot.guard (fun _ => ?_) fun _ _ _ => ?_) | (with_reducible refine Tot.cond (fun _ => ?_) fun _ => ?_) | (with_reducible refine Tot.on fun _ _ => ?_) | split))
 exact Z36_loop _ _ fun a ha => by have := Sl.mem_le (f := TMember.sz) ha; omega
theorem Z32_ok (x : TDef) (h : x.sz ≤ 1048576) : Ok (Z32_q x) := by
 have h2 := x.sz_def
 unfold Z32_q
 (repeat' (first | exact Tot.some _ | assumption | (with_reducible refine Tot.bind ?_ fun _ _ => ?_) | (with_reducible refine Tot.guard (fun _ => ?_) fun _ _ _ => ?_) | (with_reducible refine Tot.cond (fun _ => ?_) fun _ => ?_) | (with_reducible refine Tot.on fun _ _ => ?_) | split))
 all_goals first | exact Z33_ok _ (by omega) | exact Z34_ok _ (by omega) | exact Z36_ok _ _ (by omega) | exact Z35_ok _ (by omega)
theorem Z30_loop (l : List TDef) (h : ∀ a ∈ l, a.sz ≤ 1048576) : Ok (Z30_q10 l) := by
 induction l with
 | nil => exact Tot.some _
 | cons x r ih =>
  rw [Z30_q10]
  (repeat' (first | exact Tot.some _ | assumption | (with_reducible refine Tot.bind ?_ fun _ _ => ?_) | (with_reducible refine Tot.guard (fun _ => ?_) fun _ _ _ => ?_) | (with_reducible refine Tot.cond (fun _ => ?_) fun _ => ?_) | (with_reducible refine Tot.on fun _ _ => ?_) | split))
  ·subst_vars; exact Z32_ok _ (h _ List.mem_cons_self)
  ·exact ih fun y hy => h y (List.mem_cons_of_mem _ hy)
theorem TDoc.def_le {d : TDoc} {x : TDef} (h : x ∈ d.FDefs.l) : x.sz ≤ d.sz := by have := d.sz_def; have := Sl.mem_le (f := TDef.sz) h; omega
theorem Z30_ok (d : TDoc) (h : d.sz ≤ 1048576) : Ok (Z30_q d) := by
 unfold Z30_q
 (repeat' (first | exact Tot.some _ | assumption | (with_reducible refine Tot.bind ?_ fun _ _ => ?_) | (with_reducible refine Tot.guard (fun _ => ?_) fun _ _ _ => ?_) | (with_reducible refine Tot.cond (fun _ => ?_) fun _ => ?_) | (with_reducible refine Tot.on fun _ _ => ?_) | split))
 exact Z30_loop _ fun a ha => by have := TDoc.def_le ha; omega
end Go.Proofs

namespace Go.Proofs
open Go Go.Ab
theorem Z41_loop (k : TValue → Option Bool) (l : List TValue) (hk : ∀ x ∈ l, Ok (k x)) : Ok (Z41_q5 k l) := by
 induction l with
 | nil => exact Tot.some _
 | cons x r ih =>
  rw [Z41_q5]
  (repeat' (first | exact Tot.some _ | assumption | (with_reducible refine Tot.bind ?_ fun _ _ => ?_) | (with_reducible refine Tot.guard (fun _ => ?_) fun _ _ _ => ?_) | (with_reducible refine Tot.cond (fun _ => ?_) fun _ => ?_) | (with_reducible refine Tot.on fun _ _ => ?_) | split))
  ·rename_i h; rw [h]; exact hk x List.mem_cons_self
  ·exact ih fun y hy => hk y (List.mem_cons_of_mem _ hy)
theorem Z41_tot (n : Nat) : ∀ (v : TValue), v.sz < n → Ok (Z41_qn n v) := by
 induction n with
 | zero => intro v h; omega
 | succ n ih =>
  intro v h
  rw [Z41_qn]
  (repeat' (first | exact Tot.some _ | assumption | (with_reducible refine Tot.bind ?_ fun _ _ => ?_) | (with_reducible refine Tot.guard (fun _ => ?_) fun _ _ _ => ?_) | (with_reducible refine Tot.cond (fun _ => ?_) fun _ => ?_) | (with_reducible refine Tot.on fun _ _ => ?_) | split))
  exact Z41_loop _ _ fun x hx => ih x (by have := TValue.item_lt hx; omega)
theorem Z41_ok (v : TValue) (h : v.sz ≤ 1048576) : Ok (Z41_q v) := Z41_tot F0 v (by rw [F0_eq]; omega)
theorem Z45_loop (l : List TVar) (h : ∀ a ∈ l, a.sz ≤ 1048576) : Ok (Z45_q6 l) := by
 induction l with
 | nil => exact Tot.some _
 | cons x r ih =>
  have h1 := h x List.mem_cons_self; have h2 := x.sz_def; have h3 := x.FType.wraps_le
  have hr := ih fun y hy => h y (List.mem_cons_of_mem _ hy)
  rw [Z45_q6]
  (repeat' (first | exact Tot.some _ | assumption | (with_reducible refine Tot.bind ?_ fun _ _ => ?_) | (with_reducible refine Tot.guard (fun _ => ?_) fun _ _ _ => ?_) | (with_reducible refine Tot.cond (fun _ => ?_) fun _ => ?_) | (with_reducible refine Tot.on fun _ _ => ?_) | split))
  all_goals (subst_vars; first | exact Z27_ok _ (by omega) | exact Z16_ok _ (by omega) | exact Z41_ok _ (by omega))
theorem Z45_ok (s : Sl TVar) (h : Sl.sz TVar.sz s ≤ 1048576) : Ok (Z45_q s) := by
 unfold Z45_q
 (repeat' (first | exact Tot.some _ | assumption | (with_reducible refine Tot.bind ?_ fun _ _ => ?_) | (with_reducible refine Tot.guard (fun _ => ?_) fun _ _ _ => ?_) | (with_reducible refine Tot.cond (fun _ => ?_) fun _ => ?_) | (with_reducible refine Tot.on fun _ _ => ?_) | split))
 exact Z45_loop _ fun a ha => by have := Sl.mem_le (f := TVar.sz) ha; omega
theorem Z40_loop (l : List TArg) (h : ∀ a ∈ l, a.sz ≤ 1048576) : Ok (Z40_q6 l) := by
 induction l with
 | nil => exact Tot.some _
 | cons x r ih =>
  have h1 := h x List.mem_cons_self; have h2 := x.value_le
  have hr := ih fun y hy => h y (List.mem_cons_of_mem _ hy)
  obtain ⟨b, e⟩ := Z16_ok x.FValue (by omega)
  rw [Z40_q6]
  simp only [on]
  cases Z12_q x.FName <;> simp only [guardO, e, Bool.not_true, Bool.not_false, cond_true, cond_false, Bool.or_false, Bool.or_true, Bool.true_or, Bool.false_or, if_true, Bool.false_eq_true, if_false, Option.bind_some]
  ·exact Tot.some _
  ·(repeat' (first | exact Tot.some _ | assumption | (with_reducible refine Tot.bind ?_ fun _ _ => ?_) | (with_reducible refine Tot.guard (fun _ => ?_) fun _ _ _ => ?_) | (with_reducible refine Tot.cond (fun _ => ?_) fun _ => ?_) | (with_reducible refine Tot.on fun _ _ => ?_) | split))
theorem Z40_ok (s : Sl TArg) (h : Sl.sz TArg.sz s ≤ 1048576) : Ok (Z40_q s) := by
 unfold Z40_q
 (repeat' (first | exact Tot.some _ | assumption | (with_reducible refine Tot.bind ?_ fun _ _ => ?_) | (with_reducible refine Tot.guard (fun _ => ?_) fun _ _ _ => ?_) | (with_reducible refine Tot.cond (fun _ => ?_) fun _ => ?_) | (with_reducible refine Tot.on fun _ _ => ?_) | split))
 exact Z40_loop _ fun a ha => by have := Sl.mem_le (f := TArg.sz) ha; omega
theorem Z42_loop (l : List TDir) (h : ∀ a ∈ l, a.sz ≤ 1048576) : Ok (Z42_q6 l) := by
 induction l with
 | nil => exact Tot.some _
 | cons x r ih =>
  have h1 := h x List.mem_cons_self; have h2 := x.sz_def
  have hr := ih fun y hy => h y (List.mem_cons_of_mem _ hy)
  obtain ⟨b, e⟩ := Z40_ok x.FArgs (by omega)
  rw [Z42_q6]
  simp only [on]
  cases Z12_q x.FName <;> simp only [guardO, e, Bool.not_true, Bool.not_false, cond_true, cond_false, Bool.or_false, Bool.or_true, Bool.true_or, Bool.false_or, if_true, Bool.false_eq_true, if_false, Option.bind_some]
  ·exact Tot.some _
  ·(repeat' (first | exact Tot.some _ | assumption | (with_reducible refine Tot.bind ?_ fun _ _ => ?_) | (with_reducible refine Tot.guard (fun _ => ?_) fun _ _ _ => ?_) | (with_reducible refine Tot.cond (fun _ => ?_) fun _ => ?_) | (with_reducible refine Tot.on fun _ _ => ?_) | split))
theorem Z42_ok (s : Sl TDir) (h : Sl.sz TDir.sz s ≤ 1048576) : Ok (Z42_q s) := by
 unfold Z42_q
 (repeat' (first | exact Tot.some _ | assumption | (with_reducible refine Tot.bind ?_ fun _ _ => ?_) | (with_reducible refine Tot.guard (fun _ => ?_) fun _ _ _ => ?_) | (with_reducible refine Tot.cond (fun _ => ?_) fun _ => ?_) | (with_reducible refine Tot.on fun _ _ => ?_) | split))
 exact Z42_loop _ fun a ha => by have := Sl.mem_le (f := TDir.sz) ha; omega
theorem r08_sels_loop (i : Int) (k : TSel → Int → Option Bool) (l : List TSel) (hk : ∀ x ∈ l, Ok (k x i)) : Ok (r08_selsRight_q10 i k l) := by
 induction l with
 | nil => exact Tot.some _
 | cons x r ih =>
  have hr := ih fun y hy => hk y (List.mem_cons_of_mem _ hy)
  rw [r08_selsRight_q10]
  (repeat' (first | exact Tot.some _ | assumption | (with_reducible refine Tot.bind ?_ fun _ _ => ?_) | (with_reducible refine Tot.guard (fun _ => ?_) fun _ _ _ => ?_) | (with_reducible refine Tot.cond (fun _ => ?_) fun _ => ?_) | (with_reducible refine Tot.on fun _ _ => ?_) | split))
  rename_i h; rw [h]; exact hk x List.mem_cons_self
theorem TSel.sub_lt (s : TSel) : Sl.sz TSel.sz s.FSels < s.sz := by
 have h1 := s.sz_def; have := Bs.sz_pos s.FAlias; omega
theorem r08_sels_tot (n : Nat) : (∀ (s : Sl TSel) (i : Int), Sl.sz TSel.sz s ≤ 1048576 → 2 * Sl.sz TSel.sz s < n → 0 ≤ i → i ≤ 25 → Ok (r08_selsRight_qn n s i)) ∧ (∀ (s : TSel) (i : Int), s.sz ≤ 1048576 → 2 * s.sz < n → 0 ≤ i → i ≤ 24 → Ok (Z43_qn n s i)) := by
 induction n with
 | zero => exact ⟨fun s i _ h => by omega, fun s i _ h => by omega⟩
 | succ n ih =>
  refine ⟨fun s i hs h h0 h1 => ?_, fun s i hs h h0 h1 => ?_⟩
  ·rw [r08_selsRight_qn]
   refine Tot.cond (fun _ => Tot.some _) fun hc => ?_
   simp only [Bool.or_eq_false_iff, decide_eq_false_iff_not] at hc
   (repeat' (first | exact Tot.some _ | assumption | (with_reducible refine Tot.bind ?_ fun _ _ => ?_) | (with_reducible refine Tot.guard (fun _ => ?_) fun _ _ _ => ?_) | (with_reducible refine Tot.cond (fun _ => ?_) fun _ => ?_) | (with_reducible refine Tot.on fun _ _ => ?_) | split))
   exact r08_sels_loop _ _ _ fun x hx => ih.2 x i (by have := Sl.mem_le (f := TSel.sz) hx; omega) (by have := Sl.mem_le (f := TSel.sz) hx; omega) h0 (by omega)
  ·have h2 := s.sz_def
   have h3 := s.sub_lt
   obtain ⟨b1, e1⟩ := Z42_ok s.FDirs (by omega)
   obtain ⟨b2, e2⟩ := Z40_ok s.FArgs (by omega)
   obtain ⟨b3, e3⟩ := ih.1 s.FSels (i + 1) (by omega) (by omega) (by omega) (by omega)
   rw [Z43_qn]
   (repeat' (first | exact Tot.some _ | assumption | (with_reducible refine Tot.bind ?_ fun _ _ => ?_) | (with_reducible refine Tot.guard (fun _ => ?_) fun _ _ _ => ?_) | (with_reducible refine Tot.cond (fun _ => ?_) fun _ => ?_) | (with_reducible refine Tot.on fun _ _ => ?_) | split))
   all_goals first
    | exact ⟨_, e1⟩ | exact ⟨_, e2⟩ | exact ⟨_, e3⟩
    | (rw [addC_ok (by omega)]; exact Tot.some _)
    | (rename_i hg _ hv _; have h9 := hv hg; rw [addC_ok (by omega)] at h9; obtain rfl := Option.some.inj h9; exact ⟨_, e3⟩)
    | (rename_i hv; rw [addC_ok (by omega)] at hv; obtain rfl := Option.some.inj hv; exact ⟨_, e3⟩)
    | (rename_i hv _ hg; have h9 := hv hg; rw [addC_ok (by omega)] at h9; obtain rfl := Option.some.inj h9; exact ⟨_, e3⟩)
    | (rename_i hv _ _ hg; have h9 := hv hg; rw [addC_ok (by omega)] at h9; obtain rfl := Option.some.inj h9; exact ⟨_, e3⟩)
theorem r08_selsRight_ok (s : Sl TSel) (h : Sl.sz TSel.sz s ≤ 1048576) : Ok (r08_selsRight_q s 1) := (r08_sels_tot F0).1 s 1 h (by rw [F0_eq]; omega) (by omega) (by omega)
theorem Z39_ops (l : List TOp) (h : ∀ a ∈ l, a.sz ≤ 1048576) : Ok (Z39_q30 l) := by
 induction l with
 | nil => exact Tot.some _
 | cons x r ih =>
  have h1 := h x List.mem_cons_self; have h2 := x.sz_def
  have hr := ih fun y hy => h y (List.mem_cons_of_mem _ hy)
  rw [Z39_q30]
  (repeat' (first | exact Tot.some _ | assumption | (with_reducible refine Tot.bind ?_ fun _ _ => ?_) | (with_reducible refine Tot.guard (fun _ => ?_) fun _ _ _ => ?_) | (with_reducible refine Tot.cond (fun _ => ?_) fun _ => ?_) | (with_reducible refine Tot.on fun _ _ => ?_) | split))
  all_goals (subst_vars; first | exact Z45_ok _ (by omega) | exact r08_selsRight_ok _ (by omega))
theorem Z39_frags (l : List TFrag) (h : ∀ a ∈ l, a.sz ≤ 1048576) : Ok (Z39_q14 l) := by
 induction l with
 | nil => exact Tot.some _
 | cons x r ih =>
  have h1 := h x List.mem_cons_self; have h2 := x.sz_def
  have hr := ih fun y hy => h y (List.mem_cons_of_mem _ hy)
  rw [Z39_q14]
  (repeat' (first | exact Tot.some _ | assumption | (with_reducible refine Tot.bind ?_ fun _ _ => ?_) | (with_reducible refine Tot.guard (fun _ => ?_) fun _ _ _ => ?_) | (with_reducible refine Tot.cond (fun _ => ?_) fun _ => ?_) | (with_reducible refine Tot.on fun _ _ => ?_) | split))
  all_goals (subst_vars; first | exact r08_selsRight_ok _ (by omega))
theorem TQuery.op_le {d : TQuery} {x : TOp} (h : x ∈ d.FOps.l) : x.sz ≤ d.sz := by have := d.sz_def; have := Sl.mem_le (f := TOp.sz) h; omega
theorem TQuery.frag_le {d : TQuery} {x : TFrag} (h : x ∈ d.FFrags.l) : x.sz ≤ d.sz := by have := d.sz_def; have := Sl.mem_le (f := TFrag.sz) h; omega
theorem TQuery.lens (d : TQuery) : d.FOps.l.length ≤ d.sz ∧ d.FFrags.l.length ≤ d.sz := by
 have h1 := d.sz_def; have h2 := Sl.len_lt (f := TOp.sz) d.FOps TOp.pos; have h3 := Sl.len_lt (f := TFrag.sz) d.FFrags TFrag.pos; omega
theorem Z39_ok (q : TQuery) (h : q.sz ≤ 1048576) : Ok (Z39_q q) := by
 have hl := q.lens
 unfold Z39_q
 rw [addC_ok (by omega)]
 (repeat' (first | exact Tot.some _ | assumption | (with_reducible refine Tot.bind ?_ fun _ _ => ?_) | (with_reducible refine Tot.guard (fun _ => ?_) fun _ _ _ => ?_) | (with_reducible refine Tot.cond (fun _ => ?_) fun _ => ?_) | (with_reducible refine Tot.on fun _ _ => ?_) | split))
 ·exact Z39_ops _ fun a ha => by have := TQuery.op_le ha; omega
 ·exact Z39_frags _ fun a ha => by have := TQuery.frag_le ha; omega
theorem Z46_args (m : Int) (h7 : TSel) (l : List TArg) (s : Int) (hs : 0 ≤ s) (hb : s + ((l.map TArg.sz).sum : Nat) ≤ 1152921504606846976) (ha : ∀ a ∈ l, a.sz ≤ 1048576) : ∃ r, Z46_q29 m h7 l s = some r ∧ s ≤ r ∧ r + (l.length : Nat) ≤ s + ((l.map TArg.sz).sum : Nat) := by
 induction l generalizing s with
 | nil => exact ⟨s, rfl, by simp, by simp⟩
 | cons x r ih =>
  have h1 := ha x List.mem_cons_self; have h2 := x.sz_def; have hp := Bs.sz_pos x.FName
  obtain ⟨v, h3, h4, h5⟩ := Z17_ok x.FValue (by omega)
  have hr : r.length ≤ (r.map TArg.sz).sum := by
   have := Sl.len_le (f := TArg.sz) ⟨false, r⟩ TArg.pos
   have h9 := Sl.len_lt (f := TArg.sz) ⟨false, r⟩ TArg.pos
   have h8 : Sl.sz TArg.sz ⟨false, r⟩ = 1 + (r.map TArg.sz).sum := rfl
   simp only at h9; omega
  simp only [List.map_cons, List.sum_cons, List.length_cons] at hb ⊢
  rw [Z46_q29]
  cases decide (s ≤ m) with
  | false => exact ⟨s, rfl, by omega, by omega⟩
  | true =>
   simp only [on, cond_true, h3, Option.bind_some]
   rw [addC_ok (by omega)]
   simp only [Option.bind_some]
   obtain ⟨w, h6, h7, h8⟩ := ih (s + v) (by omega) (by omega) (fun y hy => ha y (List.mem_cons_of_mem _ hy))
   exact ⟨w, h6, by omega, by omega⟩
theorem Z46_loop (m : Int) (k : Sl TSel → Int → Option Int) (l : List TSel) (s : Int) (hm : -2305843009213693952 ≤ m ∧ m ≤ 1152921504606846976) (hs : 0 ≤ s) (hb : s + ((l.map TSel.sz).sum : Nat) ≤ 1048576) (hk : ∀ x ∈ l, ∀ m', m - 1048576 ≤ m' → m' ≤ m → ∃ r, k x.FSels m' = some r ∧ 0 ≤ r ∧ r ≤ (Sl.sz TSel.sz x.FSels : Nat)) : ∃ r, Z46_q7 m k l s = some r ∧ s ≤ r ∧ r ≤ s + ((l.map TSel.sz).sum : Nat) := by
 induction l generalizing s with
 | nil => exact ⟨s, rfl, by simp, by simp⟩
 | cons x r ih =>
  have h2 := x.sz_def
  have h3 := Sl.len_lt (f := TArg.sz) x.FArgs TArg.pos; have h4 := Sl.len_lt (f := TDir.sz) x.FDirs TDir.pos
  have h5 : Sl.sz TArg.sz x.FArgs = 1 + (x.FArgs.l.map TArg.sz).sum := rfl
  have h0 := Bs.sz_pos x.FName; have h01 := Bs.sz_pos x.FAlias; have h02 := Bs.sz_pos x.FOn
  have h6 : x.FArgs.l.length ≤ 2 * (x.FArgs.l.map TArg.sz).sum := by omega
  simp only [List.map_cons, List.sum_cons] at hb ⊢
  rw [Z46_q7]
  cases decide (s ≤ m) with
  | false => exact ⟨s, rfl, by omega, by omega⟩
  | true =>
   simp only [on, cond_true]
   iterate 3 (rw [addC_ok (by omega)]; simp only [Option.bind_some])
   obtain ⟨w, e1, e2, e3⟩ := Z46_args m x x.FArgs.l (s + 1 + (x.FArgs.l.length : Nat) + (x.FDirs.l.length : Nat)) (by omega) (by omega) (fun a haa => by have := Sl.mem_le (f := TArg.sz) haa; omega)
   simp only [e1, Option.bind_some]
   rw [subC_ok (by omega)]
   simp only [Option.bind_some]
   obtain ⟨y, e4, e5, e6⟩ := hk x List.mem_cons_self (m - w) (by omega) (by omega)
   simp only [e4, Option.bind_some]
   rw [addC_ok (by omega)]
   simp only [Option.bind_some]
   obtain ⟨z, e7, e8, e9⟩ := ih (w + y) (by omega) (by omega) (fun y hy => hk y (List.mem_cons_of_mem _ hy))
   exact ⟨z, e7, by omega, by omega⟩
theorem Z46_tot (n : Nat) : ∀ (l : Sl TSel) (m : Int), Sl.sz TSel.sz l < n → Sl.sz TSel.sz l ≤ 1048576 → -2199023255552 + (Sl.sz TSel.sz l : Nat) * 1048576 ≤ m → m ≤ 1152921504606846976 → ∃ r, Z46_qn n l m = some r ∧ 0 ≤ r ∧ r ≤ (Sl.sz TSel.sz l : Nat) := by
 induction n with
 | zero => intro l m h; omega
 | succ n ih =>
  intro l m h1 h2 h3 h4
  have h5 : Sl.sz TSel.sz l = 1 + (l.l.map TSel.sz).sum := rfl
  obtain ⟨r, e1, e2, e3⟩ := Z46_loop m (Z46_qn n) l.l 0 ⟨by omega, h4⟩ (by omega) (by omega) (fun x hx m' h6 h7 => by
   have h8 := Sl.mem_le (f := TSel.sz) hx; have h9 := x.sub_lt
   exact ih _ _ (by omega) (by omega) (by omega) (by omega))
  rw [Z46_qn, e1]
  exact ⟨r, rfl, by omega, by omega⟩
theorem Z46_ok (l : Sl TSel) (h : Sl.sz TSel.sz l ≤ 1048576) : ∃ r, Z46_q l 600 = some r ∧ 0 ≤ r ∧ r ≤ (Sl.sz TSel.sz l : Nat) := Z46_tot F0 l 600 (by rw [F0_eq]; omega) h (by omega) (by omega)
theorem Z38_ops (l : List TOp) (s : Int) (hs : 0 ≤ s) (hb : s + ((l.map TOp.sz).sum : Nat) ≤ 1073741824) (ha : ∀ a ∈ l, a.sz ≤ 1048576) : ∃ r, Z38_q24 l s = some r ∧ 0 ≤ r ∧ r ≤ s + ((l.map TOp.sz).sum : Nat) := by
 induction l generalizing s with
 | nil => exact ⟨s, rfl, by omega, by simp⟩
 | cons x r ih =>
  have h1 := ha x List.mem_cons_self; have h2 := x.sz_def
  have h3 := Sl.len_lt (f := TVar.sz) x.FVars TVar.pos
  simp only [List.map_cons, List.sum_cons] at hb ⊢
  rw [Z38_q24]
  cases decide (s ≤ 600) with
  | false => exact ⟨s, rfl, by omega, by omega⟩
  | true =>
   simp only [on, cond_true]
   rw [addC_ok (by omega)]
   obtain ⟨w, e1, e2, e3⟩ := Z46_ok x.FSels (by omega)
   simp only [Option.bind_some, e1]
   rw [addC_ok (by omega)]
   simp only [Option.bind_some]
   obtain ⟨z, e7, e8, e9⟩ := ih (s + (x.FVars.l.length : Nat) + w) (by omega) (by omega) (fun y hy => ha y (List.mem_cons_of_mem _ hy))
   exact ⟨z, e7, by omega, by omega⟩
theorem Z38_frags (l : List TFrag) (s : Int) (hs : 0 ≤ s) (hb : s + ((l.map TFrag.sz).sum : Nat) ≤ 2147483648) (ha : ∀ a ∈ l, a.sz ≤ 1048576) : ∃ r, Z38_q12 l s = some r ∧ 0 ≤ r ∧ r ≤ s + ((l.map TFrag.sz).sum : Nat) := by
 induction l generalizing s with
 | nil => exact ⟨s, rfl, by omega, by simp⟩
 | cons x r ih =>
  have h1 := ha x List.mem_cons_self; have h2 := x.sz_def
  simp only [List.map_cons, List.sum_cons] at hb ⊢
  rw [Z38_q12]
  cases decide (s ≤ 600) with
  | false => exact ⟨s, rfl, by omega, by omega⟩
  | true =>
   simp only [on, cond_true]
   obtain ⟨w, e1, e2, e3⟩ := Z46_ok x.FSels (by omega)
   simp only [Option.bind_some, e1]
   rw [addC_ok (by omega)]
   simp only [Option.bind_some]
   obtain ⟨z, e7, e8, e9⟩ := ih (s + w) (by omega) (by omega) (fun y hy => ha y (List.mem_cons_of_mem _ hy))
   exact ⟨z, e7, by omega, by omega⟩
theorem Z38_ok (q : TQuery) (h : q.sz ≤ 1048576) : Ok (Z38_q q) := by
 have hl := q.lens; have hd := q.sz_def
 have h1 : Sl.sz TOp.sz q.FOps = 1 + (q.FOps.l.map TOp.sz).sum := rfl
 have h2 : Sl.sz TFrag.sz q.FFrags = 1 + (q.FFrags.l.map TFrag.sz).sum := rfl
 unfold Z38_q
 rw [addC_ok (by omega)]
 obtain ⟨r, e1, e2, e3⟩ := Z38_ops q.FOps.l ((q.FOps.l.length : Nat) + (q.FFrags.l.length : Nat)) (by omega) (by omega) fun a ha => by have := TQuery.op_le ha; omega
 simp only [Option.bind_some, e1, on]
 obtain ⟨w, e4, e5, e6⟩ := Z38_frags q.FFrags.l r (by omega) (by omega) fun a ha => by have := TQuery.frag_le ha; omega
 simp only [Option.bind_some, e4]
 exact Tot.some _
theorem Z51_in (l : List TField) (s : Int) (hs : 0 ≤ s) (hb : s + ((l.map TField.sz).sum : Nat) ≤ 1152921504606846976) (ha : ∀ a ∈ l, a.sz ≤ 1048576) : ∃ r, Z51_q36 l s = some r ∧ 0 ≤ r ∧ r ≤ s + ((l.map TField.sz).sum : Nat) := by
 induction l generalizing s with
 | nil => exact ⟨s, rfl, by omega, by simp⟩
 | cons x r ih =>
  have h1 := ha x List.mem_cons_self; have h2 := x.sz_def
  have h3 := Sl.len_lt (f := TInput.sz) x.FArgs TInput.pos; have h4 := Sl.len_lt (f := TDir.sz) x.FDirs TDir.pos
  simp only [List.map_cons, List.sum_cons] at hb ⊢
  rw [Z51_q36]
  simp only [on]
  rw [addC_ok (by omega)]; simp only [Option.bind_some]
  rw [addC_ok (by omega)]; simp only [Option.bind_some]
  obtain ⟨z, e7, e8, e9⟩ := ih (s + ((x.FArgs.l.length : Nat) + (x.FDirs.l.length : Nat))) (by omega) (by omega) (fun y hy => ha y (List.mem_cons_of_mem _ hy))
  exact ⟨z, e7, by omega, by omega⟩
theorem Z51_out (l : List TDef) (s : Int) (hs : 0 ≤ s) (hb : s + 2 * ((l.map TDef.sz).sum : Nat) ≤ 1152921504606846976) (ha : ∀ a ∈ l, a.sz ≤ 1048576) : ∃ r, Z51_q12 l s = some r := by
 induction l generalizing s with
 | nil => exact ⟨s, rfl⟩
 | cons x r ih =>
  have h1 := ha x List.mem_cons_self; have h2 := x.sz_def
  have h3 := Sl.len_lt (f := TField.sz) x.FFields TField.pos; have h4 := Sl.len_lt (f := TDir.sz) x.FDirs TDir.pos; have h5 := Sl.len_lt (f := TMember.sz) x.FMembers TMember.pos
  have h6 := Sl.len_lt (f := TInput.sz) x.FInputs TInput.pos; have h7 := Sl.len_lt (f := Bs.sz) x.FImplements Bs.sz_pos
  have h8 : Sl.sz TField.sz x.FFields = 1 + (x.FFields.l.map TField.sz).sum := rfl
  simp only [List.map_cons, List.sum_cons] at hb
  rw [Z51_q12]
  simp only [on]
  iterate 6 (rw [addC_ok (by omega)]; simp only [Option.bind_some])
  obtain ⟨z, e1, e2, e3⟩ := Z51_in x.FFields.l (s + (1 + (x.FFields.l.length : Nat) + (x.FMembers.l.length : Nat) + (x.FInputs.l.length : Nat) + (x.FDirs.l.length : Nat) + (x.FImplements.l.length : Nat))) (by omega) (by omega) (fun a haa => by have := Sl.mem_le (f := TField.sz) haa; omega)
  simp only [e1, Option.bind_some]
  exact ih z e2 (by omega) (fun y hy => ha y (List.mem_cons_of_mem _ hy))
theorem Z51_ok (d : TDoc) (h : d.sz ≤ 1048576) : Ok (Z51_q d) := by
 have hd := d.sz_def
 have h1 : Sl.sz TDef.sz d.FDefs = 1 + (d.FDefs.l.map TDef.sz).sum := rfl
 unfold Z51_q
 (repeat' (first | exact Tot.some _ | assumption | (with_reducible refine Tot.bind ?_ fun _ _ => ?_) | (with_reducible refine Tot.guard (fun _ => ?_) fun _ _ _ => ?_) | (with_reducible refine Tot.cond (fun _ => ?_) fun _ => ?_) | (with_reducible refine Tot.on fun _ _ => ?_) | split))
 exact Z51_out _ _ (by omega) (by omega) fun a ha => by have := TDoc.def_le ha; omega
end Go.Proofs

namespace Go.Proofs
open Go Go.Ab
def nnW (w : List Int) : Bool := w.head? == some 1
def liW (w : List Int) : Bool := w.head? == some 2
def barS (s : Sl Int) : Sl Int := bif nnW s.l then ⟨s.nl, s.l.drop 1⟩ else s
def bar (t : TRef) : TRef := ⟨t.FName, barS t.FWraps⟩
def innerT (t : TRef) : TRef := ⟨t.FName, ⟨(barS t.FWraps).nl, (barS t.FWraps).l.drop 1⟩⟩
theorem clone_eq {s : Sl Int} (h : SOk s) : Z78_q s = some s := by
 unfold Z78_q
 obtain ⟨nl, l⟩ := s
 cases nl with
 | true => have := h.1 rfl; simp only at this; subst this; rfl
 | false =>
  simp only [cond_false]
  rw [appC_ok (by omega) (by have := h.2; simp at this ⊢; omega)]
  simp
theorem isNonNull_eq (t : TRef) : Z86_q t = nnW t.FWraps.l := by
 unfold Z86_q nnW on
 cases t.FWraps.l with
 | nil => rfl
 | cons a r => simp; by_cases h : a = 1 <;> simp [h]
theorem head_one {w : List Int} (h : nnW w = true) : 1 ≤ w.length := by cases w <;> simp [nnW] at h ⊢
theorem sok_drop {α : Type} {s : Sl α} (n : Nat) (h : SOk s) : SOk ⟨s.nl, s.l.drop n⟩ := ⟨fun e => by simp [h.1 e], by have := h.2; simp; omega⟩
theorem barS_ok {s : Sl Int} (h : SOk s) : SOk (barS s) := by
 unfold barS
 cases nnW s.l with
 | true => exact sok_drop 1 h
 | false => exact h
theorem innerT_ok {t : TRef} (h : SOk t.FWraps) : SOk (innerT t).FWraps := sok_drop 1 (barS_ok h)
theorem nullable_eq {t : TRef} (h : SOk t.FWraps) : Z89_q t = some (bar t) := by
 unfold Z89_q bar barS on
 simp only [isNonNull_eq]
 cases hn : nnW t.FWraps.l with
 | true =>
  simp only [cond_true]
  rw [partC_tail (head_one hn)]
  simp only [Option.bind_some]
  rw [clone_eq (sok_drop 1 h)]; rfl
 | false =>
  simp only [cond_false, Option.bind_some]
  rw [clone_eq h]; rfl
theorem isList_eq {t : TRef} (h : SOk t.FWraps) : Z85_q t = some (liW (barS t.FWraps).l) := by
 unfold Z85_q
 rw [nullable_eq h]
 simp only [Option.bind_some, on, bar, liW]
 cases (barS t.FWraps).l with
 | nil => rfl
 | cons a r => simp; by_cases h : a = 2 <;> simp [h]
theorem list_one {w : List Int} (h : liW w = true) : 1 ≤ w.length := by cases w <;> simp [liW] at h ⊢
theorem inner_eq {t : TRef} (h : SOk t.FWraps) : Z84_q t = some (bif liW (barS t.FWraps).l then (innerT t, true) else (⟨[], Sl.nil⟩, false)) := by
 unfold Z84_q
 rw [isList_eq h]
 simp only [Option.bind_some]
 cases hl : liW (barS t.FWraps).l with
 | false => rfl
 | true =>
  simp only [Bool.not_true, cond_false, cond_true]
  rw [nullable_eq h]
  simp only [Option.bind_some, bar]
  rw [partC_tail (list_one hl)]
  rfl
theorem inner_lt {t : TRef} (h : liW (barS t.FWraps).l = true) : (innerT t).FWraps.l.length < t.FWraps.l.length := by
 have h1 := list_one h
 have h2 : (barS t.FWraps).l.length ≤ t.FWraps.l.length := by
  unfold barS; cases nnW t.FWraps.l <;> simp
 simp [innerT]; omega
theorem findAux (l : List TDef) (s : Bs) : Z72_q7 s l = (match l.find? (fun t => t.FName == s) with | some t => Sum.inr (t, true) | none => Sum.inl ()) := by
 induction l with
 | nil => rfl
 | cons a r ih =>
  rw [Z72_q7, List.find?_cons]
  simp only [on, ih]
  cases a.FName == s <;> rfl
def fnd (l : List TDef) (s : Bs) : TDef × Bool := match l.find? (fun t => t.FName == s) with | some t => (t, true) | none => (TDef.zero, false)
theorem find_eq (d : TDoc) (s : Bs) : Z72_q d s = fnd d.FDefs.l s := by
 unfold Z72_q fnd on
 rw [findAux]
 cases d.FDefs.l.find? (fun t => t.FName == s) <;> rfl
theorem fnd_mem (l : List TDef) (s : Bs) : (fnd l s).1 = TDef.zero ∨ (fnd l s).1 ∈ l := by
 unfold fnd
 cases h : l.find? (fun t => t.FName == s) with
 | none => exact .inl rfl
 | some t => exact .inr (List.mem_of_find?_eq_some h)
theorem fieldAux (l : List TField) (s : Bs) : Z71_q7 s l = (match l.find? (fun t => t.FName == s) with | some t => Sum.inr (t, true) | none => Sum.inl ()) := by
 induction l with
 | nil => rfl
 | cons a r ih =>
  rw [Z71_q7, List.find?_cons]
  simp only [on, ih]
  cases a.FName == s <;> rfl
def fndF (l : List TField) (s : Bs) : TField × Bool := match l.find? (fun t => t.FName == s) with | some t => (t, true) | none => (TField.zero, false)
theorem fieldOf_eq (t : TDef) (s : Bs) : Z71_q t s = fndF t.FFields.l s := by
 unfold Z71_q fndF on
 rw [fieldAux]
 cases t.FFields.l.find? (fun t => t.FName == s) <;> rfl
theorem inputAux (l : List TInput) (s : Bs) : Z73_q7 s l = (match l.find? (fun t => t.FName == s) with | some t => Sum.inr (t, true) | none => Sum.inl ()) := by
 induction l with
 | nil => rfl
 | cons a r ih =>
  rw [Z73_q7, List.find?_cons]
  simp only [on, ih]
  cases a.FName == s <;> rfl
def fndI (l : List TInput) (s : Bs) : TInput × Bool := match l.find? (fun t => t.FName == s) with | some t => (t, true) | none => (TInput.zero, false)
theorem inputOf_eq (t : Sl TInput) (s : Bs) : Z73_q t s = fndI t.l s := by
 unfold Z73_q fndI on
 rw [inputAux]
 cases t.l.find? (fun t => t.FName == s) <;> rfl
def DefsOk (d : TDoc) : Prop := ∀ x ∈ d.FDefs.l, x.FFields.l.length ≤ 1048576 ∧ x.FInputs.l.length ≤ 1048576 ∧ (∀ f ∈ x.FFields.l, SOk f.FType.FWraps ∧ f.FArgs.l.length ≤ 1048576 ∧ ∀ i ∈ f.FArgs.l, SOk i.FType.FWraps) ∧ ∀ i ∈ x.FInputs.l, SOk i.FType.FWraps
theorem TRef.sok {r : TRef} (h : r.sz ≤ 1048576) (hw : r.wf) : SOk r.FWraps := ⟨hw.2.1.1, by have := r.sz_def; have := Sl.len_le (f := fun _ : Int => 1) r.FWraps (fun _ => Nat.le_refl _); omega⟩
theorem TInput.sok {r : TInput} (h : r.sz ≤ 1048576) (hw : r.wf) : SOk r.FType.FWraps := TRef.sok (by have := r.sz_def; omega) (TInput.FType_wf hw)
theorem defsOk {d : TDoc} (h : d.sz ≤ 1048576) (hw : d.wf) : DefsOk d := by
 intro x hx
 have h1 := x.sz_def; have h2 := d.sz_def; have h3 := Sl.mem_le (f := TDef.sz) hx
 have h4 := Sl.len_lt (f := TField.sz) x.FFields TField.pos; have h5 := Sl.len_lt (f := TInput.sz) x.FInputs TInput.pos
 have w : x.wf := (TDoc.FDefs_wf hw).2.2 x hx
 refine ⟨by omega, by omega, fun f hf => ?_, fun i hi => ?_⟩
 ·have h6 := Sl.mem_le (f := TField.sz) hf; have h7 := f.sz_def; have h8 := Sl.len_lt (f := TInput.sz) f.FArgs TInput.pos
  have wf : f.wf := (TDef.FFields_wf w).2.2 f hf
  exact ⟨TRef.sok (by omega) (TField.FType_wf wf), by omega, fun i hi => TInput.sok (by have := Sl.mem_le (f := TInput.sz) hi; omega) ((TField.FArgs_wf wf).2.2 i hi)⟩
 ·exact TInput.sok (by have := Sl.mem_le (f := TInput.sz) hi; omega) ((TDef.FInputs_wf w).2.2 i hi)
theorem find_ok {d : TDoc} (h : DefsOk d) (s : Bs) : (fnd d.FDefs.l s).1.FFields.l.length ≤ 1048576 ∧ (fnd d.FDefs.l s).1.FInputs.l.length ≤ 1048576 ∧ (∀ f ∈ (fnd d.FDefs.l s).1.FFields.l, SOk f.FType.FWraps ∧ f.FArgs.l.length ≤ 1048576 ∧ ∀ i ∈ f.FArgs.l, SOk i.FType.FWraps) ∧ ∀ i ∈ (fnd d.FDefs.l s).1.FInputs.l, SOk i.FType.FWraps := by
 rcases fnd_mem d.FDefs.l s with e | e
 ·rw [e]; exact ⟨by simp [TDef.zero, Sl.nil], by simp [TDef.zero, Sl.nil], by simp [TDef.zero, Sl.nil], by simp [TDef.zero, Sl.nil]⟩
 ·exact h _ e
theorem sok_zero : SOk TInput.zero.FType.FWraps := ⟨fun _ => rfl, by decide⟩
theorem inputOk {l : List TInput} (h : ∀ i ∈ l, SOk i.FType.FWraps) (s : Bs) : SOk (fndI l s).1.FType.FWraps := by
 unfold fndI
 cases e : l.find? (fun t => t.FName == s) with
 | none => exact sok_zero
 | some t => exact h _ (List.mem_of_find?_eq_some e)
theorem fieldOk {l : List TField} (h : ∀ f ∈ l, SOk f.FType.FWraps ∧ f.FArgs.l.length ≤ 1048576 ∧ ∀ i ∈ f.FArgs.l, SOk i.FType.FWraps) (s : Bs) : SOk (fndF l s).1.FType.FWraps ∧ (fndF l s).1.FArgs.l.length ≤ 1048576 ∧ ∀ i ∈ (fndF l s).1.FArgs.l, SOk i.FType.FWraps := by
 unfold fndF
 cases e : l.find? (fun t => t.FName == s) with
 | none => exact ⟨⟨fun _ => rfl, by decide⟩, by decide, fun i hi => by cases hi⟩
 | some t => exact h _ (List.mem_of_find?_eq_some e)
end Go.Proofs

namespace Go.Proofs
open Go Go.Ab
def sTypename : Bs := [95, 95, 116, 121, 112, 101, 110, 97, 109, 101]
theorem r05_isNonNull_eq (t : TRef) : Z23_q t = nnW t.FWraps.l := isNonNull_eq t
def RefEq (a b : TRef) : Prop := a.FName = b.FName ∧ a.FWraps.l = b.FWraps.l
theorem Z28_is {t : TRef} (h : t.FWraps.l.length ≤ 1048576) (h1 : 1 ≤ t.FWraps.l.length) : Z28_q t = some ⟨t.FName, ⟨false, t.FWraps.l.drop 1⟩⟩ := by
 unfold Z28_q
 rw [partC_tail h1]
 simp only [Option.bind_some]
 rw [appC_ok (by omega) (by simp; omega)]
 rfl
theorem r05_nullable_eq {t : TRef} (h : t.FWraps.l.length ≤ 1048576) : Z26_q t = some ⟨t.FName, ⟨false, (barS t.FWraps).l⟩⟩ := by
 unfold Z26_q
 simp only [on, r05_isNonNull_eq, barS]
 cases hn : nnW t.FWraps.l with
 | true => simp only [cond_true]; rw [Z28_is h (head_one hn)]; rfl
 | false =>
  simp only [cond_false]
  rw [appC_ok (by omega) (by simp; omega)]
  rfl
theorem barS_len (s : Sl Int) : (barS s).l.length ≤ s.l.length := by unfold barS; cases nnW s.l <;> simp
theorem r05_isList_eq {t : TRef} (h : t.FWraps.l.length ≤ 1048576) : Z22_q t = some (liW (barS t.FWraps).l) := by
 unfold Z22_q
 rw [r05_nullable_eq h]
 simp only [Option.bind_some, on, liW]
 cases (barS t.FWraps).l with
 | nil => rfl
 | cons a r => simp; by_cases h : a = 2 <;> simp [h]
theorem r05_inner_eq {t : TRef} (h : t.FWraps.l.length ≤ 1048576) : ∃ x, Z21_q t = some (x, liW (barS t.FWraps).l) ∧ (liW (barS t.FWraps).l = true → RefEq (innerT t) x) := by
 unfold Z21_q
 rw [r05_isList_eq h]
 simp only [Option.bind_some]
 cases hl : liW (barS t.FWraps).l with
 | false => exact ⟨_, rfl, fun h => by cases h⟩
 | true =>
  have := barS_len t.FWraps
  simp only [Bool.not_true, cond_false]
  rw [r05_nullable_eq h]
  simp only [Option.bind_some]
  rw [Z28_is (show (barS t.FWraps).l.length ≤ 1048576 by omega) (list_one hl)]
  exact ⟨_, rfl, fun _ => ⟨rfl, rfl⟩⟩
theorem RefEq.bar {a b : TRef} (h : RefEq a b) : (barS a.FWraps).l = (barS b.FWraps).l := by
 unfold barS; rw [h.2]; cases nnW b.FWraps.l <;> simp [h.2]
theorem r10_findAux (l : List TDef) (s : Bs) : Z49_q6 s l = Z72_q7 s l := by
 induction l with
 | nil => rfl
 | cons a r ih => rw [Z49_q6, Z72_q7, ih]; rfl
theorem r10_find_eq (d : TDoc) (s : Bs) : Z49_q d s = fnd d.FDefs.l s := by
 rw [← find_eq]; unfold Z49_q Z72_q; rw [r10_findAux]; all_goals rfl
theorem r10_fieldAux (l : List TField) (s : Bs) : Z48_q6 s l = Z71_q7 s l := by
 induction l with
 | nil => rfl
 | cons a r ih => rw [Z48_q6, Z71_q7, ih]; rfl
theorem r10_fieldOf_eq (t : TDef) (s : Bs) : Z48_q t s = fndF t.FFields.l s := by
 rw [← fieldOf_eq]; unfold Z48_q Z71_q; rw [r10_fieldAux]; all_goals rfl
theorem r10_inputAux (l : List TInput) (s : Bs) : Z50_q6 s l = Z73_q7 s l := by
 induction l with
 | nil => rfl
 | cons a r ih => rw [Z50_q6, Z73_q7, ih]; rfl
theorem r10_inputOf_eq (t : Sl TInput) (s : Bs) : Z50_q t s = fndI t.l s := by
 rw [← inputOf_eq]; unfold Z50_q Z73_q; rw [r10_inputAux]; all_goals rfl
theorem fnd_none (l : List TDef) (s : Bs) (h : (fnd l s).2 = false) : (fnd l s).1 = TDef.zero := by
 unfold fnd at *
 cases e : l.find? (fun t => t.FName == s) with
 | none => rfl
 | some t => rw [e] at h; cases h
theorem r10_composite_eq (d : TDoc) (s : Bs) : Z47_q d s = Z70_q d s := by
 unfold Z47_q Z70_q Z76_q
 simp only [on, r10_find_eq, find_eq]
 show ((!Z75_q s && _) && _) = _
 cases h : (fnd d.FDefs.l s).2 with
 | true => simp
 | false => rw [fnd_none _ _ h]; simp [TDef.zero]
def typeX (d : TDoc) (on_ f : Bs) : TRef × Bool :=
 bif !Z70_q d on_ then (⟨[], Sl.nil⟩, false)
 else bif f == sTypename then (⟨[83, 116, 114, 105, 110, 103], ⟨false, [1]⟩⟩, true)
 else bif !(fndF (fnd d.FDefs.l on_).1.FFields.l f).2 then (⟨[], Sl.nil⟩, false)
 else (⟨(fndF (fnd d.FDefs.l on_).1.FFields.l f).1.FType.FName, (fndF (fnd d.FDefs.l on_).1.FFields.l f).1.FType.FWraps⟩, true)
theorem type_eq {d : TDoc} (hd : DefsOk d) (on_ f : Bs) : Z3_q d on_ f = some (typeX d on_ f) := by
 unfold Z3_q typeX
 simp only [on, find_eq, fieldOf_eq, Z87_q, clone_eq (fieldOk (find_ok hd on_).2.2.1 f).1, Option.bind_some]
 have hs : Z88_q ⟨[83, 116, 114, 105, 110, 103], Sl.nil⟩ = some ⟨[83, 116, 114, 105, 110, 103], ⟨false, [1]⟩⟩ := by kernel_rfl
 rw [hs]
 cases Z70_q d on_ with
 | false => rfl
 | true =>
  simp only [Bool.not_true, cond_false]
  show (bif f == sTypename then _ else _) = some (bif f == sTypename then _ else _)
  cases f == sTypename with
  | true => rfl
  | false =>
   simp only [cond_false]
   cases (fndF (fnd d.FDefs.l on_).1.FFields.l f).2 <;> rfl
theorem condE {α : Type} {c : Bool} {a b : Option α} {z : α} (h : cond c a b = some z) : (c = true ∧ a = some z) ∨ (c = false ∧ b = some z) := by cases c; exact .inr ⟨rfl, h⟩; exact .inl ⟨rfl, h⟩
theorem defs_right (l : List TDef) (z : Unit ⊕ Bool) (h : Z30_q10 l = some z) : (z = Sum.inl () ∧ ∀ x ∈ l, x.FName ≠ []) ∨ z = Sum.inr false := by
 induction l generalizing z with
 | nil => rw [Z30_q10] at h; exact .inl ⟨(Option.some.inj h).symm, fun a ha => by cases ha⟩
 | cons a r ih =>
  rw [Z30_q10] at h
  simp only [on] at h
  obtain ⟨x, g, h⟩ := bindO_some h
  cases x with
  | false => simp at h; exact .inr h.symm
  | true =>
   simp only [Bool.not_true, cond_false] at h
   have hn : a.FName ≠ [] := by
    intro e
    unfold Z32_q on at g
    rw [show Z12_q a.FName = false by rw [e]; rfl] at g
    simp [guardO] at g
   rcases ih z h with ⟨h1, h2⟩ | h1
   ·exact .inl ⟨h1, fun y hy => by rcases List.mem_cons.1 hy with rfl | hy; exact hn; exact h2 y hy⟩
   ·exact .inr h1
theorem empty_not {d : TDoc} (h : Z30_q d = some true) : Z70_q d [] = false := by
 have hn : ∀ x ∈ d.FDefs.l, x.FName ≠ [] := by
  unfold Z30_q at h
  rcases condE h with ⟨_, h⟩ | ⟨_, h⟩
  ·cases h
  ·obtain ⟨z, g, h⟩ := bindO_some h
   rcases defs_right _ _ g with ⟨_, h1⟩ | rfl
   ·exact h1
   ·cases h
 have hf : d.FDefs.l.find? (fun t => t.FName == []) = none := by
  rw [List.find?_eq_none]; intro x hx; simpa using hn x hx
 unfold Z70_q Z76_q on
 simp only [find_eq, fnd, hf]
 rfl
end Go.Proofs
