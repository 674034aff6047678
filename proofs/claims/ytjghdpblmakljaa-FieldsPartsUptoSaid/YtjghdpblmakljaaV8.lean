import Derived.Test.YtjghdpblmakljaaV7
set_option linter.unusedVariables false
set_option linter.unusedSimpArgs false
namespace Go.Proofs
open Go Go.Ab
def fields_object_q7 (a0 : TDoc) (a1 : TDef) (a2 : TValue) (k_rec_76 : TDoc → TRef → TValue → Option Bool) : List Bs → Nat → Option (Unit ⊕ Bool)
 | [], s14_8 => some (Sum.inl ())
 | h7 :: r7, s14_8 => on (h7) fun x14 => on (schema_InputOf_q a1.FInputs x14) fun x16 => guardO (!((!x16.2) || (decide (((a2.FItems.l.length : Nat) : Int) ≤ ((s14_8 : Nat) : Int))))) (a2.FItems.l[s14_8]?) TValue.zero fun x18 => guardO (!((!x16.2) || (decide (((a2.FItems.l.length : Nat) : Int) ≤ ((s14_8 : Nat) : Int))))) (k_rec_76 a0 x16.1.FType x18) false fun x19 => bif (((!x16.2) || (decide (((a2.FItems.l.length : Nat) : Int) ≤ ((s14_8 : Nat) : Int)))) || (!x19)) then (some (Sum.inr false)) else (fields_object_q7 a0 a1 a2 k_rec_76 (r7) (s14_8 + 1) )
theorem fields_object_l7_qe {a0 : TDoc} {a1 : TDef} {a2 : TValue} {k_rec_76 : TDoc → TRef → TValue → Option Bool}  (Kb7 : (Unit ⊕ Bool) → Option Bool) (hend : ∀ (n7 : Nat) (s14_8 : Nat), fields_object_j2 a0 a1 a2   = Kb7 (Sum.inl ())) (hret : ∀ e : Bool, some e = Kb7 (Sum.inr e)) : ∀ (n7 : Nat) (s14_8 : Nat), (0 < n7 ∧ a2.FKeys.l.length < s14_8 + n7) → fields_object_l7 a0 a1 a2 k_rec_76 n7 s14_8 = Option.bind (fields_object_q7 a0 a1 a2 k_rec_76 (a2.FKeys.l.drop s14_8) s14_8 ) Kb7 := by
 intro n7
 induction n7 with
 | zero => intro s14_8 hn; exact absurd hn.1 (by omega)
 | succ n7 ih7 =>
  intro s14_8 hn
  rw [fields_object_l7]
  by_cases hlt : s14_8 < a2.FKeys.l.length
  ·obtain ⟨h7, hh7⟩ : ∃ x, a2.FKeys.l[s14_8]? = some x := ⟨_, List.getElem?_eq_getElem hlt⟩
   rw [Q.drop_of hh7, fields_object_q7]
   refine Q.condT (Q.ltT hlt) ?_
   refine Q.bindPO hh7 fun x14 hx_x14 => ?_
   refine Q.bindPO (schema_InputOf_eq _ _) fun x16 hx_x16 => ?_
   refine Q.guardOO rfl fun x18 => ?_
   refine Q.guardOO rfl fun x19 => ?_
   refine Q.condO ?_ ?_
   ·all_goals exact hret _
   ·all_goals exact ih7 _ ⟨by omega, by omega⟩
  ·rw [List.drop_of_length_le (by omega), fields_object_q7]
   refine Q.condF (Q.ltF hlt) ?_
   exact hend n7 s14_8
mutual
def fields_fits_qn : Nat → TDoc → TRef → TValue → Option Bool
 | 0, _, _, _ => none
 | n + 1, a0, a1, a2 => bif (decide (a2.FKind = (7 : Int))) then (some true) else (on (schema_IsInput_q a0 a1.FName) fun x7 => bif (!x7) then (some false) else (bif (decide (a2.FKind = (0 : Int))) then (on (typeref_IsNonNull_q a1) fun x13 => some (!x13)) else ((typeref_Inner_q a1).bind fun x16 => bif x16.2 then (bif (!decide (a2.FKind = (5 : Int))) then (((fields_fits_qn n) a0 x16.1 a2).bind fun x23 => some x23) else ((slices_ContainsFunc_alueapiValue_qm a2.FItems (fun y0 => (fields_fits_1_qn n) y0 a0 x16.1)).bind fun x25 => some (!x25))) else (bif ((a1.FName == ([73, 110, 116] : Bs))) then (some (((decide (a2.FKind = (2 : Int))) && (decide ((-2147483648 : Int) ≤ a2.FInt))) && (decide (a2.FInt < (2147483648 : Int))))) else (bif ((a1.FName == ([83, 116, 114, 105, 110, 103] : Bs))) then (some (decide (a2.FKind = (3 : Int)))) else (bif ((a1.FName == ([66, 111, 111, 108, 101, 97, 110] : Bs))) then (some (decide (a2.FKind = (1 : Int)))) else (bif ((a1.FName == ([73, 68] : Bs))) then (some ((decide (a2.FKind = (3 : Int))) || (decide (a2.FKind = (2 : Int))))) else (on (schema_Find_q a0 a1.FName) fun x41 => bif (decide (x41.1.FKind = (4 : Int))) then (on (bif (decide (a2.FKind = (4 : Int))) then slices_ContainsFunc_berapiMember_q x41.1.FMembers (fun y0 => fields_fits_2_q y0 a2) else false) fun x46 => some ((decide (a2.FKind = (4 : Int))) && x46)) else (guardO ((decide (a2.FKind = (6 : Int)))) ((fields_object_qn n) a0 x41.1 a2) false fun x48 => some ((decide (a2.FKind = (6 : Int))) && x48))))))))))
def fields_fits_1_qn : Nat → TValue → TDoc → TRef → Option Bool
 | 0, _, _, _ => none
 | n + 1, a0, a1, a2 => ((fields_fits_qn n) a1 a2 a0).bind fun x3 => some (!x3)
def fields_object_qn : Nat → TDoc → TDef → TValue → Option Bool
 | 0, _, _, _ => none
 | n + 1, a0, a1, a2 => Option.bind (fields_object_q7 a0 a1 a2 (fields_fits_qn n) a2.FKeys.l 0 ) fun o7 => match o7 with | Sum.inl _ => (on (()) fun _ => on (slices_ContainsFunc_nputapiInput_q a1.FInputs (fun y0 => fields_object_1_q y0 a2)) fun x4 => some (!x4)) | Sum.inr e7 => (some e7)
end
theorem fields_fits_qall : ∀ n : Nat, fields_fits_n n = fields_fits_qn n ∧ fields_fits_1_n n = fields_fits_1_qn n ∧ fields_object_n n = fields_object_qn n := by
 intro n
 induction n with
 | zero => exact ⟨(by funext a0 a1 a2; first | rfl | (rw [fields_fits_n, fields_fits_qn])), (by funext a0 a1 a2; first | rfl | (rw [fields_fits_1_n, fields_fits_1_qn])), (by funext a0 a1 a2; first | rfl | (rw [fields_object_n, fields_object_qn]))⟩
 | succ n ih =>
  refine ⟨?_, ?_, ?_⟩
  ·funext a0 a1 a2
   refine Eq.trans ?_ (Q.some_bind _)
   rw [fields_fits_n, fields_fits_qn]
   try rw [ih.1]
   try rw [ih.2.1]
   try rw [ih.2.2]
   refine Q.condO ?_ ?_
   ·all_goals rfl
   ·refine Q.bindPO (schema_IsInput_eq _ _) fun x7 hx_x7 => ?_
    refine Q.condO ?_ ?_
    ·all_goals rfl
    ·refine Q.condO ?_ ?_
     ·refine Q.bindPO (typeref_IsNonNull_eq _) fun x13 hx_x13 => ?_
      all_goals rfl
     ·refine Q.bindO (typeref_Inner_eq _) fun x16 => ?_
      refine Q.condO ?_ ?_
      ·refine Q.condO ?_ ?_
       ·refine Q.bindO rfl fun x23 => ?_
        all_goals rfl
       ·refine Q.bindO (by simp only [slices_ContainsFunc_alueapiValue_eqm]) fun x25 => ?_
        all_goals rfl
      ·refine Q.condO ?_ ?_
       ·all_goals rfl
       ·refine Q.condO ?_ ?_
        ·all_goals rfl
        ·refine Q.condO ?_ ?_
         ·all_goals rfl
         ·refine Q.condO ?_ ?_
          ·all_goals rfl
          ·refine Q.bindPO (schema_Find_eq _ _) fun x41 hx_x41 => ?_
           refine Q.condO ?_ ?_
           ·refine Q.guardPO (by simp only [fields_fits_2_eq, slices_ContainsFunc_berapiMember_eq]) fun x46 hx_x46 => ?_
            all_goals rfl
           ·refine Q.guardOO rfl fun x48 => ?_
            all_goals rfl
  ·funext a0 a1 a2
   refine Eq.trans ?_ (Q.some_bind _)
   rw [fields_fits_1_n, fields_fits_1_qn]
   try rw [ih.1]
   try rw [ih.2.1]
   try rw [ih.2.2]
   refine Q.bindO rfl fun x3 => ?_
   all_goals rfl
  ·funext a0 a1 a2
   refine Eq.trans ?_ (Q.some_bind _)
   rw [fields_object_n, fields_object_qn]
   try rw [ih.1]
   try rw [ih.2.1]
   try rw [ih.2.2]
   refine Q.wrapOO fun Kb7 hKb7 => ?_
   refine fields_object_l7_qe  Kb7 ?_ ?_ _ _ ⟨Nat.succ_pos _, by omega⟩
   ·intro n7 s14_8
    refine Eq.trans ?_ (hKb7 _).symm
    try dsimp only
    refine Q.wrapPO fun Kj2 hKj2 => ?_
    have hj2 : fields_object_j2 a0 a1 a2  = Kj2 () := by
     refine Eq.trans ?_ (hKj2 _).symm
     try dsimp only
     unfold fields_object_j2
     refine Q.bindPO (by simp only [fields_object_1_eq, slices_ContainsFunc_nputapiInput_eq]) fun x4 hx_x4 => ?_
     all_goals rfl
    all_goals exact hj2
   ·intro e7
    refine Eq.trans ?_ (hKb7 _).symm
    try dsimp only
    all_goals rfl
def fields_fits_q (a0 : TDoc) (a1 : TRef) (a2 : TValue) : Option Bool := fields_fits_qn F0 a0 a1 a2
theorem fields_fits_eq (a0 : TDoc) (a1 : TRef) (a2 : TValue) : fields_fits a0 a1 a2 = fields_fits_q a0 a1 a2 := by
 unfold fields_fits fields_fits_q; rw [(fields_fits_qall F0).1]
def fields_fits_1_q (a0 : TValue) (a1 : TDoc) (a2 : TRef) : Option Bool := fields_fits_1_qn F0 a0 a1 a2
theorem fields_fits_1_eq (a0 : TValue) (a1 : TDoc) (a2 : TRef) : fields_fits_1 a0 a1 a2 = fields_fits_1_q a0 a1 a2 := by
 unfold fields_fits_1 fields_fits_1_q; rw [(fields_fits_qall F0).2.1]
def fields_object_q (a0 : TDoc) (a1 : TDef) (a2 : TValue) : Option Bool := fields_object_qn F0 a0 a1 a2
theorem fields_object_eq (a0 : TDoc) (a1 : TDef) (a2 : TValue) : fields_object a0 a1 a2 = fields_object_q a0 a1 a2 := by
 unfold fields_object fields_object_q; rw [(fields_fits_qall F0).2.2]
def fields_checker_known_q3 (a1 : (Sl TInput)) (a2 : (Sl TArg)) (a3 : Bool) (a4 : Bs) : List TArg → Nat → Fields_checker → Option (Fields_checker)
 | [], s20_4, y5_c0 => some y5_c0
 | h3 :: r3, s20_4, y5_c0 => on (h3) fun x12 => on (schema_InputOf_q a1 x12.FName) fun x14 => on ((⟨a2.nl, a2.l.take s20_4⟩ : Sl TArg)) fun x16 => on (fields_given_q x16 x12.FName) fun x17 => Option.bind (bif ((!x14.2) || x17.2) then ((fields_checker_add_q y5_c0 true (22 : Int) a4).bind fun x22 => some x22) else ((fields_fits_q y5_c0.Fd x14.1.FType x12.FValue).bind fun x23 => (fields_checker_add_q y5_c0 ((!x23) || (a3 && (((decide (x12.FValue.FKind = (7 : Int))) || ((decide (x12.FValue.FKind = (3 : Int))) && ((x12.FValue.FText == ([] : Bs))))) || ((decide (x12.FValue.FKind = (2 : Int))) && (decide (x12.FValue.FInt < (0 : Int))))))) (23 : Int) a4).bind fun x24 => some x24)) fun y10_c0 => fields_checker_known_q3 a1 a2 a3 a4 (r3) (s20_4 + 1) y10_c0
theorem fields_checker_known_l3_qe {a0 : Fields_checker} {a1 : (Sl TInput)} {a2 : (Sl TArg)} {a3 : Bool} {a4 : Bs}  (Kb3 : (Fields_checker) → Option Fields_checker) (hend : ∀ (n3 : Nat) (s20_4 : Nat) (y5_c0 : Fields_checker), some y5_c0 = Kb3 y5_c0) : ∀ (n3 : Nat) (s20_4 : Nat) (y5_c0 : Fields_checker), (0 < n3 ∧ a2.l.length < s20_4 + n3) → fields_checker_known_l3 a0 a1 a2 a3 a4 n3 s20_4 y5_c0 = Option.bind (fields_checker_known_q3 a1 a2 a3 a4 (a2.l.drop s20_4) s20_4 y5_c0) Kb3 := by
 intro n3
 induction n3 with
 | zero => intro s20_4 y5_c0 hn; exact absurd hn.1 (by omega)
 | succ n3 ih3 =>
  intro s20_4 y5_c0 hn
  rw [fields_checker_known_l3]
  by_cases hlt : s20_4 < a2.l.length
  ·obtain ⟨h3, hh3⟩ : ∃ x, a2.l[s20_4]? = some x := ⟨_, List.getElem?_eq_getElem hlt⟩
   rw [Q.drop_of hh3, fields_checker_known_q3]
   refine Q.condT (Q.ltT hlt) ?_
   refine Q.bindPO hh3 fun x12 hx_x12 => ?_
   refine Q.bindPO (schema_InputOf_eq _ _) fun x14 hx_x14 => ?_
   refine Q.bindPO (Q.partC_take (by omega)) fun x16 hx_x16 => ?_
   refine Q.bindPO (fields_given_eq _ _) fun x17 hx_x17 => ?_
   refine Q.wrapOO fun Kj9 hKj9 => ?_
   have hj9 : ∀ (y10_c0 : Fields_checker), fields_checker_known_j9 a0 a1 a2 a3 a4 n3 s20_4 y5_c0 (fields_checker_known_l3 a0 a1 a2 a3 a4 n3) y10_c0 = Kj9 y10_c0 := by
    intro y10_c0
    refine Eq.trans ?_ (hKj9 _).symm
    try dsimp only
    unfold fields_checker_known_j9
    all_goals exact ih3 _ _ ⟨by omega, by omega⟩
   refine Q.condO ?_ ?_
   ·refine Q.bindO (fields_checker_add_eq _ _ _ _) fun x22 => ?_
    all_goals exact hj9 _
   ·refine Q.bindO (fields_fits_eq _ _ _) fun x23 => ?_
    refine Q.bindO (fields_checker_add_eq _ _ _ _) fun x24 => ?_
    all_goals exact hj9 _
  ·rw [List.drop_of_length_le (by omega), fields_checker_known_q3]
   refine Q.condF (Q.ltF hlt) ?_
   exact hend n3 s20_4 y5_c0
def fields_checker_known_q (a0 : Fields_checker) (a1 : (Sl TInput)) (a2 : (Sl TArg)) (a3 : Bool) (a4 : Bs) : Option Fields_checker := Option.bind (fields_checker_known_q3 a1 a2 a3 a4 a2.l 0 a0) fun y5_c0 => some y5_c0
theorem fields_checker_known_eq (a0 : Fields_checker) (a1 : (Sl TInput)) (a2 : (Sl TArg)) (a3 : Bool) (a4 : Bs) : fields_checker_known a0 a1 a2 a3 a4 = fields_checker_known_q a0 a1 a2 a3 a4 := by
 unfold fields_checker_known fields_checker_known_q
 refine Eq.trans ?_ (Q.some_bind _)
 refine Q.wrapOO fun Kb3 hKb3 => ?_
 refine fields_checker_known_l3_qe  Kb3 ?_ _ _ _ ⟨Nat.succ_pos _, by omega⟩
 ·intro n3 s20_4 y5_c0
  refine Eq.trans ?_ (hKb3 _).symm
  try dsimp only
  all_goals rfl
def fields_checker_dirs_q30 (a4 : Bs) (x13 : TDir) : List TInput → Fields_checker → Option (Fields_checker)
 | [], y32_c0 => some y32_c0
 | h30 :: r30, y32_c0 => on (h30) fun x38 => on (fields_given_q x13.FArgs x38.FName) fun x40 => (fields_checker_add_q y32_c0 (!x40.2) (22 : Int) a4).bind fun x41 => fields_checker_dirs_q30 a4 x13 (r30) x41
theorem fields_checker_dirs_l30_qe {a0 : Fields_checker} {a1 : TSel} {a2 : TRef} {a3 : Bool} {a4 : Bs} {n4 : Nat} {s21_5 : Nat} {y6_c0 : Fields_checker} {x13 : TDir} {x16 : (Sl TInput)} {s13_18 : (Sl TInput)} {x21 : (Sl TDir)} {x22 : Bool} {x27 : Fields_checker} {k_next_4 : Nat → Fields_checker → Option Fields_checker}  (Kb30 : (Fields_checker) → Option Fields_checker) (hend : ∀ (n30 : Nat) (s78_31 : Nat) (y32_c0 : Fields_checker), fields_checker_dirs_j10 a0 a1 a2 a3 a4 n4 s21_5 y6_c0 k_next_4 y32_c0 = Kb30 y32_c0) : ∀ (n30 : Nat) (s78_31 : Nat) (y32_c0 : Fields_checker), (0 < n30 ∧ s13_18.l.length < s78_31 + n30) → fields_checker_dirs_l30 a0 a1 a2 a3 a4 n4 s21_5 y6_c0 x13 x16 s13_18 x21 x22 x27 k_next_4 n30 s78_31 y32_c0 = Option.bind (fields_checker_dirs_q30 a4 x13 (s13_18.l.drop s78_31) y32_c0) Kb30 := by
 intro n30
 induction n30 with
 | zero => intro s78_31 y32_c0 hn; exact absurd hn.1 (by omega)
 | succ n30 ih30 =>
  intro s78_31 y32_c0 hn
  rw [fields_checker_dirs_l30]
  by_cases hlt : s78_31 < s13_18.l.length
  ·obtain ⟨h30, hh30⟩ : ∃ x, s13_18.l[s78_31]? = some x := ⟨_, List.getElem?_eq_getElem hlt⟩
   rw [Q.drop_of hh30, fields_checker_dirs_q30]
   refine Q.condT (Q.ltT hlt) ?_
   refine Q.bindPO hh30 fun x38 hx_x38 => ?_
   refine Q.bindPO (fields_given_eq _ _) fun x40 hx_x40 => ?_
   refine Q.bindO (fields_checker_add_eq _ _ _ _) fun x41 => ?_
   all_goals exact ih30 _ _ ⟨by omega, by omega⟩
  ·rw [List.drop_of_length_le (by omega), fields_checker_dirs_q30]
   refine Q.condF (Q.ltF hlt) ?_
   exact hend n30 s78_31 y32_c0
def fields_checker_dirs_q4 (a1 : TSel) (a2 : TRef) (a3 : Bool) (a4 : Bs) : List TDir → Nat → Fields_checker → Option (Fields_checker)
 | [], s21_5, y6_c0 => some y6_c0
 | h4 :: r4, s21_5, y6_c0 => on (h4) fun x13 => (fields_argsOf_q x13.FName ((!decide (a1.FKind = (2 : Int))) && (!decide (a1.FKind = (3 : Int))))).bind fun x16 => guardO ((((x13.FName == ([115, 116, 114, 101, 97, 109] : Bs))) && a3)) (typeref_IsList_q a2) false fun x43 => on (bif ((((x13.FName == ([115, 116, 114, 101, 97, 109] : Bs))) && a3) && (!x43)) then ((Sl.nil : Sl TInput)) else (x16)) fun s13_18 => on (bif !s13_18.nl then (⟨a1.FDirs.nl, a1.FDirs.l.take s21_5⟩ : Sl TDir) else (Sl.nil : Sl TDir)) fun x21 => on (bif !s13_18.nl then slices_ContainsFunc_apiDirapiDir_q x21 (fun y0 => fields_checker_dirs_1_q y0 x13) else false) fun x22 => Option.bind (bif (s13_18.nl || x22) then ((fields_checker_add_q y6_c0 true (29 : Int) a4).bind fun x25 => some x25) else ((fields_checker_known_q y6_c0 s13_18 x13.FArgs (((x13.FName == ([100, 101, 102, 101, 114] : Bs))) || ((x13.FName == ([115, 116, 114, 101, 97, 109] : Bs)))) a4).bind fun x27 => Option.bind (fields_checker_dirs_q30 a4 x13 s13_18.l x27) fun y32_c0 => some y32_c0)) fun y11_c0 => fields_checker_dirs_q4 a1 a2 a3 a4 (r4) (s21_5 + 1) y11_c0
theorem fields_checker_dirs_l4_qe {a0 : Fields_checker} {a1 : TSel} {a2 : TRef} {a3 : Bool} {a4 : Bs}  (Kb4 : (Fields_checker) → Option Fields_checker) (hend : ∀ (n4 : Nat) (s21_5 : Nat) (y6_c0 : Fields_checker), some y6_c0 = Kb4 y6_c0) : ∀ (n4 : Nat) (s21_5 : Nat) (y6_c0 : Fields_checker), (0 < n4 ∧ a1.FDirs.l.length < s21_5 + n4) → fields_checker_dirs_l4 a0 a1 a2 a3 a4 n4 s21_5 y6_c0 = Option.bind (fields_checker_dirs_q4 a1 a2 a3 a4 (a1.FDirs.l.drop s21_5) s21_5 y6_c0) Kb4 := by
 intro n4
 induction n4 with
 | zero => intro s21_5 y6_c0 hn; exact absurd hn.1 (by omega)
 | succ n4 ih4 =>
  intro s21_5 y6_c0 hn
  rw [fields_checker_dirs_l4]
  by_cases hlt : s21_5 < a1.FDirs.l.length
  ·obtain ⟨h4, hh4⟩ : ∃ x, a1.FDirs.l[s21_5]? = some x := ⟨_, List.getElem?_eq_getElem hlt⟩
   rw [Q.drop_of hh4, fields_checker_dirs_q4]
   refine Q.condT (Q.ltT hlt) ?_
   refine Q.bindPO hh4 fun x13 hx_x13 => ?_
   refine Q.bindO (fields_argsOf_eq _ _) fun x16 => ?_
   refine Q.guardOO (typeref_IsList_eq _) fun x43 => ?_
   refine Q.wrapPO fun Kj17 hKj17 => ?_
   have hj17 : ∀ (s13_18 : (Sl TInput)), fields_checker_dirs_j17 a0 a1 a2 a3 a4 n4 s21_5 y6_c0 x13 x16 (fields_checker_dirs_l4 a0 a1 a2 a3 a4 n4) s13_18 = Kj17 s13_18 := by
    intro s13_18
    refine Eq.trans ?_ (hKj17 _).symm
    try dsimp only
    unfold fields_checker_dirs_j17
    refine Q.guardPO (Q.partC_take (by omega)) fun x21 hx_x21 => ?_
    refine Q.guardPO (by simp only [fields_checker_dirs_1_eq, slices_ContainsFunc_apiDirapiDir_eq]) fun x22 hx_x22 => ?_
    refine Q.wrapOO fun Kj10 hKj10 => ?_
    have hj10 : ∀ (y11_c0 : Fields_checker), fields_checker_dirs_j10 a0 a1 a2 a3 a4 n4 s21_5 y6_c0 (fields_checker_dirs_l4 a0 a1 a2 a3 a4 n4) y11_c0 = Kj10 y11_c0 := by
     intro y11_c0
     refine Eq.trans ?_ (hKj10 _).symm
     try dsimp only
     unfold fields_checker_dirs_j10
     all_goals exact ih4 _ _ ⟨by omega, by omega⟩
    refine Q.condO ?_ ?_
    ·refine Q.bindO (fields_checker_add_eq _ _ _ _) fun x25 => ?_
     all_goals exact hj10 _
    ·refine Q.bindO (fields_checker_known_eq _ _ _ _ _) fun x27 => ?_
     refine Q.wrapOO fun Kb30 hKb30 => ?_
     refine fields_checker_dirs_l30_qe  Kb30 ?_ _ _ _ ⟨Nat.succ_pos _, by omega⟩
     ·intro n30 s78_31 y32_c0
      refine Eq.trans ?_ (hKb30 _).symm
      try dsimp only
      all_goals exact hj10 _
   refine Q.condP ?_ ?_
   ·all_goals exact hj17 _
   ·all_goals exact hj17 _
  ·rw [List.drop_of_length_le (by omega), fields_checker_dirs_q4]
   refine Q.condF (Q.ltF hlt) ?_
   exact hend n4 s21_5 y6_c0
def fields_checker_dirs_q (a0 : Fields_checker) (a1 : TSel) (a2 : TRef) (a3 : Bool) (a4 : Bs) : Option Fields_checker := Option.bind (fields_checker_dirs_q4 a1 a2 a3 a4 a1.FDirs.l 0 a0) fun y6_c0 => some y6_c0
theorem fields_checker_dirs_eq (a0 : Fields_checker) (a1 : TSel) (a2 : TRef) (a3 : Bool) (a4 : Bs) : fields_checker_dirs a0 a1 a2 a3 a4 = fields_checker_dirs_q a0 a1 a2 a3 a4 := by
 unfold fields_checker_dirs fields_checker_dirs_q
 refine Eq.trans ?_ (Q.some_bind _)
 refine Q.wrapOO fun Kb4 hKb4 => ?_
 refine fields_checker_dirs_l4_qe  Kb4 ?_ _ _ _ ⟨Nat.succ_pos _, by omega⟩
 ·intro n4 s21_5 y6_c0
  refine Eq.trans ?_ (hKb4 _).symm
  try dsimp only
  all_goals rfl
def internal_stringslite_HasPrefix_q (a0 : Bs) (a1 : Bs) : Bool := on (bif (decide (((a1.length : Nat) : Int) ≤ ((a0.length : Nat) : Int))) then (List.take (a1.length) a0) else ([] : Bs)) fun x5 => ((decide (((a1.length : Nat) : Int) ≤ ((a0.length : Nat) : Int))) && ((x5 == a1)))
theorem internal_stringslite_HasPrefix_eq (a0 : Bs) (a1 : Bs) : internal_stringslite_HasPrefix a0 a1 = some (internal_stringslite_HasPrefix_q a0 a1) := by
 unfold internal_stringslite_HasPrefix internal_stringslite_HasPrefix_q
 refine Q.guardT (fun hc => Q.cutC_take (by simp at hc; omega)) fun x5 hx_x5 => ?_
 all_goals rfl
def strings_HasPrefix_q (a0 : Bs) (a1 : Bs) : Bool := on (internal_stringslite_HasPrefix_q a0 a1) fun x3 => x3
theorem strings_HasPrefix_eq (a0 : Bs) (a1 : Bs) : strings_HasPrefix a0 a1 = some (strings_HasPrefix_q a0 a1) := by
 unfold strings_HasPrefix strings_HasPrefix_q
 refine Q.bindP (internal_stringslite_HasPrefix_eq _ _) fun x3 hx_x3 => ?_
 all_goals rfl
def text_Reserved_q (a0 : Bs) : Bool := on (strings_HasPrefix_q a0 ([95, 95] : Bs)) fun x3 => x3
theorem text_Reserved_eq (a0 : Bs) : text_Reserved a0 = some (text_Reserved_q a0) := by
 unfold text_Reserved text_Reserved_q
 refine Q.bindP (strings_HasPrefix_eq _ _) fun x3 hx_x3 => ?_
 all_goals rfl
def fields_checker_sels_q3 (a2 : Bs) (a3 : Bs) (k_rec_32 : Fields_checker → (Sl TSel) → Bs → Bs → Option Fields_checker) (k_rec_46 : Fields_checker → TSel → Bs → Bs → Option Fields_checker) : List TSel → Fields_checker → Option (Fields_checker)
 | [], y5_c0 => some y5_c0
 | h3 :: r3, y5_c0 => on (h3) fun x12 => Option.bind (bif (decide (x12.FKind = (2 : Int))) then ((fields_checker_dirs_q y5_c0 x12 (TRef.mk ([] : Bs) (Sl.nil : Sl Int)) false a3).bind fun x16 => some x16) else (bif (decide (x12.FKind = (3 : Int))) then ((fields_checker_dirs_q y5_c0 x12 (TRef.mk ([] : Bs) (Sl.nil : Sl Int)) false a3).bind fun x20 => on (bif (!(x12.FOn == ([] : Bs))) then (x12.FOn) else (a2)) fun s10_23 => (k_rec_32 x20 x12.FSels s10_23 a3).bind fun x24 => some x24) else ((k_rec_46 y5_c0 x12 a2 a3).bind fun x27 => some x27))) fun y10_c0 => fields_checker_sels_q3 a2 a3 k_rec_32 k_rec_46 (r3) y10_c0
theorem fields_checker_sels_l3_qe {a0 : Fields_checker} {a1 : (Sl TSel)} {a2 : Bs} {a3 : Bs} {k_rec_32 : Fields_checker → (Sl TSel) → Bs → Bs → Option Fields_checker} {k_rec_46 : Fields_checker → TSel → Bs → Bs → Option Fields_checker}  (Kb3 : (Fields_checker) → Option Fields_checker) (hend : ∀ (n3 : Nat) (s13_4 : Nat) (y5_c0 : Fields_checker), some y5_c0 = Kb3 y5_c0) : ∀ (n3 : Nat) (s13_4 : Nat) (y5_c0 : Fields_checker), (0 < n3 ∧ a1.l.length < s13_4 + n3) → fields_checker_sels_l3 a0 a1 a2 a3 k_rec_32 k_rec_46 n3 s13_4 y5_c0 = Option.bind (fields_checker_sels_q3 a2 a3 k_rec_32 k_rec_46 (a1.l.drop s13_4) y5_c0) Kb3 := by
 intro n3
 induction n3 with
 | zero => intro s13_4 y5_c0 hn; exact absurd hn.1 (by omega)
 | succ n3 ih3 =>
  intro s13_4 y5_c0 hn
  rw [fields_checker_sels_l3]
  by_cases hlt : s13_4 < a1.l.length
  ·obtain ⟨h3, hh3⟩ : ∃ x, a1.l[s13_4]? = some x := ⟨_, List.getElem?_eq_getElem hlt⟩
   rw [Q.drop_of hh3, fields_checker_sels_q3]
   refine Q.condT (Q.ltT hlt) ?_
   refine Q.bindPO hh3 fun x12 hx_x12 => ?_
   refine Q.wrapOO fun Kj9 hKj9 => ?_
   have hj9 : ∀ (y10_c0 : Fields_checker), fields_checker_sels_j9 a0 a1 a2 a3 n3 s13_4 y5_c0 (fields_checker_sels_l3 a0 a1 a2 a3 k_rec_32 k_rec_46 n3) y10_c0 = Kj9 y10_c0 := by
    intro y10_c0
    refine Eq.trans ?_ (hKj9 _).symm
    try dsimp only
    unfold fields_checker_sels_j9
    all_goals exact ih3 _ _ ⟨by omega, by omega⟩
   refine Q.condO ?_ ?_
   ·refine Q.bindO (fields_checker_dirs_eq _ _ _ _ _) fun x16 => ?_
    all_goals exact hj9 _
   ·refine Q.condO ?_ ?_
    ·refine Q.bindO (fields_checker_dirs_eq _ _ _ _ _) fun x20 => ?_
     refine Q.wrapPO fun Kj22 hKj22 => ?_
     have hj22 : ∀ (s10_23 : Bs), fields_checker_sels_j22 a0 a1 a2 a3 n3 s13_4 y5_c0 x12 x20 (fields_checker_sels_l3 a0 a1 a2 a3 k_rec_32 k_rec_46 n3) k_rec_32 s10_23 = Kj22 s10_23 := by
      intro s10_23
      refine Eq.trans ?_ (hKj22 _).symm
      try dsimp only
      unfold fields_checker_sels_j22
      refine Q.bindO rfl fun x24 => ?_
      all_goals exact hj9 _
     refine Q.condP ?_ ?_
     ·all_goals exact hj22 _
     ·all_goals exact hj22 _
    ·refine Q.bindO rfl fun x27 => ?_
     all_goals exact hj9 _
  ·rw [List.drop_of_length_le (by omega), fields_checker_sels_q3]
   refine Q.condF (Q.ltF hlt) ?_
   exact hend n3 s13_4 y5_c0
def fields_checker_field_q37 (a1 : TSel) (x7 : Bs) : List TInput → Fields_checker → Option (Fields_checker)
 | [], y39_c0 => some y39_c0
 | h37 :: r37, y39_c0 => on (h37) fun x45 => on (fields_given_q a1.FArgs x45.FName) fun x47 => on (typeref_IsNonNull_q x45.FType) fun x48 => (fields_checker_add_q y39_c0 ((x48 && (!x45.FHas)) && (!x47.2)) (22 : Int) x7).bind fun x49 => fields_checker_field_q37 a1 x7 (r37) x49
theorem fields_checker_field_l37_qe {a0 : Fields_checker} {a1 : TSel} {a2 : Bs} {a3 : Bs} {s8_4 : Bs} {x6 : Bs} {x7 : Bs} {x9 : Bool} {x10 : Fields_checker} {x12 : (TRef × Bool)} {x14 : Bool} {x15 : Fields_checker} {x24 : Bool} {x26 : Bool} {x27 : Fields_checker} {x29 : (TDef × Bool)} {y32_l0 : TField} {x34 : Fields_checker} {k_rec_32 : Fields_checker → (Sl TSel) → Bs → Bs → Option Fields_checker}  (Kb37 : (Fields_checker) → Option Fields_checker) (hend : ∀ (n37 : Nat) (s122_38 : Nat) (y39_c0 : Fields_checker), fields_checker_field_j16 a0 a1 a2 a3 s8_4 x6 x7 x9 x10 x12 x14 x15 k_rec_32 y39_c0 = Kb37 y39_c0) : ∀ (n37 : Nat) (s122_38 : Nat) (y39_c0 : Fields_checker), (0 < n37 ∧ y32_l0.FArgs.l.length < s122_38 + n37) → fields_checker_field_l37 a0 a1 a2 a3 s8_4 x6 x7 x9 x10 x12 x14 x15 x24 x26 x27 x29 y32_l0 x34 k_rec_32 n37 s122_38 y39_c0 = Option.bind (fields_checker_field_q37 a1 x7 (y32_l0.FArgs.l.drop s122_38) y39_c0) Kb37 := by
 intro n37
 induction n37 with
 | zero => intro s122_38 y39_c0 hn; exact absurd hn.1 (by omega)
 | succ n37 ih37 =>
  intro s122_38 y39_c0 hn
  rw [fields_checker_field_l37]
  by_cases hlt : s122_38 < y32_l0.FArgs.l.length
  ·obtain ⟨h37, hh37⟩ : ∃ x, y32_l0.FArgs.l[s122_38]? = some x := ⟨_, List.getElem?_eq_getElem hlt⟩
   rw [Q.drop_of hh37, fields_checker_field_q37]
   refine Q.condT (Q.ltT hlt) ?_
   refine Q.bindPO hh37 fun x45 hx_x45 => ?_
   refine Q.bindPO (fields_given_eq _ _) fun x47 hx_x47 => ?_
   refine Q.bindPO (typeref_IsNonNull_eq _) fun x48 hx_x48 => ?_
   refine Q.bindO (fields_checker_add_eq _ _ _ _) fun x49 => ?_
   all_goals exact ih37 _ _ ⟨by omega, by omega⟩
  ·rw [List.drop_of_length_le (by omega), fields_checker_field_q37]
   refine Q.condF (Q.ltF hlt) ?_
   exact hend n37 s122_38 y39_c0
mutual
def fields_checker_sels_qn : Nat → Fields_checker → (Sl TSel) → Bs → Bs → Option Fields_checker
 | 0, _, _, _, _ => none
 | n + 1, a0, a1, a2, a3 => Option.bind (fields_checker_sels_q3 a2 a3 (fields_checker_sels_qn n) (fields_checker_field_qn n) a1.l a0) fun y5_c0 => some y5_c0
def fields_checker_field_qn : Nat → Fields_checker → TSel → Bs → Bs → Option Fields_checker
 | 0, _, _, _, _ => none
 | n + 1, a0, a1, a2, a3 => on (bif ((a1.FAlias == ([] : Bs))) then (a1.FName) else (a1.FAlias)) fun s8_4 => (catC ([47] : Bs) s8_4).bind fun x6 => (catC a3 x6).bind fun x7 => on (text_Reserved_q a1.FAlias) fun x9 => (fields_checker_add_q a0 x9 (6 : Int) x7).bind fun x10 => (fields_Type_q x10.Fd a2 a1.FName).bind fun x12 => on (bif (!x12.2) then schema_Composite_q x10.Fd a2 else false) fun x14 => (fields_checker_add_q x10 ((!x12.2) && x14) (20 : Int) x7).bind fun x15 => Option.bind (bif x12.2 then (on (schema_Leaf_q x15.Fd x12.1.FName) fun x24 => on (bif !(x24 && (decide ((0 : Int) < ((a1.FSels.l.length : Nat) : Int)))) then schema_Composite_q x15.Fd x12.1.FName else false) fun x26 => (fields_checker_add_q x15 ((x24 && (decide ((0 : Int) < ((a1.FSels.l.length : Nat) : Int)))) || (x26 && (decide (((a1.FSels.l.length : Nat) : Int) = (0 : Int))))) (21 : Int) x7).bind fun x27 => on (schema_Find_q x27.Fd a2) fun x29 => on (bif (!(a1.FName == ([95, 95, 116, 121, 112, 101, 110, 97, 109, 101] : Bs))) then (on (schema_FieldOf_q x29.1 a1.FName) fun x52 => x52.1) else ((TField.mk ([] : Bs) (Sl.nil : Sl TInput) TRef.zero (Sl.nil : Sl TDir)))) fun y32_l0 => (fields_checker_known_q x27 y32_l0.FArgs a1.FArgs false x7).bind fun x34 => Option.bind (fields_checker_field_q37 a1 x7 y32_l0.FArgs.l x34) fun y39_c0 => some y39_c0) else (some x15)) fun y17_c0 => (fields_checker_dirs_q y17_c0 a1 x12.1 x12.2 x7).bind fun x19 => ((fields_checker_sels_qn n) x19 a1.FSels x12.1.FName x7).bind fun x20 => some x20
end
theorem fields_checker_sels_qall : ∀ n : Nat, fields_checker_sels_n n = fields_checker_sels_qn n ∧ fields_checker_field_n n = fields_checker_field_qn n := by
 intro n
 induction n with
 | zero => exact ⟨(by funext a0 a1 a2 a3; first | rfl | (rw [fields_checker_sels_n, fields_checker_sels_qn])), (by funext a0 a1 a2 a3; first | rfl | (rw [fields_checker_field_n, fields_checker_field_qn]))⟩
 | succ n ih =>
  refine ⟨?_, ?_⟩
  ·funext a0 a1 a2 a3
   refine Eq.trans ?_ (Q.some_bind _)
   rw [fields_checker_sels_n, fields_checker_sels_qn]
   try rw [ih.1]
   try rw [ih.2]
   refine Q.wrapOO fun Kb3 hKb3 => ?_
   refine fields_checker_sels_l3_qe  Kb3 ?_ _ _ _ ⟨Nat.succ_pos _, by omega⟩
   ·intro n3 s13_4 y5_c0
    refine Eq.trans ?_ (hKb3 _).symm
    try dsimp only
    all_goals rfl
  ·funext a0 a1 a2 a3
   refine Eq.trans ?_ (Q.some_bind _)
   rw [fields_checker_field_n, fields_checker_field_qn]
   try rw [ih.1]
   try rw [ih.2]
   refine Q.wrapPO fun Kj3 hKj3 => ?_
   have hj3 : ∀ (s8_4 : Bs), fields_checker_field_j3 a0 a1 a2 a3 (fields_checker_sels_qn n) s8_4 = Kj3 s8_4 := by
    intro s8_4
    refine Eq.trans ?_ (hKj3 _).symm
    try dsimp only
    unfold fields_checker_field_j3
    refine Q.bindO rfl fun x6 => ?_
    refine Q.bindO rfl fun x7 => ?_
    refine Q.bindPO (text_Reserved_eq _) fun x9 hx_x9 => ?_
    refine Q.bindO (fields_checker_add_eq _ _ _ _) fun x10 => ?_
    refine Q.bindO (fields_Type_eq _ _ _) fun x12 => ?_
    refine Q.guardPO (schema_Composite_eq _ _) fun x14 hx_x14 => ?_
    refine Q.bindO (fields_checker_add_eq _ _ _ _) fun x15 => ?_
    refine Q.wrapOO fun Kj16 hKj16 => ?_
    have hj16 : ∀ (y17_c0 : Fields_checker), fields_checker_field_j16 a0 a1 a2 a3 s8_4 x6 x7 x9 x10 x12 x14 x15 (fields_checker_sels_qn n) y17_c0 = Kj16 y17_c0 := by
     intro y17_c0
     refine Eq.trans ?_ (hKj16 _).symm
     try dsimp only
     unfold fields_checker_field_j16
     refine Q.bindO (fields_checker_dirs_eq _ _ _ _ _) fun x19 => ?_
     refine Q.bindO rfl fun x20 => ?_
     all_goals rfl
    refine Q.condO ?_ ?_
    ·refine Q.bindPO (schema_Leaf_eq _ _) fun x24 hx_x24 => ?_
     refine Q.guardPO (schema_Composite_eq _ _) fun x26 hx_x26 => ?_
     refine Q.bindO (fields_checker_add_eq _ _ _ _) fun x27 => ?_
     refine Q.bindPO (schema_Find_eq _ _) fun x29 hx_x29 => ?_
     refine Q.wrapPO fun Kj31 hKj31 => ?_
     have hj31 : ∀ (y32_l0 : TField), fields_checker_field_j31 a0 a1 a2 a3 s8_4 x6 x7 x9 x10 x12 x14 x15 x24 x26 x27 x29 (fields_checker_sels_qn n) y32_l0 = Kj31 y32_l0 := by
      intro y32_l0
      refine Eq.trans ?_ (hKj31 _).symm
      try dsimp only
      unfold fields_checker_field_j31
      refine Q.bindO (fields_checker_known_eq _ _ _ _ _) fun x34 => ?_
      refine Q.wrapOO fun Kb37 hKb37 => ?_
      refine fields_checker_field_l37_qe  Kb37 ?_ _ _ _ ⟨Nat.succ_pos _, by omega⟩
      ·intro n37 s122_38 y39_c0
       refine Eq.trans ?_ (hKb37 _).symm
       try dsimp only
       all_goals exact hj16 _
     refine Q.condP ?_ ?_
     ·refine Q.bindP (schema_FieldOf_eq _ _) fun x52 hx_x52 => ?_
      all_goals exact hj31 _
     ·all_goals exact hj31 _
    ·all_goals exact hj16 _
   refine Q.condP ?_ ?_
   ·all_goals exact hj3 _
   ·all_goals exact hj3 _
def fields_checker_sels_q (a0 : Fields_checker) (a1 : (Sl TSel)) (a2 : Bs) (a3 : Bs) : Option Fields_checker := fields_checker_sels_qn F0 a0 a1 a2 a3
theorem fields_checker_sels_eq (a0 : Fields_checker) (a1 : (Sl TSel)) (a2 : Bs) (a3 : Bs) : fields_checker_sels a0 a1 a2 a3 = fields_checker_sels_q a0 a1 a2 a3 := by
 unfold fields_checker_sels fields_checker_sels_q; rw [(fields_checker_sels_qall F0).1]
def fields_checker_field_q (a0 : Fields_checker) (a1 : TSel) (a2 : Bs) (a3 : Bs) : Option Fields_checker := fields_checker_field_qn F0 a0 a1 a2 a3
theorem fields_checker_field_eq (a0 : Fields_checker) (a1 : TSel) (a2 : Bs) (a3 : Bs) : fields_checker_field a0 a1 a2 a3 = fields_checker_field_q a0 a1 a2 a3 := by
 unfold fields_checker_field fields_checker_field_q; rw [(fields_checker_sels_qall F0).2]
def fields_Check_q24 (a0 : TDoc) : List TOp → Fields_checker → Option (Fields_checker)
 | [], y26_id18_3 => some y26_id18_3
 | h24 :: r24, y26_id18_3 => on (h24) fun x32 => on (schema_Root_q x32.FKind) fun x34 => on (schema_Find_q a0 x34) fun x36 => (fields_checker_roots_q y26_id18_3 x32.FSels ([] : List Bs) ([] : List Bs)).bind fun x41 => (fields_checker_add_q y26_id18_3 (((!x36.2) || (!decide (x36.1.FKind = (1 : Int)))) || ((decide (x32.FKind = (3 : Int))) && (!decide ((((seenM x41.1).length : Nat) : Int) = (1 : Int))))) (30 : Int) x32.FName).bind fun x44 => (fields_checker_sels_q x44 x32.FSels x34 x32.FName).bind fun x45 => fields_Check_q24 a0 (r24) x45
theorem fields_Check_l24_qe {a0 : TDoc} {a1 : TQuery}  (Kb24 : (Fields_checker) → Option (Sl TFault)) (hend : ∀ (n24 : Nat) (s22_25 : Nat) (y26_id18_3 : Fields_checker), fields_Check_j5 a0 a1  y26_id18_3 = Kb24 y26_id18_3) : ∀ (n24 : Nat) (s22_25 : Nat) (y26_id18_3 : Fields_checker), (0 < n24 ∧ a1.FOps.l.length < s22_25 + n24) → fields_Check_l24 a0 a1 n24 s22_25 y26_id18_3 = Option.bind (fields_Check_q24 a0 (a1.FOps.l.drop s22_25) y26_id18_3) Kb24 := by
 intro n24
 induction n24 with
 | zero => intro s22_25 y26_id18_3 hn; exact absurd hn.1 (by omega)
 | succ n24 ih24 =>
  intro s22_25 y26_id18_3 hn
  rw [fields_Check_l24]
  by_cases hlt : s22_25 < a1.FOps.l.length
  ·obtain ⟨h24, hh24⟩ : ∃ x, a1.FOps.l[s22_25]? = some x := ⟨_, List.getElem?_eq_getElem hlt⟩
   rw [Q.drop_of hh24, fields_Check_q24]
   refine Q.condT (Q.ltT hlt) ?_
   refine Q.bindPO hh24 fun x32 hx_x32 => ?_
   refine Q.bindPO (schema_Root_eq _) fun x34 hx_x34 => ?_
   refine Q.bindPO (schema_Find_eq _ _) fun x36 hx_x36 => ?_
   refine Q.bindO (fields_checker_roots_eq _ _ _ _) fun x41 => ?_
   refine Q.bindO (fields_checker_add_eq _ _ _ _) fun x44 => ?_
   refine Q.bindO (fields_checker_sels_eq _ _ _ _) fun x45 => ?_
   all_goals exact ih24 _ _ ⟨by omega, by omega⟩
  ·rw [List.drop_of_length_le (by omega), fields_Check_q24]
   refine Q.condF (Q.ltF hlt) ?_
   exact hend n24 s22_25 y26_id18_3
def fields_Check_q12  : List TFrag → Fields_checker → Option (Fields_checker)
 | [], y14_id18_3 => some y14_id18_3
 | h12 :: r12, y14_id18_3 => on (h12) fun x20 => (fields_checker_sels_q y14_id18_3 x20.FSels x20.FOn x20.FName).bind fun x21 => fields_Check_q12  (r12) x21
theorem fields_Check_l12_qe {a0 : TDoc} {a1 : TQuery} {y6_id18_3 : Fields_checker}  (Kb12 : (Fields_checker) → Option (Sl TFault)) (hend : ∀ (n12 : Nat) (s75_13 : Nat) (y14_id18_3 : Fields_checker), fields_Check_j7 a0 a1 y6_id18_3  y14_id18_3 = Kb12 y14_id18_3) : ∀ (n12 : Nat) (s75_13 : Nat) (y14_id18_3 : Fields_checker), (0 < n12 ∧ a1.FFrags.l.length < s75_13 + n12) → fields_Check_l12 a0 a1 y6_id18_3 n12 s75_13 y14_id18_3 = Option.bind (fields_Check_q12  (a1.FFrags.l.drop s75_13) y14_id18_3) Kb12 := by
 intro n12
 induction n12 with
 | zero => intro s75_13 y14_id18_3 hn; exact absurd hn.1 (by omega)
 | succ n12 ih12 =>
  intro s75_13 y14_id18_3 hn
  rw [fields_Check_l12]
  by_cases hlt : s75_13 < a1.FFrags.l.length
  ·obtain ⟨h12, hh12⟩ : ∃ x, a1.FFrags.l[s75_13]? = some x := ⟨_, List.getElem?_eq_getElem hlt⟩
   rw [Q.drop_of hh12, fields_Check_q12]
   refine Q.condT (Q.ltT hlt) ?_
   refine Q.bindPO hh12 fun x20 hx_x20 => ?_
   refine Q.bindO (fields_checker_sels_eq _ _ _ _) fun x21 => ?_
   all_goals exact ih12 _ _ ⟨by omega, by omega⟩
  ·rw [List.drop_of_length_le (by omega), fields_Check_q12]
   refine Q.condF (Q.ltF hlt) ?_
   exact hend n12 s75_13 y14_id18_3
def fields_Check_q (a0 : TDoc) (a1 : TQuery) : Option (Sl TFault) := Option.bind (fields_Check_q24 a0 a1.FOps.l (Fields_checker.mk a0 a1 (Sl.nil : Sl TFault))) fun y26_id18_3 => on (y26_id18_3) fun y6_id18_3 => Option.bind (fields_Check_q12  a1.FFrags.l y6_id18_3) fun y14_id18_3 => on (y14_id18_3) fun y8_id18_3 => some y8_id18_3.Fout
theorem fields_Check_eq (a0 : TDoc) (a1 : TQuery) : fields_Check a0 a1 = fields_Check_q a0 a1 := by
 unfold fields_Check fields_Check_q
 refine Eq.trans ?_ (Q.some_bind _)
 refine Q.wrapOO fun Kb24 hKb24 => ?_
 refine fields_Check_l24_qe  Kb24 ?_ _ _ _ ⟨Nat.succ_pos _, by omega⟩
 ·intro n24 s22_25 y26_id18_3
  refine Eq.trans ?_ (hKb24 _).symm
  try dsimp only
  refine Q.wrapPO fun Kj5 hKj5 => ?_
  have hj5 : ∀ (y6_id18_3 : Fields_checker), fields_Check_j5 a0 a1 y6_id18_3 = Kj5 y6_id18_3 := by
   intro y6_id18_3
   refine Eq.trans ?_ (hKj5 _).symm
   try dsimp only
   unfold fields_Check_j5
   refine Q.wrapOO fun Kb12 hKb12 => ?_
   refine fields_Check_l12_qe  Kb12 ?_ _ _ _ ⟨Nat.succ_pos _, by omega⟩
   ·intro n12 s75_13 y14_id18_3
    refine Eq.trans ?_ (hKb12 _).symm
    try dsimp only
    refine Q.wrapPO fun Kj7 hKj7 => ?_
    have hj7 : ∀ (y8_id18_3 : Fields_checker), fields_Check_j7 a0 a1 y6_id18_3 y8_id18_3 = Kj7 y8_id18_3 := by
     intro y8_id18_3
     refine Eq.trans ?_ (hKj7 _).symm
     try dsimp only
     unfold fields_Check_j7
     all_goals rfl
    all_goals exact hj7 _
  all_goals exact hj5 _
def r10_Faults_q11 (a1 : (Sl TFault)) : List TFault → Nat → Option (Unit ⊕ Bool)
 | [], s5_12 => some (Sum.inl ())
 | h11 :: r11, s5_12 => on (h11) fun x19 => (a1.l[s5_12]?).bind fun x20 => bif (!(decide (x19.FErr = x20.FErr) && ((x19.FAt == x20.FAt) && true))) then (some (Sum.inr false)) else (r10_Faults_q11 a1 (r11) (s5_12 + 1) )
theorem r10_Faults_l11_qe {a0 : (Sl TFault)} {a1 : (Sl TFault)}  (Kb11 : (Unit ⊕ Bool) → Option Bool) (hend : ∀ (n11 : Nat) (s5_12 : Nat), r10_Faults_j8 a0 a1   = Kb11 (Sum.inl ())) (hret : ∀ e : Bool, some e = Kb11 (Sum.inr e)) : ∀ (n11 : Nat) (s5_12 : Nat), (0 < n11 ∧ a0.l.length < s5_12 + n11) → r10_Faults_l11 a0 a1 n11 s5_12 = Option.bind (r10_Faults_q11 a1 (a0.l.drop s5_12) s5_12 ) Kb11 := by
 intro n11
 induction n11 with
 | zero => intro s5_12 hn; exact absurd hn.1 (by omega)
 | succ n11 ih11 =>
  intro s5_12 hn
  rw [r10_Faults_l11]
  by_cases hlt : s5_12 < a0.l.length
  ·obtain ⟨h11, hh11⟩ : ∃ x, a0.l[s5_12]? = some x := ⟨_, List.getElem?_eq_getElem hlt⟩
   rw [Q.drop_of hh11, r10_Faults_q11]
   refine Q.condT (Q.ltT hlt) ?_
   refine Q.bindPO hh11 fun x19 hx_x19 => ?_
   refine Q.bindO rfl fun x20 => ?_
   refine Q.condO ?_ ?_
   ·all_goals exact hret _
   ·all_goals exact ih11 _ ⟨by omega, by omega⟩
  ·rw [List.drop_of_length_le (by omega), r10_Faults_q11]
   refine Q.condF (Q.ltF hlt) ?_
   exact hend n11 s5_12
def r10_Faults_q (a0 : (Sl TFault)) (a1 : (Sl TFault)) : Option Bool := bif (!decide (((a0.l.length : Nat) : Int) = ((a1.l.length : Nat) : Int))) then (some false) else (Option.bind (r10_Faults_q11 a1 a0.l 0 ) fun o11 => match o11 with | Sum.inl _ => (on (()) fun _ => some true) | Sum.inr e11 => (some e11))
theorem r10_Faults_eq (a0 : (Sl TFault)) (a1 : (Sl TFault)) : r10_Faults a0 a1 = r10_Faults_q a0 a1 := by
 unfold r10_Faults r10_Faults_q
 refine Eq.trans ?_ (Q.some_bind _)
 refine Q.condO ?_ ?_
 ·all_goals rfl
 ·refine Q.wrapOO fun Kb11 hKb11 => ?_
  refine r10_Faults_l11_qe  Kb11 ?_ ?_ _ _ ⟨Nat.succ_pos _, by omega⟩
  ·intro n11 s5_12
   refine Eq.trans ?_ (hKb11 _).symm
   try dsimp only
   refine Q.wrapPO fun Kj8 hKj8 => ?_
   have hj8 : r10_Faults_j8 a0 a1  = Kj8 () := by
    refine Eq.trans ?_ (hKj8 _).symm
    try dsimp only
    unfold r10_Faults_j8
    all_goals rfl
   all_goals exact hj8
  ·intro e11
   refine Eq.trans ?_ (hKb11 _).symm
   try dsimp only
   all_goals rfl
def r05_IsNonNull_q (a0 : TRef) : Bool := on (bif (decide ((0 : Int) < ((a0.FWraps.l.length : Nat) : Int))) then ((a0.FWraps.l)[0]?.getD (0 : Int)) else (0 : Int)) fun x4 => ((decide ((0 : Int) < ((a0.FWraps.l.length : Nat) : Int))) && (decide (x4 = (1 : Int))))
theorem r05_IsNonNull_eq (a0 : TRef) : r05_IsNonNull a0 = some (r05_IsNonNull_q a0) := by
 unfold r05_IsNonNull r05_IsNonNull_q
 refine Q.guardT (fun hc => Q.getD_some (by simp at hc; omega)) fun x4 hx_x4 => ?_
 all_goals rfl
def r05_wrap_q (a0 : Int) (a1 : TRef) : Option TRef := (appC 8 (⟨false, [a0]⟩ : Sl Int) a1.FWraps).bind fun x3 => some (TRef.mk a1.FName x3)
theorem r05_wrap_eq (a0 : Int) (a1 : TRef) : r05_wrap a0 a1 = r05_wrap_q a0 a1 := by
 unfold r05_wrap r05_wrap_q
 refine Eq.trans ?_ (Q.some_bind _)
 refine Q.bindO rfl fun x3 => ?_
 all_goals rfl
def r05_NonNull_q (a0 : TRef) : Option TRef := on (r05_IsNonNull_q a0) fun x4 => bif x4 then ((appC 8 (⟨false, []⟩ : Sl Int) a0.FWraps).bind fun x7 => some (TRef.mk a0.FName x7)) else ((r05_wrap_q (1 : Int) a0).bind fun x9 => some x9)
theorem r05_NonNull_eq (a0 : TRef) : r05_NonNull a0 = r05_NonNull_q a0 := by
 unfold r05_NonNull r05_NonNull_q
 refine Eq.trans ?_ (Q.some_bind _)
 refine Q.bindPO (r05_IsNonNull_eq _) fun x4 hx_x4 => ?_
 refine Q.condO ?_ ?_
 ·refine Q.bindO rfl fun x7 => ?_
  all_goals rfl
 ·refine Q.bindO (r05_wrap_eq _ _) fun x9 => ?_
  all_goals rfl
def r05_Named_q (a0 : Bs) : TRef := (TRef.mk a0 (Sl.nil : Sl Int))
theorem r05_Named_eq (a0 : Bs) : r05_Named a0 = some (r05_Named_q a0) := by
 unfold r05_Named r05_Named_q
 all_goals rfl
def r10_Large_q36  : List TField → Int → Option (Int)
 | [], s3_37 => some s3_37
 | h36 :: r36, s3_37 => on (h36) fun x44 => on (h36) fun x45 => (addC ((x44.FArgs.l.length : Nat) : Int) ((x45.FDirs.l.length : Nat) : Int)).bind fun x46 => (addC s3_37 x46).bind fun x47 => r10_Large_q36  (r36) x47
theorem r10_Large_l36_qe {a0 : TDoc} {n12 : Nat} {s3_13 : Int} {s4_14 : Nat} {x22 : TDef} {x25 : Int} {x27 : Int} {x29 : Int} {x31 : Int} {x33 : Int} {x34 : Int} {k_next_12 : Int → Nat → Option Bool}  (Kb36 : (Int) → Option Bool) (hend : ∀ (n36 : Nat) (s3_37 : Int) (s6_38 : Nat), r10_Large_j19 a0 n12 s3_13 s4_14 k_next_12 s3_37 = Kb36 s3_37) : ∀ (n36 : Nat) (s3_37 : Int) (s6_38 : Nat), (0 < n36 ∧ x22.FFields.l.length < s6_38 + n36) → r10_Large_l36 a0 n12 s3_13 s4_14 x22 x25 x27 x29 x31 x33 x34 k_next_12 n36 s3_37 s6_38 = Option.bind (r10_Large_q36  (x22.FFields.l.drop s6_38) s3_37) Kb36 := by
 intro n36
 induction n36 with
 | zero => intro s3_37 s6_38 hn; exact absurd hn.1 (by omega)
 | succ n36 ih36 =>
  intro s3_37 s6_38 hn
  rw [r10_Large_l36]
  by_cases hlt : s6_38 < x22.FFields.l.length
  ·obtain ⟨h36, hh36⟩ : ∃ x, x22.FFields.l[s6_38]? = some x := ⟨_, List.getElem?_eq_getElem hlt⟩
   rw [Q.drop_of hh36, r10_Large_q36]
   refine Q.condT (Q.ltT hlt) ?_
   refine Q.bindPO hh36 fun x44 hx_x44 => ?_
   refine Q.bindPO hh36 fun x45 hx_x45 => ?_
   refine Q.bindO rfl fun x46 => ?_
   refine Q.bindO rfl fun x47 => ?_
   all_goals exact ih36 _ _ ⟨by omega, by omega⟩
  ·rw [List.drop_of_length_le (by omega), r10_Large_q36]
   refine Q.condF (Q.ltF hlt) ?_
   exact hend n36 s3_37 s6_38
def r10_Large_q12  : List TDef → Int → Option (Int)
 | [], s3_13 => some s3_13
 | h12 :: r12, s3_13 => on (h12) fun x22 => (addC (1 : Int) ((x22.FFields.l.length : Nat) : Int)).bind fun x25 => (addC x25 ((x22.FMembers.l.length : Nat) : Int)).bind fun x27 => (addC x27 ((x22.FInputs.l.length : Nat) : Int)).bind fun x29 => (addC x29 ((x22.FDirs.l.length : Nat) : Int)).bind fun x31 => (addC x31 ((x22.FImplements.l.length : Nat) : Int)).bind fun x33 => (addC s3_13 x33).bind fun x34 => Option.bind (r10_Large_q36  x22.FFields.l x34) fun s3_37 => on (s3_37) fun s3_20 => r10_Large_q12  (r12) s3_20
theorem r10_Large_l12_qe {a0 : TDoc}  (Kb12 : (Int) → Option Bool) (hend : ∀ (n12 : Nat) (s3_13 : Int) (s4_14 : Nat), r10_Large_j8 a0  s3_13 = Kb12 s3_13) : ∀ (n12 : Nat) (s3_13 : Int) (s4_14 : Nat), (0 < n12 ∧ a0.FDefs.l.length < s4_14 + n12) → r10_Large_l12 a0 n12 s3_13 s4_14 = Option.bind (r10_Large_q12  (a0.FDefs.l.drop s4_14) s3_13) Kb12 := by
 intro n12
 induction n12 with
 | zero => intro s3_13 s4_14 hn; exact absurd hn.1 (by omega)
 | succ n12 ih12 =>
  intro s3_13 s4_14 hn
  rw [r10_Large_l12]
  by_cases hlt : s4_14 < a0.FDefs.l.length
  ·obtain ⟨h12, hh12⟩ : ∃ x, a0.FDefs.l[s4_14]? = some x := ⟨_, List.getElem?_eq_getElem hlt⟩
   rw [Q.drop_of hh12, r10_Large_q12]
   refine Q.condT (Q.ltT hlt) ?_
   refine Q.bindPO hh12 fun x22 hx_x22 => ?_
   refine Q.bindO rfl fun x25 => ?_
   refine Q.bindO rfl fun x27 => ?_
   refine Q.bindO rfl fun x29 => ?_
   refine Q.bindO rfl fun x31 => ?_
   refine Q.bindO rfl fun x33 => ?_
   refine Q.bindO rfl fun x34 => ?_
   refine Q.wrapOO fun Kb36 hKb36 => ?_
   refine r10_Large_l36_qe  Kb36 ?_ _ _ _ ⟨Nat.succ_pos _, by omega⟩
   ·intro n36 s3_37 s6_38
    refine Eq.trans ?_ (hKb36 _).symm
    try dsimp only
    refine Q.wrapPO fun Kj19 hKj19 => ?_
    have hj19 : ∀ (s3_20 : Int), r10_Large_j19 a0 n12 s3_13 s4_14 (r10_Large_l12 a0 n12) s3_20 = Kj19 s3_20 := by
     intro s3_20
     refine Eq.trans ?_ (hKj19 _).symm
     try dsimp only
     unfold r10_Large_j19
     all_goals exact ih12 _ _ ⟨by omega, by omega⟩
    all_goals exact hj19 _
  ·rw [List.drop_of_length_le (by omega), r10_Large_q12]
   refine Q.condF (Q.ltF hlt) ?_
   exact hend n12 s3_13 s4_14
def r10_Large_q (a0 : TDoc) : Option Bool := bif (decide ((70 : Int) < ((a0.FDefs.l.length : Nat) : Int))) then (some true) else (Option.bind (r10_Large_q12  a0.FDefs.l (0 : Int)) fun s3_13 => on (s3_13) fun s3_9 => some (decide ((1000 : Int) < s3_9)))
theorem r10_Large_eq (a0 : TDoc) : r10_Large a0 = r10_Large_q a0 := by
 unfold r10_Large r10_Large_q
 refine Eq.trans ?_ (Q.some_bind _)
 refine Q.condO ?_ ?_
 ·all_goals rfl
 ·refine Q.wrapOO fun Kb12 hKb12 => ?_
  refine r10_Large_l12_qe  Kb12 ?_ _ _ _ ⟨Nat.succ_pos _, by omega⟩
  ·intro n12 s3_13 s4_14
   refine Eq.trans ?_ (hKb12 _).symm
   try dsimp only
   refine Q.wrapPO fun Kj8 hKj8 => ?_
   have hj8 : ∀ (s3_9 : Int), r10_Large_j8 a0 s3_9 = Kj8 s3_9 := by
    intro s3_9
    refine Eq.trans ?_ (hKj8 _).symm
    try dsimp only
    unfold r10_Large_j8
    all_goals rfl
   all_goals exact hj8 _
def r02_Size_q7 (k_rec_47 : TValue → Option Int) : List TValue → Int → Option (Int)
 | [], s3_8 => some s3_8
 | h7 :: r7, s3_8 => on (h7) fun x15 => (k_rec_47 x15).bind fun x16 => (addC s3_8 x16).bind fun x17 => r02_Size_q7 k_rec_47 (r7) x17
theorem r02_Size_l7_qe {a0 : TValue} {k_rec_47 : TValue → Option Int}  (Kb7 : (Int) → Option Int) (hend : ∀ (n7 : Nat) (s3_8 : Int) (s4_9 : Nat), r02_Size_j3 a0  s3_8 = Kb7 s3_8) : ∀ (n7 : Nat) (s3_8 : Int) (s4_9 : Nat), (0 < n7 ∧ a0.FItems.l.length < s4_9 + n7) → r02_Size_l7 a0 k_rec_47 n7 s3_8 s4_9 = Option.bind (r02_Size_q7 k_rec_47 (a0.FItems.l.drop s4_9) s3_8) Kb7 := by
 intro n7
 induction n7 with
 | zero => intro s3_8 s4_9 hn; exact absurd hn.1 (by omega)
 | succ n7 ih7 =>
  intro s3_8 s4_9 hn
  rw [r02_Size_l7]
  by_cases hlt : s4_9 < a0.FItems.l.length
  ·obtain ⟨h7, hh7⟩ : ∃ x, a0.FItems.l[s4_9]? = some x := ⟨_, List.getElem?_eq_getElem hlt⟩
   rw [Q.drop_of hh7, r02_Size_q7]
   refine Q.condT (Q.ltT hlt) ?_
   refine Q.bindPO hh7 fun x15 hx_x15 => ?_
   refine Q.bindO rfl fun x16 => ?_
   refine Q.bindO rfl fun x17 => ?_
   all_goals exact ih7 _ _ ⟨by omega, by omega⟩
  ·rw [List.drop_of_length_le (by omega), r02_Size_q7]
   refine Q.condF (Q.ltF hlt) ?_
   exact hend n7 s3_8 s4_9
def r02_Size_qn : Nat → TValue → Option Int
 | 0, _ => none
 | n + 1, a0 => Option.bind (r02_Size_q7 (r02_Size_qn n) a0.FItems.l (1 : Int)) fun s3_8 => on (s3_8) fun s3_4 => some s3_4
theorem r02_Size_qall : ∀ n : Nat, r02_Size_n n = r02_Size_qn n := by
 intro n
 induction n with
 | zero => exact (by funext a0; first | rfl | (rw [r02_Size_n, r02_Size_qn]))
 | succ n ih =>
  funext a0
  refine Eq.trans ?_ (Q.some_bind _)
  rw [r02_Size_n, r02_Size_qn]
  try rw [ih]
  refine Q.wrapOO fun Kb7 hKb7 => ?_
  refine r02_Size_l7_qe  Kb7 ?_ _ _ _ ⟨Nat.succ_pos _, by omega⟩
  ·intro n7 s3_8 s4_9
   refine Eq.trans ?_ (hKb7 _).symm
   try dsimp only
   refine Q.wrapPO fun Kj3 hKj3 => ?_
   have hj3 : ∀ (s3_4 : Int), r02_Size_j3 a0 s3_4 = Kj3 s3_4 := by
    intro s3_4
    refine Eq.trans ?_ (hKj3 _).symm
    try dsimp only
    unfold r02_Size_j3
    all_goals rfl
   all_goals exact hj3 _
def r02_Size_q (a0 : TValue) : Option Int := r02_Size_qn F0 a0
theorem r02_Size_eq (a0 : TValue) : r02_Size a0 = r02_Size_q a0 := by
 unfold r02_Size r02_Size_q; rw [(r02_Size_qall F0)]
def r08_weigh_q29 (a1 : Int) (h7 : TSel) : List TArg → Int → Option (Int)
 | [], s5_30 => some s5_30
 | h29 :: r29, s5_30 => bif (decide (s5_30 ≤ a1)) then (on (h7) fun x38 => on (h29) fun x39 => (r02_Size_q x39.FValue).bind fun x40 => (addC s5_30 x40).bind fun x41 => r08_weigh_q29 a1 h7 (r29) x41) else (some s5_30)
theorem r08_weigh_l29_qe {a0 : (Sl TSel)} {a1 : Int} {n7 : Nat} {s5_8 : Int} {s6_9 : Nat} {x17 : Int} {x18 : TSel} {x19 : Int} {x20 : TSel} {x21 : Int} {k_next_7 : Int → Nat → Option Int} {k_rec_39 : (Sl TSel) → Int → Option Int} {h7 : TSel} (hh7 : a0.l[s6_9]? = some h7) (Kb29 : (Int) → Option Int) (hend : ∀ (n29 : Nat) (s5_30 : Int) (s7_31 : Nat), r08_weigh_j22 a0 a1 n7 s5_8 s6_9 x17 x18 x19 x20 x21 k_next_7 k_rec_39 s5_30 = Kb29 s5_30) : ∀ (n29 : Nat) (s5_30 : Int) (s7_31 : Nat), (0 < n29 ∧ h7.FArgs.l.length < s7_31 + n29) → r08_weigh_l29 a0 a1 n7 s5_8 s6_9 x17 x18 x19 x20 x21 k_next_7 k_rec_39 n29 s5_30 s7_31 = Option.bind (r08_weigh_q29 a1 h7 (h7.FArgs.l.drop s7_31) s5_30) Kb29 := by
 intro n29
 induction n29 with
 | zero => intro s5_30 s7_31 hn; exact absurd hn.1 (by omega)
 | succ n29 ih29 =>
  intro s5_30 s7_31 hn
  rw [r08_weigh_l29]
  refine Q.preB hh7 fun x34 hx_x34 => ?_
  subst hx_x34
  by_cases hlt : s7_31 < x34.FArgs.l.length
  ·obtain ⟨h29, hh29⟩ : ∃ x, x34.FArgs.l[s7_31]? = some x := ⟨_, List.getElem?_eq_getElem hlt⟩
   rw [Q.drop_of hh29, r08_weigh_q29]
   refine Q.condAT (Q.ltT hlt) ?_
   refine Q.condO ?_ ?_
   ·refine Q.bindPO hh7 fun x38 hx_x38 => ?_
    refine Q.bindPO (by first | exact hh29 | (simp only [hx_x38]; exact hh29) | (simp only [hx_x38] at hh29 ⊢; exact hh29)) fun x39 hx_x39 => ?_
    refine Q.bindO (r02_Size_eq _) fun x40 => ?_
    refine Q.bindO rfl fun x41 => ?_
    all_goals exact ih29 _ _ ⟨by omega, by omega⟩
   ·all_goals exact hend n29 s5_30 s7_31
  ·rw [List.drop_of_length_le (by omega), r08_weigh_q29]
   refine Q.condAF (Q.ltF hlt) ?_
   exact hend n29 s5_30 s7_31
def r08_weigh_q7 (a1 : Int) (k_rec_39 : (Sl TSel) → Int → Option Int) : List TSel → Int → Option (Int)
 | [], s5_8 => some s5_8
 | h7 :: r7, s5_8 => bif (decide (s5_8 ≤ a1)) then ((addC s5_8 (1 : Int)).bind fun x17 => on (h7) fun x18 => (addC x17 ((x18.FArgs.l.length : Nat) : Int)).bind fun x19 => on (h7) fun x20 => (addC x19 ((x20.FDirs.l.length : Nat) : Int)).bind fun x21 => Option.bind (r08_weigh_q29 a1 h7 h7.FArgs.l x21) fun s5_30 => on (s5_30) fun s5_23 => on (h7) fun x24 => (subC a1 s5_23).bind fun x25 => (k_rec_39 x24.FSels x25).bind fun x26 => (addC s5_23 x26).bind fun x27 => on (x27) fun s5_15 => r08_weigh_q7 a1 k_rec_39 (r7) s5_15) else (some s5_8)
theorem r08_weigh_l7_qe {a0 : (Sl TSel)} {a1 : Int} {k_rec_39 : (Sl TSel) → Int → Option Int}  (Kb7 : (Int) → Option Int) (hend : ∀ (n7 : Nat) (s5_8 : Int) (s6_9 : Nat), r08_weigh_j3 a0 a1  s5_8 = Kb7 s5_8) : ∀ (n7 : Nat) (s5_8 : Int) (s6_9 : Nat), (0 < n7 ∧ a0.l.length < s6_9 + n7) → r08_weigh_l7 a0 a1 k_rec_39 n7 s5_8 s6_9 = Option.bind (r08_weigh_q7 a1 k_rec_39 (a0.l.drop s6_9) s5_8) Kb7 := by
 intro n7
 induction n7 with
 | zero => intro s5_8 s6_9 hn; exact absurd hn.1 (by omega)
 | succ n7 ih7 =>
  intro s5_8 s6_9 hn
  rw [r08_weigh_l7]
  by_cases hlt : s6_9 < a0.l.length
  ·obtain ⟨h7, hh7⟩ : ∃ x, a0.l[s6_9]? = some x := ⟨_, List.getElem?_eq_getElem hlt⟩
   rw [Q.drop_of hh7, r08_weigh_q7]
   refine Q.condAT (Q.ltT hlt) ?_
   refine Q.condO ?_ ?_
   ·refine Q.bindO rfl fun x17 => ?_
    refine Q.bindPO hh7 fun x18 hx_x18 => ?_
    refine Q.bindO rfl fun x19 => ?_
    refine Q.bindPO hh7 fun x20 hx_x20 => ?_
    refine Q.bindO rfl fun x21 => ?_
    refine Q.wrapOO fun Kb29 hKb29 => ?_
    refine r08_weigh_l29_qe hh7 Kb29 ?_ _ _ _ ⟨by rw [hh7]; exact Nat.succ_pos _, by rw [hh7]; simp only [Option.elim]; omega⟩
    ·intro n29 s5_30 s7_31
     refine Eq.trans ?_ (hKb29 _).symm
     try dsimp only
     refine Q.wrapPO fun Kj22 hKj22 => ?_
     have hj22 : ∀ (s5_23 : Int), r08_weigh_j22 a0 a1 n7 s5_8 s6_9 x17 x18 x19 x20 x21 (r08_weigh_l7 a0 a1 k_rec_39 n7) k_rec_39 s5_23 = Kj22 s5_23 := by
      intro s5_23
      refine Eq.trans ?_ (hKj22 _).symm
      try dsimp only
      unfold r08_weigh_j22
      refine Q.bindPO hh7 fun x24 hx_x24 => ?_
      refine Q.bindO rfl fun x25 => ?_
      refine Q.bindO rfl fun x26 => ?_
      refine Q.bindO rfl fun x27 => ?_
      refine Q.wrapPO fun Kj14 hKj14 => ?_
      have hj14 : ∀ (s5_15 : Int), r08_weigh_j14 a0 a1 n7 s5_8 s6_9 (r08_weigh_l7 a0 a1 k_rec_39 n7) s5_15 = Kj14 s5_15 := by
       intro s5_15
       refine Eq.trans ?_ (hKj14 _).symm
       try dsimp only
       unfold r08_weigh_j14
       all_goals exact ih7 _ _ ⟨by omega, by omega⟩
      all_goals exact hj14 _
     all_goals exact hj22 _
   ·all_goals exact hend n7 s5_8 s6_9
  ·rw [List.drop_of_length_le (by omega), r08_weigh_q7]
   refine Q.condAF (Q.ltF hlt) ?_
   exact hend n7 s5_8 s6_9
def r08_weigh_qn : Nat → (Sl TSel) → Int → Option Int
 | 0, _, _ => none
 | n + 1, a0, a1 => Option.bind (r08_weigh_q7 a1 (r08_weigh_qn n) a0.l (0 : Int)) fun s5_8 => on (s5_8) fun s5_4 => some s5_4
theorem r08_weigh_qall : ∀ n : Nat, r08_weigh_n n = r08_weigh_qn n := by
 intro n
 induction n with
 | zero => exact (by funext a0 a1; first | rfl | (rw [r08_weigh_n, r08_weigh_qn]))
 | succ n ih =>
  funext a0 a1
  refine Eq.trans ?_ (Q.some_bind _)
  rw [r08_weigh_n, r08_weigh_qn]
  try rw [ih]
  refine Q.wrapOO fun Kb7 hKb7 => ?_
  refine r08_weigh_l7_qe  Kb7 ?_ _ _ _ ⟨Nat.succ_pos _, by omega⟩
  ·intro n7 s5_8 s6_9
   refine Eq.trans ?_ (hKb7 _).symm
   try dsimp only
   refine Q.wrapPO fun Kj3 hKj3 => ?_
   have hj3 : ∀ (s5_4 : Int), r08_weigh_j3 a0 a1 s5_4 = Kj3 s5_4 := by
    intro s5_4
    refine Eq.trans ?_ (hKj3 _).symm
    try dsimp only
    unfold r08_weigh_j3
    all_goals rfl
   all_goals exact hj3 _
def r08_weigh_q (a0 : (Sl TSel)) (a1 : Int) : Option Int := r08_weigh_qn F0 a0 a1
theorem r08_weigh_eq (a0 : (Sl TSel)) (a1 : Int) : r08_weigh a0 a1 = r08_weigh_q a0 a1 := by
 unfold r08_weigh r08_weigh_q; rw [(r08_weigh_qall F0)]
def r08_Large_q24  : List TOp → Int → Option (Int)
 | [], s3_25 => some s3_25
 | h24 :: r24, s3_25 => bif (decide (s3_25 ≤ (600 : Int))) then (on (h24) fun x32 => (addC s3_25 ((x32.FVars.l.length : Nat) : Int)).bind fun x33 => on (h24) fun x34 => (r08_weigh_q x34.FSels (600 : Int)).bind fun x35 => (addC x33 x35).bind fun x36 => r08_Large_q24  (r24) x36) else (some s3_25)
theorem r08_Large_l24_qe {a0 : TQuery} {x5 : Int}  (Kb24 : (Int) → Option Bool) (hend : ∀ (n24 : Nat) (s3_25 : Int) (s4_26 : Nat), r08_Large_j6 a0 x5  s3_25 = Kb24 s3_25) : ∀ (n24 : Nat) (s3_25 : Int) (s4_26 : Nat), (0 < n24 ∧ a0.FOps.l.length < s4_26 + n24) → r08_Large_l24 a0 x5 n24 s3_25 s4_26 = Option.bind (r08_Large_q24  (a0.FOps.l.drop s4_26) s3_25) Kb24 := by
 intro n24
 induction n24 with
 | zero => intro s3_25 s4_26 hn; exact absurd hn.1 (by omega)
 | succ n24 ih24 =>
  intro s3_25 s4_26 hn
  rw [r08_Large_l24]
  by_cases hlt : s4_26 < a0.FOps.l.length
  ·obtain ⟨h24, hh24⟩ : ∃ x, a0.FOps.l[s4_26]? = some x := ⟨_, List.getElem?_eq_getElem hlt⟩
   rw [Q.drop_of hh24, r08_Large_q24]
   refine Q.condAT (Q.ltT hlt) ?_
   refine Q.condO ?_ ?_
   ·refine Q.bindPO hh24 fun x32 hx_x32 => ?_
    refine Q.bindO rfl fun x33 => ?_
    refine Q.bindPO hh24 fun x34 hx_x34 => ?_
    refine Q.bindO (r08_weigh_eq _ _) fun x35 => ?_
    refine Q.bindO rfl fun x36 => ?_
    all_goals exact ih24 _ _ ⟨by omega, by omega⟩
   ·all_goals exact hend n24 s3_25 s4_26
  ·rw [List.drop_of_length_le (by omega), r08_Large_q24]
   refine Q.condAF (Q.ltF hlt) ?_
   exact hend n24 s3_25 s4_26
def r08_Large_q12  : List TFrag → Int → Option (Int)
 | [], s3_13 => some s3_13
 | h12 :: r12, s3_13 => bif (decide (s3_13 ≤ (600 : Int))) then (on (h12) fun x20 => (r08_weigh_q x20.FSels (600 : Int)).bind fun x21 => (addC s3_13 x21).bind fun x22 => r08_Large_q12  (r12) x22) else (some s3_13)
theorem r08_Large_l12_qe {a0 : TQuery} {x5 : Int} {s3_7 : Int}  (Kb12 : (Int) → Option Bool) (hend : ∀ (n12 : Nat) (s3_13 : Int) (s5_14 : Nat), r08_Large_j8 a0 x5 s3_7  s3_13 = Kb12 s3_13) : ∀ (n12 : Nat) (s3_13 : Int) (s5_14 : Nat), (0 < n12 ∧ a0.FFrags.l.length < s5_14 + n12) → r08_Large_l12 a0 x5 s3_7 n12 s3_13 s5_14 = Option.bind (r08_Large_q12  (a0.FFrags.l.drop s5_14) s3_13) Kb12 := by
 intro n12
 induction n12 with
 | zero => intro s3_13 s5_14 hn; exact absurd hn.1 (by omega)
 | succ n12 ih12 =>
  intro s3_13 s5_14 hn
  rw [r08_Large_l12]
  by_cases hlt : s5_14 < a0.FFrags.l.length
  ·obtain ⟨h12, hh12⟩ : ∃ x, a0.FFrags.l[s5_14]? = some x := ⟨_, List.getElem?_eq_getElem hlt⟩
   rw [Q.drop_of hh12, r08_Large_q12]
   refine Q.condAT (Q.ltT hlt) ?_
   refine Q.condO ?_ ?_
   ·refine Q.bindPO hh12 fun x20 hx_x20 => ?_
    refine Q.bindO (r08_weigh_eq _ _) fun x21 => ?_
    refine Q.bindO rfl fun x22 => ?_
    all_goals exact ih12 _ _ ⟨by omega, by omega⟩
   ·all_goals exact hend n12 s3_13 s5_14
  ·rw [List.drop_of_length_le (by omega), r08_Large_q12]
   refine Q.condAF (Q.ltF hlt) ?_
   exact hend n12 s3_13 s5_14
def r08_Large_q (a0 : TQuery) : Option Bool := (addC ((a0.FOps.l.length : Nat) : Int) ((a0.FFrags.l.length : Nat) : Int)).bind fun x5 => Option.bind (r08_Large_q24  a0.FOps.l x5) fun s3_25 => on (s3_25) fun s3_7 => Option.bind (r08_Large_q12  a0.FFrags.l s3_7) fun s3_13 => on (s3_13) fun s3_9 => some (decide ((600 : Int) < s3_9))
theorem r08_Large_eq (a0 : TQuery) : r08_Large a0 = r08_Large_q a0 := by
 unfold r08_Large r08_Large_q
 refine Eq.trans ?_ (Q.some_bind _)
 refine Q.bindO rfl fun x5 => ?_
 refine Q.wrapOO fun Kb24 hKb24 => ?_
 refine r08_Large_l24_qe  Kb24 ?_ _ _ _ ⟨Nat.succ_pos _, by omega⟩
 ·intro n24 s3_25 s4_26
  refine Eq.trans ?_ (hKb24 _).symm
  try dsimp only
  refine Q.wrapPO fun Kj6 hKj6 => ?_
  have hj6 : ∀ (s3_7 : Int), r08_Large_j6 a0 x5 s3_7 = Kj6 s3_7 := by
   intro s3_7
   refine Eq.trans ?_ (hKj6 _).symm
   try dsimp only
   unfold r08_Large_j6
   refine Q.wrapOO fun Kb12 hKb12 => ?_
   refine r08_Large_l12_qe  Kb12 ?_ _ _ _ ⟨Nat.succ_pos _, by omega⟩
   ·intro n12 s3_13 s5_14
    refine Eq.trans ?_ (hKb12 _).symm
    try dsimp only
    refine Q.wrapPO fun Kj8 hKj8 => ?_
    have hj8 : ∀ (s3_9 : Int), r08_Large_j8 a0 x5 s3_7 s3_9 = Kj8 s3_9 := by
     intro s3_9
     refine Eq.trans ?_ (hKj8 _).symm
     try dsimp only
     unfold r08_Large_j8
     all_goals rfl
    all_goals exact hj8 _
  all_goals exact hj6 _
def r01_letter_q (a0 : Int) : Bool := ((((decide ((65 : Int) ≤ a0)) && (decide (a0 ≤ (90 : Int)))) || ((decide ((97 : Int) ≤ a0)) && (decide (a0 ≤ (122 : Int))))) || (decide (a0 = (95 : Int))))
theorem r01_letter_eq (a0 : Int) : r01_letter a0 = some (r01_letter_q a0) := by
 unfold r01_letter r01_letter_q
 all_goals rfl
def r01_digit_q (a0 : Int) : Bool := ((decide ((48 : Int) ≤ a0)) && (decide (a0 ≤ (57 : Int))))
theorem r01_digit_eq (a0 : Int) : r01_digit a0 = some (r01_digit_q a0) := by
 unfold r01_digit r01_digit_q
 all_goals rfl
end Go.Proofs

namespace Go.Proofs
open Go Go.Ab
def r01_Name_q10  : List UInt8 → Nat → Unit ⊕ Bool
 | [], s3_11 => Sum.inl ()
 | h10 :: r10, s3_11 => on (h10) fun x18 => on (r01_letter_q ((x18.toNat : Nat) : Int)) fun x19 => on (bif ((!x19) && !(decide (((s3_11 : Nat) : Int) = (0 : Int)))) then h10 else (0 : UInt8)) fun x20 => on (bif ((!x19) && !(decide (((s3_11 : Nat) : Int) = (0 : Int)))) then r01_digit_q ((x20.toNat : Nat) : Int) else false) fun x21 => bif ((!x19) && ((decide (((s3_11 : Nat) : Int) = (0 : Int))) || (!x21))) then (Sum.inr false) else (r01_Name_q10  (r10) (s3_11 + 1) )
theorem r01_Name_l10_qe {a0 : Bs}  (Kb10 : (Unit ⊕ Bool) → Option Bool) (hend : ∀ (n10 : Nat) (s3_11 : Nat), r01_Name_j7 a0   = Kb10 (Sum.inl ())) (hret : ∀ e : Bool, some e = Kb10 (Sum.inr e)) : ∀ (n10 : Nat) (s3_11 : Nat), (0 < n10 ∧ a0.length < s3_11 + n10) → r01_Name_l10 a0 n10 s3_11 = Kb10 (r01_Name_q10  (a0.drop s3_11) s3_11 ) := by
 intro n10
 induction n10 with
 | zero => intro s3_11 hn; exact absurd hn.1 (by omega)
 | succ n10 ih10 =>
  intro s3_11 hn
  rw [r01_Name_l10]
  by_cases hlt : s3_11 < a0.length
  ·obtain ⟨h10, hh10⟩ : ∃ x, a0[s3_11]? = some x := ⟨_, List.getElem?_eq_getElem hlt⟩
   rw [Q.drop_of hh10, r01_Name_q10]
   refine Q.condT (Q.ltT hlt) ?_
   refine Q.bindP hh10 fun x18 hx_x18 => ?_
   refine Q.bindP (r01_letter_eq _) fun x19 hx_x19 => ?_
   refine Q.guardP hh10 fun x20 hx_x20 => ?_
   refine Q.guardP (r01_digit_eq _) fun x21 hx_x21 => ?_
   refine Q.condP ?_ ?_
   ·all_goals exact hret _
   ·all_goals exact ih10 _ ⟨by omega, by omega⟩
  ·rw [List.drop_of_length_le (by omega), r01_Name_q10]
   refine Q.condF (Q.ltF hlt) ?_
   exact hend n10 s3_11
def r01_Name_q (a0 : Bs) : Bool := bif ((decide (((a0.length : Nat) : Int) < (1 : Int))) || (decide ((64 : Int) < ((a0.length : Nat) : Int)))) then (false) else (on (r01_Name_q10  a0 0 ) fun o10 => match o10 with | Sum.inl _ => (on (()) fun _ => true) | Sum.inr e10 => (e10))
theorem r01_Name_eq (a0 : Bs) : r01_Name a0 = some (r01_Name_q a0) := by
 unfold r01_Name r01_Name_q
 refine Q.condP ?_ ?_
 ·all_goals rfl
 ·refine Q.wrapPP fun Kb10 hKb10 => ?_
  refine r01_Name_l10_qe  Kb10 ?_ ?_ _ _ ⟨Nat.succ_pos _, by omega⟩
  ·intro n10 s3_11
   refine Eq.trans ?_ (hKb10 _).symm
   try dsimp only
   refine Q.wrapPP fun Kj7 hKj7 => ?_
   have hj7 : r01_Name_j7 a0  = Kj7 () := by
    refine Eq.trans ?_ (hKj7 _).symm
    try dsimp only
    unfold r01_Name_j7
    all_goals rfl
   all_goals exact hj7
  ·intro e10
   refine Eq.trans ?_ (hKb10 _).symm
   try dsimp only
   all_goals rfl
def r02_Depth_q8 (k_rec_68 : TValue → Option Int) : List TValue → Int → Option (Int)
 | [], s3_9 => some s3_9
 | h8 :: r8, s3_9 => on (h8) fun x16 => (k_rec_68 x16).bind fun x17 => r02_Depth_q8 k_rec_68 (r8) (if x17 > s3_9 then x17 else s3_9)
theorem r02_Depth_l8_qe {a0 : TValue} {k_rec_68 : TValue → Option Int}  (Kb8 : (Int) → Option Int) (hend : ∀ (n8 : Nat) (s3_9 : Int) (s4_10 : Nat), r02_Depth_j3 a0  s3_9 = Kb8 s3_9) : ∀ (n8 : Nat) (s3_9 : Int) (s4_10 : Nat), (0 < n8 ∧ a0.FItems.l.length < s4_10 + n8) → r02_Depth_l8 a0 k_rec_68 n8 s3_9 s4_10 = Option.bind (r02_Depth_q8 k_rec_68 (a0.FItems.l.drop s4_10) s3_9) Kb8 := by
 intro n8
 induction n8 with
 | zero => intro s3_9 s4_10 hn; exact absurd hn.1 (by omega)
 | succ n8 ih8 =>
  intro s3_9 s4_10 hn
  rw [r02_Depth_l8]
  by_cases hlt : s4_10 < a0.FItems.l.length
  ·obtain ⟨h8, hh8⟩ : ∃ x, a0.FItems.l[s4_10]? = some x := ⟨_, List.getElem?_eq_getElem hlt⟩
   rw [Q.drop_of hh8, r02_Depth_q8]
   refine Q.condT (Q.ltT hlt) ?_
   refine Q.bindPO hh8 fun x16 hx_x16 => ?_
   refine Q.bindO rfl fun x17 => ?_
   all_goals exact ih8 _ _ ⟨by omega, by omega⟩
  ·rw [List.drop_of_length_le (by omega), r02_Depth_q8]
   refine Q.condF (Q.ltF hlt) ?_
   exact hend n8 s3_9 s4_10
def r02_Depth_qn : Nat → TValue → Option Int
 | 0, _ => none
 | n + 1, a0 => Option.bind (r02_Depth_q8 (r02_Depth_qn n) a0.FItems.l (0 : Int)) fun s3_9 => on (s3_9) fun s3_4 => (addC s3_4 (1 : Int)).bind fun x6 => some x6
theorem r02_Depth_qall : ∀ n : Nat, r02_Depth_n n = r02_Depth_qn n := by
 intro n
 induction n with
 | zero => exact (by funext a0; first | rfl | (rw [r02_Depth_n, r02_Depth_qn]))
 | succ n ih =>
  funext a0
  refine Eq.trans ?_ (Q.some_bind _)
  rw [r02_Depth_n, r02_Depth_qn]
  try rw [ih]
  refine Q.wrapOO fun Kb8 hKb8 => ?_
  refine r02_Depth_l8_qe  Kb8 ?_ _ _ _ ⟨Nat.succ_pos _, by omega⟩
  ·intro n8 s3_9 s4_10
   refine Eq.trans ?_ (hKb8 _).symm
   try dsimp only
   refine Q.wrapPO fun Kj3 hKj3 => ?_
   have hj3 : ∀ (s3_4 : Int), r02_Depth_j3 a0 s3_4 = Kj3 s3_4 := by
    intro s3_4
    refine Eq.trans ?_ (hKj3 _).symm
    try dsimp only
    unfold r02_Depth_j3
    refine Q.bindO rfl fun x6 => ?_
    all_goals rfl
   all_goals exact hj3 _
def r02_Depth_q (a0 : TValue) : Option Int := r02_Depth_qn F0 a0
theorem r02_Depth_eq (a0 : TValue) : r02_Depth a0 = r02_Depth_q a0 := by
 unfold r02_Depth r02_Depth_q; rw [(r02_Depth_qall F0)]
def r02_twice_q13 (a0 : (Sl Bs)) (h5 : Bs) : Nat → Nat → Option (Unit ⊕ Bool)
 | 0, s4_14 => some (Sum.inl ())
 | r13 + 1, s4_14 => on (h5) fun x20 => (a0.l[s4_14]?).bind fun x21 => bif ((x20 == x21)) then (some (Sum.inr true)) else (r02_twice_q13 a0 h5 (r13) (s4_14 + 1) )
theorem r02_twice_l13_qe {a0 : (Sl Bs)} {n5 : Nat} {s3_6 : Nat} {k_next_5 : Nat → Option Bool} {h5 : Bs} (hh5 : a0.l[s3_6]? = some h5) (Kb13 : (Unit ⊕ Bool) → Option Bool) (hend : ∀ (n13 : Nat) (s4_14 : Nat), r02_twice_j11 a0 n5 s3_6 k_next_5  = Kb13 (Sum.inl ())) (hret : ∀ e : Bool, some e = Kb13 (Sum.inr e)) : ∀ (n13 : Nat) (s4_14 : Nat), (0 < n13 ∧ s3_6 < s4_14 + n13) → r02_twice_l13 a0 n5 s3_6 k_next_5 n13 s4_14 = Option.bind (r02_twice_q13 a0 h5 (s3_6 - s4_14) s4_14 ) Kb13 := by
 intro n13
 induction n13 with
 | zero => intro s4_14 hn; exact absurd hn.1 (by omega)
 | succ n13 ih13 =>
  intro s4_14 hn
  rw [r02_twice_l13]
  by_cases hlt : s4_14 < s3_6
  ·rw [show s3_6 - s4_14 = (s3_6 - (s4_14 + 1)) + 1 by omega, r02_twice_q13]
   refine Q.condT (Q.ltT hlt) ?_
   refine Q.bindPO hh5 fun x20 hx_x20 => ?_
   refine Q.bindO rfl fun x21 => ?_
   refine Q.condO ?_ ?_
   ·all_goals exact hret _
   ·all_goals exact ih13 _ ⟨by omega, by omega⟩
  ·rw [show s3_6 - s4_14 = 0 by omega, r02_twice_q13]
   refine Q.condF (Q.ltF hlt) ?_
   exact hend n13 s4_14
def r02_twice_q5 (a0 : (Sl Bs)) : List Bs → Nat → Option (Unit ⊕ Bool)
 | [], s3_6 => some (Sum.inl ())
 | h5 :: r5, s3_6 => Option.bind (r02_twice_q13 a0 h5 s3_6 0 ) fun o13 => match o13 with | Sum.inl _ => (on (()) fun _ => r02_twice_q5 a0 (r5) (s3_6 + 1) ) | Sum.inr e13 => (some (Sum.inr e13))
theorem r02_twice_l5_qe {a0 : (Sl Bs)}  (Kb5 : (Unit ⊕ Bool) → Option Bool) (hend : ∀ (n5 : Nat) (s3_6 : Nat), r02_twice_j2 a0   = Kb5 (Sum.inl ())) (hret : ∀ e : Bool, some e = Kb5 (Sum.inr e)) : ∀ (n5 : Nat) (s3_6 : Nat), (0 < n5 ∧ a0.l.length < s3_6 + n5) → r02_twice_l5 a0 n5 s3_6 = Option.bind (r02_twice_q5 a0 (a0.l.drop s3_6) s3_6 ) Kb5 := by
 intro n5
 induction n5 with
 | zero => intro s3_6 hn; exact absurd hn.1 (by omega)
 | succ n5 ih5 =>
  intro s3_6 hn
  rw [r02_twice_l5]
  by_cases hlt : s3_6 < a0.l.length
  ·obtain ⟨h5, hh5⟩ : ∃ x, a0.l[s3_6]? = some x := ⟨_, List.getElem?_eq_getElem hlt⟩
   rw [Q.drop_of hh5, r02_twice_q5]
   refine Q.condT (Q.ltT hlt) ?_
   refine Q.wrapOO fun Kb13 hKb13 => ?_
   refine r02_twice_l13_qe hh5 Kb13 ?_ ?_ _ _ ⟨Nat.succ_pos _, by omega⟩
   ·intro n13 s4_14
    refine Eq.trans ?_ (hKb13 _).symm
    try dsimp only
    refine Q.wrapPO fun Kj11 hKj11 => ?_
    have hj11 : r02_twice_j11 a0 n5 s3_6 (r02_twice_l5 a0 n5)  = Kj11 () := by
     refine Eq.trans ?_ (hKj11 _).symm
     try dsimp only
     unfold r02_twice_j11
     all_goals exact ih5 _ ⟨by omega, by omega⟩
    all_goals exact hj11
   ·intro e13
    refine Eq.trans ?_ (hKb13 _).symm
    try dsimp only
    all_goals exact hret _
  ·rw [List.drop_of_length_le (by omega), r02_twice_q5]
   refine Q.condF (Q.ltF hlt) ?_
   exact hend n5 s3_6
def r02_twice_q (a0 : (Sl Bs)) : Option Bool := Option.bind (r02_twice_q5 a0 a0.l 0 ) fun o5 => match o5 with | Sum.inl _ => (on (()) fun _ => some false) | Sum.inr e5 => (some e5)
theorem r02_twice_eq (a0 : (Sl Bs)) : r02_twice a0 = r02_twice_q a0 := by
 unfold r02_twice r02_twice_q
 refine Eq.trans ?_ (Q.some_bind _)
 refine Q.wrapOO fun Kb5 hKb5 => ?_
 refine r02_twice_l5_qe  Kb5 ?_ ?_ _ _ ⟨Nat.succ_pos _, by omega⟩
 ·intro n5 s3_6
  refine Eq.trans ?_ (hKb5 _).symm
  try dsimp only
  refine Q.wrapPO fun Kj2 hKj2 => ?_
  have hj2 : r02_twice_j2 a0  = Kj2 () := by
   refine Eq.trans ?_ (hKj2 _).symm
   try dsimp only
   unfold r02_twice_j2
   all_goals rfl
  all_goals exact hj2
 ·intro e5
  refine Eq.trans ?_ (hKb5 _).symm
  try dsimp only
  all_goals rfl
def r02_node_q (a0 : TValue) (a1 : Bool) : Option Bool := bif (decide (a0.FKind = (0 : Int))) then (some ((((decide (a0.FInt = (0 : Int))) && ((a0.FText == ([] : Bs)))) && (decide (((a0.FItems.l.length : Nat) : Int) = (0 : Int)))) && (decide (((a0.FKeys.l.length : Nat) : Int) = (0 : Int))))) else (bif (decide (a0.FKind = (1 : Int))) then (some (((((decide (a0.FInt = (0 : Int))) || (decide (a0.FInt = (1 : Int)))) && ((a0.FText == ([] : Bs)))) && (decide (((a0.FItems.l.length : Nat) : Int) = (0 : Int)))) && (decide (((a0.FKeys.l.length : Nat) : Int) = (0 : Int))))) else (bif (decide (a0.FKind = (2 : Int))) then (some ((((a0.FText == ([] : Bs))) && (decide (((a0.FItems.l.length : Nat) : Int) = (0 : Int)))) && (decide (((a0.FKeys.l.length : Nat) : Int) = (0 : Int))))) else (bif (decide (a0.FKind = (3 : Int))) then (some (((decide (a0.FInt = (0 : Int))) && (decide (((a0.FItems.l.length : Nat) : Int) = (0 : Int)))) && (decide (((a0.FKeys.l.length : Nat) : Int) = (0 : Int))))) else (bif (decide (a0.FKind = (4 : Int))) then (on (bif (((decide (a0.FInt = (0 : Int))) && (decide (((a0.FItems.l.length : Nat) : Int) = (0 : Int)))) && (decide (((a0.FKeys.l.length : Nat) : Int) = (0 : Int)))) then r01_Name_q a0.FText else false) fun x19 => some (((((((decide (a0.FInt = (0 : Int))) && (decide (((a0.FItems.l.length : Nat) : Int) = (0 : Int)))) && (decide (((a0.FKeys.l.length : Nat) : Int) = (0 : Int)))) && x19) && (!(a0.FText == ([116, 114, 117, 101] : Bs)))) && (!(a0.FText == ([102, 97, 108, 115, 101] : Bs)))) && (!(a0.FText == ([110, 117, 108, 108] : Bs))))) else (bif (decide (a0.FKind = (5 : Int))) then (some (((decide (a0.FInt = (0 : Int))) && ((a0.FText == ([] : Bs)))) && (decide (((a0.FKeys.l.length : Nat) : Int) = (0 : Int))))) else (bif (decide (a0.FKind = (6 : Int))) then (guardO ((((decide (a0.FInt = (0 : Int))) && ((a0.FText == ([] : Bs)))) && (decide (((a0.FKeys.l.length : Nat) : Int) = ((a0.FItems.l.length : Nat) : Int))))) (r02_twice_q a0.FKeys) false fun x26 => some ((((decide (a0.FInt = (0 : Int))) && ((a0.FText == ([] : Bs)))) && (decide (((a0.FKeys.l.length : Nat) : Int) = ((a0.FItems.l.length : Nat) : Int)))) && (!x26))) else (bif (decide (a0.FKind = (7 : Int))) then (on (bif (((a1 && (decide (a0.FInt = (0 : Int)))) && (decide (((a0.FItems.l.length : Nat) : Int) = (0 : Int)))) && (decide (((a0.FKeys.l.length : Nat) : Int) = (0 : Int)))) then r01_Name_q a0.FText else false) fun x30 => some ((((a1 && (decide (a0.FInt = (0 : Int)))) && (decide (((a0.FItems.l.length : Nat) : Int) = (0 : Int)))) && (decide (((a0.FKeys.l.length : Nat) : Int) = (0 : Int)))) && x30)) else (some false))))))))
theorem r02_node_eq (a0 : TValue) (a1 : Bool) : r02_node a0 a1 = r02_node_q a0 a1 := by
 unfold r02_node r02_node_q
 refine Eq.trans ?_ (Q.some_bind _)
 refine Q.condO ?_ ?_
 ·all_goals rfl
 ·refine Q.condO ?_ ?_
  ·all_goals rfl
  ·refine Q.condO ?_ ?_
   ·all_goals rfl
   ·refine Q.condO ?_ ?_
    ·all_goals rfl
    ·refine Q.condO ?_ ?_
     ·refine Q.guardPO (r01_Name_eq _) fun x19 hx_x19 => ?_
      all_goals rfl
     ·refine Q.condO ?_ ?_
      ·all_goals rfl
      ·refine Q.condO ?_ ?_
       ·refine Q.guardOO (r02_twice_eq _) fun x26 => ?_
        all_goals rfl
       ·refine Q.condO ?_ ?_
        ·refine Q.guardPO (r01_Name_eq _) fun x30 hx_x30 => ?_
         all_goals rfl
        ·all_goals rfl
def r02_whole_q24 (a1 : Bool) : List Bs → Unit ⊕ Bool
 | [] => Sum.inl ()
 | h24 :: r24 => on (bif a1 then h24 else ([] : Bs)) fun x32 => on (bif a1 then r01_Name_q x32 else false) fun x33 => bif (a1 && (!x33)) then (Sum.inr false) else (r02_whole_q24 a1 (r24) )
theorem r02_whole_l24_qe {a0 : TValue} {a1 : Bool} {x4 : Bool} {k_rec_69 : TValue → Bool → Option Bool}  (Kb24 : (Unit ⊕ Bool) → Option Bool) (hend : ∀ (n24 : Nat) (s5_25 : Nat), r02_whole_j7 a0 a1 x4 k_rec_69  = Kb24 (Sum.inl ())) (hret : ∀ e : Bool, some e = Kb24 (Sum.inr e)) : ∀ (n24 : Nat) (s5_25 : Nat), (0 < n24 ∧ a0.FKeys.l.length < s5_25 + n24) → r02_whole_l24 a0 a1 x4 k_rec_69 n24 s5_25 = Kb24 (r02_whole_q24 a1 (a0.FKeys.l.drop s5_25) ) := by
 intro n24
 induction n24 with
 | zero => intro s5_25 hn; exact absurd hn.1 (by omega)
 | succ n24 ih24 =>
  intro s5_25 hn
  rw [r02_whole_l24]
  by_cases hlt : s5_25 < a0.FKeys.l.length
  ·obtain ⟨h24, hh24⟩ : ∃ x, a0.FKeys.l[s5_25]? = some x := ⟨_, List.getElem?_eq_getElem hlt⟩
   rw [Q.drop_of hh24, r02_whole_q24]
   refine Q.condT (Q.ltT hlt) ?_
   refine Q.guardP hh24 fun x32 hx_x32 => ?_
   refine Q.guardP (r01_Name_eq _) fun x33 hx_x33 => ?_
   refine Q.condP ?_ ?_
   ·all_goals exact hret _
   ·all_goals exact ih24 _ ⟨by omega, by omega⟩
  ·rw [List.drop_of_length_le (by omega), r02_whole_q24]
   refine Q.condF (Q.ltF hlt) ?_
   exact hend n24 s5_25
def r02_whole_q11 (a1 : Bool) (k_rec_69 : TValue → Bool → Option Bool) : List TValue → Option (Unit ⊕ Bool)
 | [] => some (Sum.inl ())
 | h11 :: r11 => on (h11) fun x19 => (k_rec_69 x19 a1).bind fun x20 => bif (!x20) then (some (Sum.inr false)) else (r02_whole_q11 a1 k_rec_69 (r11) )
theorem r02_whole_l11_qe {a0 : TValue} {a1 : Bool} {x4 : Bool} {k_rec_69 : TValue → Bool → Option Bool}  (Kb11 : (Unit ⊕ Bool) → Option Bool) (hend : ∀ (n11 : Nat) (s6_12 : Nat), r02_whole_j8 a0 a1 x4   = Kb11 (Sum.inl ())) (hret : ∀ e : Bool, some e = Kb11 (Sum.inr e)) : ∀ (n11 : Nat) (s6_12 : Nat), (0 < n11 ∧ a0.FItems.l.length < s6_12 + n11) → r02_whole_l11 a0 a1 x4 k_rec_69 n11 s6_12 = Option.bind (r02_whole_q11 a1 k_rec_69 (a0.FItems.l.drop s6_12) ) Kb11 := by
 intro n11
 induction n11 with
 | zero => intro s6_12 hn; exact absurd hn.1 (by omega)
 | succ n11 ih11 =>
  intro s6_12 hn
  rw [r02_whole_l11]
  by_cases hlt : s6_12 < a0.FItems.l.length
  ·obtain ⟨h11, hh11⟩ : ∃ x, a0.FItems.l[s6_12]? = some x := ⟨_, List.getElem?_eq_getElem hlt⟩
   rw [Q.drop_of hh11, r02_whole_q11]
   refine Q.condT (Q.ltT hlt) ?_
   refine Q.bindPO hh11 fun x19 hx_x19 => ?_
   refine Q.bindO rfl fun x20 => ?_
   refine Q.condO ?_ ?_
   ·all_goals exact hret _
   ·all_goals exact ih11 _ ⟨by omega, by omega⟩
  ·rw [List.drop_of_length_le (by omega), r02_whole_q11]
   refine Q.condF (Q.ltF hlt) ?_
   exact hend n11 s6_12
def r02_whole_qn : Nat → TValue → Bool → Option Bool
 | 0, _, _ => none
 | n + 1, a0, a1 => (r02_node_q a0 a1).bind fun x4 => bif (!x4) then (some false) else (on (r02_whole_q24 a1 a0.FKeys.l ) fun o24 => match o24 with | Sum.inl _ => (on (()) fun _ => Option.bind (r02_whole_q11 a1 (r02_whole_qn n) a0.FItems.l ) fun o11 => match o11 with | Sum.inl _ => (on (()) fun _ => some true) | Sum.inr e11 => (some e11)) | Sum.inr e24 => (some e24))
theorem r02_whole_qall : ∀ n : Nat, r02_whole_n n = r02_whole_qn n := by
 intro n
 induction n with
 | zero => exact (by funext a0 a1; first | rfl | (rw [r02_whole_n, r02_whole_qn]))
 | succ n ih =>
  funext a0 a1
  refine Eq.trans ?_ (Q.some_bind _)
  rw [r02_whole_n, r02_whole_qn]
  try rw [ih]
  refine Q.bindO (r02_node_eq _ _) fun x4 => ?_
  refine Q.condO ?_ ?_
  ·all_goals rfl
  ·refine Q.wrapPO fun Kb24 hKb24 => ?_
   refine r02_whole_l24_qe  Kb24 ?_ ?_ _ _ ⟨Nat.succ_pos _, by omega⟩
   ·intro n24 s5_25
    refine Eq.trans ?_ (hKb24 _).symm
    try dsimp only
    refine Q.wrapPO fun Kj7 hKj7 => ?_
    have hj7 : r02_whole_j7 a0 a1 x4 (r02_whole_qn n)  = Kj7 () := by
     refine Eq.trans ?_ (hKj7 _).symm
     try dsimp only
     unfold r02_whole_j7
     refine Q.wrapOO fun Kb11 hKb11 => ?_
     refine r02_whole_l11_qe  Kb11 ?_ ?_ _ _ ⟨Nat.succ_pos _, by omega⟩
     ·intro n11 s6_12
      refine Eq.trans ?_ (hKb11 _).symm
      try dsimp only
      refine Q.wrapPO fun Kj8 hKj8 => ?_
      have hj8 : r02_whole_j8 a0 a1 x4  = Kj8 () := by
       refine Eq.trans ?_ (hKj8 _).symm
       try dsimp only
       unfold r02_whole_j8
       all_goals rfl
      all_goals exact hj8
     ·intro e11
      refine Eq.trans ?_ (hKb11 _).symm
      try dsimp only
      all_goals rfl
    all_goals exact hj7
   ·intro e24
    refine Eq.trans ?_ (hKb24 _).symm
    try dsimp only
    all_goals rfl
def r02_whole_q (a0 : TValue) (a1 : Bool) : Option Bool := r02_whole_qn F0 a0 a1
theorem r02_whole_eq (a0 : TValue) (a1 : Bool) : r02_whole a0 a1 = r02_whole_q a0 a1 := by
 unfold r02_whole r02_whole_q; rw [(r02_whole_qall F0)]
def r02_Literal_q (a0 : TValue) : Option Bool := (r02_Size_q a0).bind fun x3 => guardO ((decide (x3 ≤ (4096 : Int)))) (r02_Depth_q a0) (0 : Int) fun x4 => guardO (((decide (x3 ≤ (4096 : Int))) && (decide (x4 ≤ (24 : Int))))) (r02_whole_q a0 true) false fun x5 => some (((decide (x3 ≤ (4096 : Int))) && (decide (x4 ≤ (24 : Int)))) && x5)
theorem r02_Literal_eq (a0 : TValue) : r02_Literal a0 = r02_Literal_q a0 := by
 unfold r02_Literal r02_Literal_q
 refine Eq.trans ?_ (Q.some_bind _)
 refine Q.bindO (r02_Size_eq _) fun x3 => ?_
 refine Q.guardOO (r02_Depth_eq _) fun x4 => ?_
 refine Q.guardOO (r02_whole_eq _ _) fun x5 => ?_
 all_goals rfl
def r06_closed_q5 (k_rec_66 : TValue → Option Bool) : List TValue → Option (Unit ⊕ Bool)
 | [] => some (Sum.inl ())
 | h5 :: r5 => on (h5) fun x13 => (k_rec_66 x13).bind fun x14 => bif (!x14) then (some (Sum.inr false)) else (r06_closed_q5 k_rec_66 (r5) )
theorem r06_closed_l5_qe {a0 : TValue} {k_rec_66 : TValue → Option Bool}  (Kb5 : (Unit ⊕ Bool) → Option Bool) (hend : ∀ (n5 : Nat) (s3_6 : Nat), r06_closed_j2 a0   = Kb5 (Sum.inl ())) (hret : ∀ e : Bool, some e = Kb5 (Sum.inr e)) : ∀ (n5 : Nat) (s3_6 : Nat), (0 < n5 ∧ a0.FItems.l.length < s3_6 + n5) → r06_closed_l5 a0 k_rec_66 n5 s3_6 = Option.bind (r06_closed_q5 k_rec_66 (a0.FItems.l.drop s3_6) ) Kb5 := by
 intro n5
 induction n5 with
 | zero => intro s3_6 hn; exact absurd hn.1 (by omega)
 | succ n5 ih5 =>
  intro s3_6 hn
  rw [r06_closed_l5]
  by_cases hlt : s3_6 < a0.FItems.l.length
  ·obtain ⟨h5, hh5⟩ : ∃ x, a0.FItems.l[s3_6]? = some x := ⟨_, List.getElem?_eq_getElem hlt⟩
   rw [Q.drop_of hh5, r06_closed_q5]
   refine Q.condT (Q.ltT hlt) ?_
   refine Q.bindPO hh5 fun x13 hx_x13 => ?_
   refine Q.bindO rfl fun x14 => ?_
   refine Q.condO ?_ ?_
   ·all_goals exact hret _
   ·all_goals exact ih5 _ ⟨by omega, by omega⟩
  ·rw [List.drop_of_length_le (by omega), r06_closed_q5]
   refine Q.condF (Q.ltF hlt) ?_
   exact hend n5 s3_6
def r06_closed_qn : Nat → TValue → Option Bool
 | 0, _ => none
 | n + 1, a0 => Option.bind (r06_closed_q5 (r06_closed_qn n) a0.FItems.l ) fun o5 => match o5 with | Sum.inl _ => (on (()) fun _ => some (!decide (a0.FKind = (7 : Int)))) | Sum.inr e5 => (some e5)
theorem r06_closed_qall : ∀ n : Nat, r06_closed_n n = r06_closed_qn n := by
 intro n
 induction n with
 | zero => exact (by funext a0; first | rfl | (rw [r06_closed_n, r06_closed_qn]))
 | succ n ih =>
  funext a0
  refine Eq.trans ?_ (Q.some_bind _)
  rw [r06_closed_n, r06_closed_qn]
  try rw [ih]
  refine Q.wrapOO fun Kb5 hKb5 => ?_
  refine r06_closed_l5_qe  Kb5 ?_ ?_ _ _ ⟨Nat.succ_pos _, by omega⟩
  ·intro n5 s3_6
   refine Eq.trans ?_ (hKb5 _).symm
   try dsimp only
   refine Q.wrapPO fun Kj2 hKj2 => ?_
   have hj2 : r06_closed_j2 a0  = Kj2 () := by
    refine Eq.trans ?_ (hKj2 _).symm
    try dsimp only
    unfold r06_closed_j2
    all_goals rfl
   all_goals exact hj2
  ·intro e5
   refine Eq.trans ?_ (hKb5 _).symm
   try dsimp only
   all_goals rfl
def r06_closed_q (a0 : TValue) : Option Bool := r06_closed_qn F0 a0
theorem r06_closed_eq (a0 : TValue) : r06_closed a0 = r06_closed_q a0 := by
 unfold r06_closed r06_closed_q; rw [(r06_closed_qall F0)]
def r06_dirsRight_q25 (h10 : TDir) : List TArg → Option (Unit ⊕ Bool)
 | [] => some (Sum.inl ())
 | h25 :: r25 => on (h10) fun x34 => on (h25) fun x35 => on (r01_Name_q x35.FName) fun x37 => guardO (!(!x37)) (r02_Literal_q x35.FValue) false fun x38 => guardO (!((!x37) || (!x38))) (r06_closed_q x35.FValue) false fun x39 => bif (((!x37) || (!x38)) || (!x39)) then (some (Sum.inr false)) else (r06_dirsRight_q25 h10 (r25) )
theorem r06_dirsRight_l25_qe {a0 : (Sl TDir)} {n10 : Nat} {s3_11 : Nat} {x19 : TDir} {x20 : Bool} {x21 : TDir} {k_next_10 : Nat → Option Bool} {h10 : TDir} (hh10 : a0.l[s3_11]? = some h10) (Kb25 : (Unit ⊕ Bool) → Option Bool) (hend : ∀ (n25 : Nat) (s4_26 : Nat), r06_dirsRight_j16 a0 n10 s3_11 k_next_10  = Kb25 (Sum.inl ())) (hret : ∀ e : Bool, some e = Kb25 (Sum.inr e)) : ∀ (n25 : Nat) (s4_26 : Nat), (0 < n25 ∧ h10.FArgs.l.length < s4_26 + n25) → r06_dirsRight_l25 a0 n10 s3_11 x19 x20 x21 k_next_10 n25 s4_26 = Option.bind (r06_dirsRight_q25 h10 (h10.FArgs.l.drop s4_26) ) Kb25 := by
 intro n25
 induction n25 with
 | zero => intro s4_26 hn; exact absurd hn.1 (by omega)
 | succ n25 ih25 =>
  intro s4_26 hn
  rw [r06_dirsRight_l25]
  refine Q.preB hh10 fun x29 hx_x29 => ?_
  subst hx_x29
  by_cases hlt : s4_26 < x29.FArgs.l.length
  ·obtain ⟨h25, hh25⟩ : ∃ x, x29.FArgs.l[s4_26]? = some x := ⟨_, List.getElem?_eq_getElem hlt⟩
   rw [Q.drop_of hh25, r06_dirsRight_q25]
   refine Q.condT (Q.ltT hlt) ?_
   refine Q.bindPO hh10 fun x34 hx_x34 => ?_
   refine Q.bindPO (by first | exact hh25 | (simp only [hx_x34]; exact hh25) | (simp only [hx_x34] at hh25 ⊢; exact hh25)) fun x35 hx_x35 => ?_
   refine Q.bindPO (r01_Name_eq _) fun x37 hx_x37 => ?_
   refine Q.guardOO (r02_Literal_eq _) fun x38 => ?_
   refine Q.guardOO (r06_closed_eq _) fun x39 => ?_
   refine Q.condO ?_ ?_
   ·all_goals exact hret _
   ·all_goals exact ih25 _ ⟨by omega, by omega⟩
  ·rw [List.drop_of_length_le (by omega), r06_dirsRight_q25]
   refine Q.condF (Q.ltF hlt) ?_
   exact hend n25 s4_26
def r06_dirsRight_q10  : List TDir → Option (Unit ⊕ Bool)
 | [] => some (Sum.inl ())
 | h10 :: r10 => on (h10) fun x19 => on (r01_Name_q x19.FName) fun x20 => on (bif !(!x20) then h10 else TDir.zero) fun x21 => bif ((!x20) || (decide ((16 : Int) < ((x21.FArgs.l.length : Nat) : Int)))) then (some (Sum.inr false)) else (Option.bind (r06_dirsRight_q25 h10 h10.FArgs.l ) fun o25 => match o25 with | Sum.inl _ => (on (()) fun _ => r06_dirsRight_q10  (r10) ) | Sum.inr e25 => (some (Sum.inr e25)))
theorem r06_dirsRight_l10_qe {a0 : (Sl TDir)}  (Kb10 : (Unit ⊕ Bool) → Option Bool) (hend : ∀ (n10 : Nat) (s3_11 : Nat), r06_dirsRight_j7 a0   = Kb10 (Sum.inl ())) (hret : ∀ e : Bool, some e = Kb10 (Sum.inr e)) : ∀ (n10 : Nat) (s3_11 : Nat), (0 < n10 ∧ a0.l.length < s3_11 + n10) → r06_dirsRight_l10 a0 n10 s3_11 = Option.bind (r06_dirsRight_q10  (a0.l.drop s3_11) ) Kb10 := by
 intro n10
 induction n10 with
 | zero => intro s3_11 hn; exact absurd hn.1 (by omega)
 | succ n10 ih10 =>
  intro s3_11 hn
  rw [r06_dirsRight_l10]
  by_cases hlt : s3_11 < a0.l.length
  ·obtain ⟨h10, hh10⟩ : ∃ x, a0.l[s3_11]? = some x := ⟨_, List.getElem?_eq_getElem hlt⟩
   rw [Q.drop_of hh10, r06_dirsRight_q10]
   refine Q.condT (Q.ltT hlt) ?_
   refine Q.bindPO hh10 fun x19 hx_x19 => ?_
   refine Q.bindPO (r01_Name_eq _) fun x20 hx_x20 => ?_
   refine Q.guardPO hh10 fun x21 hx_x21 => ?_
   refine Q.condO ?_ ?_
   ·all_goals exact hret _
   ·refine Q.wrapOO fun Kb25 hKb25 => ?_
    refine r06_dirsRight_l25_qe hh10 Kb25 ?_ ?_ _ _ ⟨by rw [hh10]; exact Nat.succ_pos _, by rw [hh10]; simp only [Option.elim]; omega⟩
    ·intro n25 s4_26
     refine Eq.trans ?_ (hKb25 _).symm
     try dsimp only
     refine Q.wrapPO fun Kj16 hKj16 => ?_
     have hj16 : r06_dirsRight_j16 a0 n10 s3_11 (r06_dirsRight_l10 a0 n10)  = Kj16 () := by
      refine Eq.trans ?_ (hKj16 _).symm
      try dsimp only
      unfold r06_dirsRight_j16
      all_goals exact ih10 _ ⟨by omega, by omega⟩
     all_goals exact hj16
    ·intro e25
     refine Eq.trans ?_ (hKb25 _).symm
     try dsimp only
     all_goals exact hret _
  ·rw [List.drop_of_length_le (by omega), r06_dirsRight_q10]
   refine Q.condF (Q.ltF hlt) ?_
   exact hend n10 s3_11
def r06_dirsRight_q (a0 : (Sl TDir)) : Option Bool := bif (decide ((16 : Int) < ((a0.l.length : Nat) : Int))) then (some false) else (Option.bind (r06_dirsRight_q10  a0.l ) fun o10 => match o10 with | Sum.inl _ => (on (()) fun _ => some true) | Sum.inr e10 => (some e10))
theorem r06_dirsRight_eq (a0 : (Sl TDir)) : r06_dirsRight a0 = r06_dirsRight_q a0 := by
 unfold r06_dirsRight r06_dirsRight_q
 refine Eq.trans ?_ (Q.some_bind _)
 refine Q.condO ?_ ?_
 ·all_goals rfl
 ·refine Q.wrapOO fun Kb10 hKb10 => ?_
  refine r06_dirsRight_l10_qe  Kb10 ?_ ?_ _ _ ⟨Nat.succ_pos _, by omega⟩
  ·intro n10 s3_11
   refine Eq.trans ?_ (hKb10 _).symm
   try dsimp only
   refine Q.wrapPO fun Kj7 hKj7 => ?_
   have hj7 : r06_dirsRight_j7 a0  = Kj7 () := by
    refine Eq.trans ?_ (hKj7 _).symm
    try dsimp only
    unfold r06_dirsRight_j7
    all_goals rfl
   all_goals exact hj7
  ·intro e10
   refine Eq.trans ?_ (hKb10 _).symm
   try dsimp only
   all_goals rfl
def r05_Right_q10 (a0 : TRef) : List Int → Nat → Option (Unit ⊕ Bool)
 | [], s3_11 => some (Sum.inl ())
 | h10 :: r10, s3_11 => on (h10) fun x19 => on (bif (!decide (x19 = (1 : Int))) then h10 else (0 : Int)) fun x20 => bif ((!decide (x19 = (1 : Int))) && (!decide (x20 = (2 : Int)))) then (some (Sum.inr false)) else (on (bif (decide ((0 : Int) < ((s3_11 : Nat) : Int))) then h10 else (0 : Int)) fun x24 => guardO (((decide ((0 : Int) < ((s3_11 : Nat) : Int))) && (decide (x24 = (1 : Int))))) (subC ((s3_11 : Nat) : Int) (1 : Int)) (0 : Int) fun x25 => guardO (((decide ((0 : Int) < ((s3_11 : Nat) : Int))) && (decide (x24 = (1 : Int))))) (idxC a0.FWraps.l x25) (0 : Int) fun x26 => bif (((decide ((0 : Int) < ((s3_11 : Nat) : Int))) && (decide (x24 = (1 : Int)))) && (decide (x26 = (1 : Int)))) then (some (Sum.inr false)) else (r05_Right_q10 a0 (r10) (s3_11 + 1) ))
theorem r05_Right_l10_qe {a0 : TRef} {x4 : Bool}  (Kb10 : (Unit ⊕ Bool) → Option Bool) (hend : ∀ (n10 : Nat) (s3_11 : Nat), r05_Right_j7 a0 x4   = Kb10 (Sum.inl ())) (hret : ∀ e : Bool, some e = Kb10 (Sum.inr e)) : ∀ (n10 : Nat) (s3_11 : Nat), (0 < n10 ∧ a0.FWraps.l.length < s3_11 + n10) → r05_Right_l10 a0 x4 n10 s3_11 = Option.bind (r05_Right_q10 a0 (a0.FWraps.l.drop s3_11) s3_11 ) Kb10 := by
 intro n10
 induction n10 with
 | zero => intro s3_11 hn; exact absurd hn.1 (by omega)
 | succ n10 ih10 =>
  intro s3_11 hn
  rw [r05_Right_l10]
  by_cases hlt : s3_11 < a0.FWraps.l.length
  ·obtain ⟨h10, hh10⟩ : ∃ x, a0.FWraps.l[s3_11]? = some x := ⟨_, List.getElem?_eq_getElem hlt⟩
   rw [Q.drop_of hh10, r05_Right_q10]
   refine Q.condT (Q.ltT hlt) ?_
   refine Q.bindPO hh10 fun x19 hx_x19 => ?_
   refine Q.guardPO hh10 fun x20 hx_x20 => ?_
   refine Q.condO ?_ ?_
   ·all_goals exact hret _
   ·refine Q.guardPO hh10 fun x24 hx_x24 => ?_
    refine Q.guardOO rfl fun x25 => ?_
    refine Q.guardOO rfl fun x26 => ?_
    refine Q.condO ?_ ?_
    ·all_goals exact hret _
    ·all_goals exact ih10 _ ⟨by omega, by omega⟩
  ·rw [List.drop_of_length_le (by omega), r05_Right_q10]
   refine Q.condF (Q.ltF hlt) ?_
   exact hend n10 s3_11
def r05_Right_q (a0 : TRef) : Option Bool := on (r01_Name_q a0.FName) fun x4 => bif ((!x4) || (decide ((24 : Int) < ((a0.FWraps.l.length : Nat) : Int)))) then (some false) else (Option.bind (r05_Right_q10 a0 a0.FWraps.l 0 ) fun o10 => match o10 with | Sum.inl _ => (on (()) fun _ => some true) | Sum.inr e10 => (some e10))
theorem r05_Right_eq (a0 : TRef) : r05_Right a0 = r05_Right_q a0 := by
 unfold r05_Right r05_Right_q
 refine Eq.trans ?_ (Q.some_bind _)
 refine Q.bindPO (r01_Name_eq _) fun x4 hx_x4 => ?_
 refine Q.condO ?_ ?_
 ·all_goals rfl
 ·refine Q.wrapOO fun Kb10 hKb10 => ?_
  refine r05_Right_l10_qe  Kb10 ?_ ?_ _ _ ⟨Nat.succ_pos _, by omega⟩
  ·intro n10 s3_11
   refine Eq.trans ?_ (hKb10 _).symm
   try dsimp only
   refine Q.wrapPO fun Kj7 hKj7 => ?_
   have hj7 : r05_Right_j7 a0 x4  = Kj7 () := by
    refine Eq.trans ?_ (hKj7 _).symm
    try dsimp only
    unfold r05_Right_j7
    all_goals rfl
   all_goals exact hj7
  ·intro e10
   refine Eq.trans ?_ (hKb10 _).symm
   try dsimp only
   all_goals rfl
def r06_null_q (a0 : TValue) : Bool := (((((decide (a0.FKind = (0 : Int))) && (decide (a0.FInt = (0 : Int)))) && ((a0.FText == ([] : Bs)))) && (decide (((a0.FItems.l.length : Nat) : Int) = (0 : Int)))) && (decide (((a0.FKeys.l.length : Nat) : Int) = (0 : Int))))
theorem r06_null_eq (a0 : TValue) : r06_null a0 = some (r06_null_q a0) := by
 unfold r06_null r06_null_q
 all_goals rfl
def r06_inputsRight_q10  : List TInput → Option (Unit ⊕ Bool)
 | [] => some (Sum.inl ())
 | h10 :: r10 => on (h10) fun x18 => on (r01_Name_q x18.FName) fun x21 => guardO (!(!x21)) (r05_Right_q x18.FType) false fun x22 => guardO (!((!x21) || (!x22))) (r06_dirsRight_q x18.FDirs) false fun x23 => bif (((!x21) || (!x22)) || (!x23)) then (some (Sum.inr false)) else (guardO (x18.FHas) (r02_Literal_q x18.FDefault) false fun x27 => guardO ((x18.FHas && !(!x27))) (r06_closed_q x18.FDefault) false fun x28 => on (bif (!(x18.FHas && ((!x27) || (!x28))) && (!x18.FHas)) then r06_null_q x18.FDefault else false) fun x29 => bif ((x18.FHas && ((!x27) || (!x28))) || ((!x18.FHas) && (!x29))) then (some (Sum.inr false)) else (r06_inputsRight_q10  (r10) ))
theorem r06_inputsRight_l10_qe {a0 : (Sl TInput)}  (Kb10 : (Unit ⊕ Bool) → Option Bool) (hend : ∀ (n10 : Nat) (s3_11 : Nat), r06_inputsRight_j7 a0   = Kb10 (Sum.inl ())) (hret : ∀ e : Bool, some e = Kb10 (Sum.inr e)) : ∀ (n10 : Nat) (s3_11 : Nat), (0 < n10 ∧ a0.l.length < s3_11 + n10) → r06_inputsRight_l10 a0 n10 s3_11 = Option.bind (r06_inputsRight_q10  (a0.l.drop s3_11) ) Kb10 := by
 intro n10
 induction n10 with
 | zero => intro s3_11 hn; exact absurd hn.1 (by omega)
 | succ n10 ih10 =>
  intro s3_11 hn
  rw [r06_inputsRight_l10]
  by_cases hlt : s3_11 < a0.l.length
  ·obtain ⟨h10, hh10⟩ : ∃ x, a0.l[s3_11]? = some x := ⟨_, List.getElem?_eq_getElem hlt⟩
   rw [Q.drop_of hh10, r06_inputsRight_q10]
   refine Q.condT (Q.ltT hlt) ?_
   refine Q.bindPO hh10 fun x18 hx_x18 => ?_
   refine Q.bindPO (r01_Name_eq _) fun x21 hx_x21 => ?_
   refine Q.guardOO (r05_Right_eq _) fun x22 => ?_
   refine Q.guardOO (r06_dirsRight_eq _) fun x23 => ?_
   refine Q.condO ?_ ?_
   ·all_goals exact hret _
   ·refine Q.guardOO (r02_Literal_eq _) fun x27 => ?_
    refine Q.guardOO (r06_closed_eq _) fun x28 => ?_
    refine Q.guardPO (r06_null_eq _) fun x29 hx_x29 => ?_
    refine Q.condO ?_ ?_
    ·all_goals exact hret _
    ·all_goals exact ih10 _ ⟨by omega, by omega⟩
  ·rw [List.drop_of_length_le (by omega), r06_inputsRight_q10]
   refine Q.condF (Q.ltF hlt) ?_
   exact hend n10 s3_11
def r06_inputsRight_q (a0 : (Sl TInput)) : Option Bool := bif (decide ((16 : Int) < ((a0.l.length : Nat) : Int))) then (some false) else (Option.bind (r06_inputsRight_q10  a0.l ) fun o10 => match o10 with | Sum.inl _ => (on (()) fun _ => some true) | Sum.inr e10 => (some e10))
theorem r06_inputsRight_eq (a0 : (Sl TInput)) : r06_inputsRight a0 = r06_inputsRight_q a0 := by
 unfold r06_inputsRight r06_inputsRight_q
 refine Eq.trans ?_ (Q.some_bind _)
 refine Q.condO ?_ ?_
 ·all_goals rfl
 ·refine Q.wrapOO fun Kb10 hKb10 => ?_
  refine r06_inputsRight_l10_qe  Kb10 ?_ ?_ _ _ ⟨Nat.succ_pos _, by omega⟩
  ·intro n10 s3_11
   refine Eq.trans ?_ (hKb10 _).symm
   try dsimp only
   refine Q.wrapPO fun Kj7 hKj7 => ?_
   have hj7 : r06_inputsRight_j7 a0  = Kj7 () := by
    refine Eq.trans ?_ (hKj7 _).symm
    try dsimp only
    unfold r06_inputsRight_j7
    all_goals rfl
   all_goals exact hj7
  ·intro e10
   refine Eq.trans ?_ (hKb10 _).symm
   try dsimp only
   all_goals rfl
def r06_fieldsRight_q10  : List TField → Option (Unit ⊕ Bool)
 | [] => some (Sum.inl ())
 | h10 :: r10 => on (h10) fun x18 => on (r01_Name_q x18.FName) fun x19 => on (bif !(!x19) then h10 else TField.zero) fun x20 => guardO (!(!x19)) (r06_inputsRight_q x20.FArgs) false fun x21 => on (bif !((!x19) || (!x21)) then h10 else TField.zero) fun x22 => guardO (!((!x19) || (!x21))) (r05_Right_q x22.FType) false fun x23 => on (bif !(((!x19) || (!x21)) || (!x23)) then h10 else TField.zero) fun x24 => guardO (!(((!x19) || (!x21)) || (!x23))) (r06_dirsRight_q x24.FDirs) false fun x25 => bif ((((!x19) || (!x21)) || (!x23)) || (!x25)) then (some (Sum.inr false)) else (r06_fieldsRight_q10  (r10) )
theorem r06_fieldsRight_l10_qe {a0 : (Sl TField)}  (Kb10 : (Unit ⊕ Bool) → Option Bool) (hend : ∀ (n10 : Nat) (s3_11 : Nat), r06_fieldsRight_j7 a0   = Kb10 (Sum.inl ())) (hret : ∀ e : Bool, some e = Kb10 (Sum.inr e)) : ∀ (n10 : Nat) (s3_11 : Nat), (0 < n10 ∧ a0.l.length < s3_11 + n10) → r06_fieldsRight_l10 a0 n10 s3_11 = Option.bind (r06_fieldsRight_q10  (a0.l.drop s3_11) ) Kb10 := by
 intro n10
 induction n10 with
 | zero => intro s3_11 hn; exact absurd hn.1 (by omega)
 | succ n10 ih10 =>
  intro s3_11 hn
  rw [r06_fieldsRight_l10]
  by_cases hlt : s3_11 < a0.l.length
  ·obtain ⟨h10, hh10⟩ : ∃ x, a0.l[s3_11]? = some x := ⟨_, List.getElem?_eq_getElem hlt⟩
   rw [Q.drop_of hh10, r06_fieldsRight_q10]
   refine Q.condT (Q.ltT hlt) ?_
   refine Q.bindPO hh10 fun x18 hx_x18 => ?_
   refine Q.bindPO (r01_Name_eq _) fun x19 hx_x19 => ?_
   refine Q.guardPO hh10 fun x20 hx_x20 => ?_
   refine Q.guardOO (r06_inputsRight_eq _) fun x21 => ?_
   refine Q.guardPO hh10 fun x22 hx_x22 => ?_
   refine Q.guardOO (r05_Right_eq _) fun x23 => ?_
   refine Q.guardPO hh10 fun x24 hx_x24 => ?_
   refine Q.guardOO (r06_dirsRight_eq _) fun x25 => ?_
   refine Q.condO ?_ ?_
   ·all_goals exact hret _
   ·all_goals exact ih10 _ ⟨by omega, by omega⟩
  ·rw [List.drop_of_length_le (by omega), r06_fieldsRight_q10]
   refine Q.condF (Q.ltF hlt) ?_
   exact hend n10 s3_11
def r06_fieldsRight_q (a0 : (Sl TField)) : Option Bool := bif ((decide (((a0.l.length : Nat) : Int) < (1 : Int))) || (decide ((64 : Int) < ((a0.l.length : Nat) : Int)))) then (some false) else (Option.bind (r06_fieldsRight_q10  a0.l ) fun o10 => match o10 with | Sum.inl _ => (on (()) fun _ => some true) | Sum.inr e10 => (some e10))
theorem r06_fieldsRight_eq (a0 : (Sl TField)) : r06_fieldsRight a0 = r06_fieldsRight_q a0 := by
 unfold r06_fieldsRight r06_fieldsRight_q
 refine Eq.trans ?_ (Q.some_bind _)
 refine Q.condO ?_ ?_
 ·all_goals rfl
 ·refine Q.wrapOO fun Kb10 hKb10 => ?_
  refine r06_fieldsRight_l10_qe  Kb10 ?_ ?_ _ _ ⟨Nat.succ_pos _, by omega⟩
  ·intro n10 s3_11
   refine Eq.trans ?_ (hKb10 _).symm
   try dsimp only
   refine Q.wrapPO fun Kj7 hKj7 => ?_
   have hj7 : r06_fieldsRight_j7 a0  = Kj7 () := by
    refine Eq.trans ?_ (hKj7 _).symm
    try dsimp only
    unfold r06_fieldsRight_j7
    all_goals rfl
   all_goals exact hj7
  ·intro e10
   refine Eq.trans ?_ (hKb10 _).symm
   try dsimp only
   all_goals rfl
def r06_membersRight_q10 (a1 : Bool) : List TMember → Option (Unit ⊕ Bool)
 | [] => some (Sum.inl ())
 | h10 :: r10 => on (h10) fun x18 => on (r01_Name_q x18.FName) fun x19 => on (bif !(!x19) then h10 else TMember.zero) fun x20 => guardO (!(!x19)) (r06_dirsRight_q x20.FDirs) false fun x21 => on (bif (!((!x19) || (!x21)) && a1) then h10 else TMember.zero) fun x22 => bif (((!x19) || (!x21)) || (a1 && (decide ((0 : Int) < ((x22.FDirs.l.length : Nat) : Int))))) then (some (Sum.inr false)) else (r06_membersRight_q10 a1 (r10) )
theorem r06_membersRight_l10_qe {a0 : (Sl TMember)} {a1 : Bool}  (Kb10 : (Unit ⊕ Bool) → Option Bool) (hend : ∀ (n10 : Nat) (s5_11 : Nat), r06_membersRight_j7 a0 a1   = Kb10 (Sum.inl ())) (hret : ∀ e : Bool, some e = Kb10 (Sum.inr e)) : ∀ (n10 : Nat) (s5_11 : Nat), (0 < n10 ∧ a0.l.length < s5_11 + n10) → r06_membersRight_l10 a0 a1 n10 s5_11 = Option.bind (r06_membersRight_q10 a1 (a0.l.drop s5_11) ) Kb10 := by
 intro n10
 induction n10 with
 | zero => intro s5_11 hn; exact absurd hn.1 (by omega)
 | succ n10 ih10 =>
  intro s5_11 hn
  rw [r06_membersRight_l10]
  by_cases hlt : s5_11 < a0.l.length
  ·obtain ⟨h10, hh10⟩ : ∃ x, a0.l[s5_11]? = some x := ⟨_, List.getElem?_eq_getElem hlt⟩
   rw [Q.drop_of hh10, r06_membersRight_q10]
   refine Q.condT (Q.ltT hlt) ?_
   refine Q.bindPO hh10 fun x18 hx_x18 => ?_
   refine Q.bindPO (r01_Name_eq _) fun x19 hx_x19 => ?_
   refine Q.guardPO hh10 fun x20 hx_x20 => ?_
   refine Q.guardOO (r06_dirsRight_eq _) fun x21 => ?_
   refine Q.guardPO hh10 fun x22 hx_x22 => ?_
   refine Q.condO ?_ ?_
   ·all_goals exact hret _
   ·all_goals exact ih10 _ ⟨by omega, by omega⟩
  ·rw [List.drop_of_length_le (by omega), r06_membersRight_q10]
   refine Q.condF (Q.ltF hlt) ?_
   exact hend n10 s5_11
def r06_membersRight_q (a0 : (Sl TMember)) (a1 : Bool) : Option Bool := bif ((decide (((a0.l.length : Nat) : Int) < (1 : Int))) || (decide ((64 : Int) < ((a0.l.length : Nat) : Int)))) then (some false) else (Option.bind (r06_membersRight_q10 a1 a0.l ) fun o10 => match o10 with | Sum.inl _ => (on (()) fun _ => some true) | Sum.inr e10 => (some e10))
theorem r06_membersRight_eq (a0 : (Sl TMember)) (a1 : Bool) : r06_membersRight a0 a1 = r06_membersRight_q a0 a1 := by
 unfold r06_membersRight r06_membersRight_q
 refine Eq.trans ?_ (Q.some_bind _)
 refine Q.condO ?_ ?_
 ·all_goals rfl
 ·refine Q.wrapOO fun Kb10 hKb10 => ?_
  refine r06_membersRight_l10_qe  Kb10 ?_ ?_ _ _ ⟨Nat.succ_pos _, by omega⟩
  ·intro n10 s5_11
   refine Eq.trans ?_ (hKb10 _).symm
   try dsimp only
   refine Q.wrapPO fun Kj7 hKj7 => ?_
   have hj7 : r06_membersRight_j7 a0 a1  = Kj7 () := by
    refine Eq.trans ?_ (hKj7 _).symm
    try dsimp only
    unfold r06_membersRight_j7
    all_goals rfl
   all_goals exact hj7
  ·intro e10
   refine Eq.trans ?_ (hKb10 _).symm
   try dsimp only
   all_goals rfl
def r06_defRight_q34  : List Bs → Unit ⊕ Bool
 | [] => Sum.inl ()
 | h34 :: r34 => on (h34) fun x42 => on (r01_Name_q x42) fun x43 => bif (!x43) then (Sum.inr false) else (r06_defRight_q34  (r34) )
theorem r06_defRight_l34_qe {a0 : TDef} {x4 : Bool} {x5 : Bool}  (Kb34 : (Unit ⊕ Bool) → Option Bool) (hend : ∀ (n34 : Nat) (s3_35 : Nat), r06_defRight_j8 a0 x4 x5   = Kb34 (Sum.inl ())) (hret : ∀ e : Bool, some e = Kb34 (Sum.inr e)) : ∀ (n34 : Nat) (s3_35 : Nat), (0 < n34 ∧ a0.FImplements.l.length < s3_35 + n34) → r06_defRight_l34 a0 x4 x5 n34 s3_35 = Kb34 (r06_defRight_q34  (a0.FImplements.l.drop s3_35) ) := by
 intro n34
 induction n34 with
 | zero => intro s3_35 hn; exact absurd hn.1 (by omega)
 | succ n34 ih34 =>
  intro s3_35 hn
  rw [r06_defRight_l34]
  by_cases hlt : s3_35 < a0.FImplements.l.length
  ·obtain ⟨h34, hh34⟩ : ∃ x, a0.FImplements.l[s3_35]? = some x := ⟨_, List.getElem?_eq_getElem hlt⟩
   rw [Q.drop_of hh34, r06_defRight_q34]
   refine Q.condT (Q.ltT hlt) ?_
   refine Q.bindP hh34 fun x42 hx_x42 => ?_
   refine Q.bindP (r01_Name_eq _) fun x43 hx_x43 => ?_
   refine Q.condP ?_ ?_
   ·all_goals exact hret _
   ·all_goals exact ih34 _ ⟨by omega, by omega⟩
  ·rw [List.drop_of_length_le (by omega), r06_defRight_q34]
   refine Q.condF (Q.ltF hlt) ?_
   exact hend n34 s3_35
def r06_defRight_q (a0 : TDef) : Option Bool := on (r01_Name_q a0.FName) fun x4 => guardO (!(!x4)) (r06_dirsRight_q a0.FDirs) false fun x5 => bif (((!x4) || (!x5)) || (decide ((64 : Int) < ((a0.FImplements.l.length : Nat) : Int)))) then (some false) else (on (r06_defRight_q34  a0.FImplements.l ) fun o34 => match o34 with | Sum.inl _ => (on (()) fun _ => bif (decide (a0.FKind = (1 : Int))) then ((r06_fieldsRight_q a0.FFields).bind fun x15 => some ((x15 && (decide (((a0.FMembers.l.length : Nat) : Int) = (0 : Int)))) && (decide (((a0.FInputs.l.length : Nat) : Int) = (0 : Int))))) else (bif (decide (a0.FKind = (2 : Int))) then (guardO ((decide (((a0.FImplements.l.length : Nat) : Int) = (0 : Int)))) (r06_fieldsRight_q a0.FFields) false fun x19 => some ((((decide (((a0.FImplements.l.length : Nat) : Int) = (0 : Int))) && x19) && (decide (((a0.FMembers.l.length : Nat) : Int) = (0 : Int)))) && (decide (((a0.FInputs.l.length : Nat) : Int) = (0 : Int))))) else (bif (decide (a0.FKind = (3 : Int))) then (guardO (((decide (((a0.FImplements.l.length : Nat) : Int) = (0 : Int))) && (decide (((a0.FFields.l.length : Nat) : Int) = (0 : Int))))) (r06_membersRight_q a0.FMembers true) false fun x23 => some ((((decide (((a0.FImplements.l.length : Nat) : Int) = (0 : Int))) && (decide (((a0.FFields.l.length : Nat) : Int) = (0 : Int)))) && x23) && (decide (((a0.FInputs.l.length : Nat) : Int) = (0 : Int))))) else (bif (decide (a0.FKind = (4 : Int))) then (guardO (((decide (((a0.FImplements.l.length : Nat) : Int) = (0 : Int))) && (decide (((a0.FFields.l.length : Nat) : Int) = (0 : Int))))) (r06_membersRight_q a0.FMembers false) false fun x27 => some ((((decide (((a0.FImplements.l.length : Nat) : Int) = (0 : Int))) && (decide (((a0.FFields.l.length : Nat) : Int) = (0 : Int)))) && x27) && (decide (((a0.FInputs.l.length : Nat) : Int) = (0 : Int))))) else (bif (decide (a0.FKind = (5 : Int))) then (guardO (((((decide (((a0.FImplements.l.length : Nat) : Int) = (0 : Int))) && (decide (((a0.FFields.l.length : Nat) : Int) = (0 : Int)))) && (decide (((a0.FMembers.l.length : Nat) : Int) = (0 : Int)))) && (decide ((0 : Int) < ((a0.FInputs.l.length : Nat) : Int))))) (r06_inputsRight_q a0.FInputs) false fun x31 => some (((((decide (((a0.FImplements.l.length : Nat) : Int) = (0 : Int))) && (decide (((a0.FFields.l.length : Nat) : Int) = (0 : Int)))) && (decide (((a0.FMembers.l.length : Nat) : Int) = (0 : Int)))) && (decide ((0 : Int) < ((a0.FInputs.l.length : Nat) : Int)))) && x31)) else (some false)))))) | Sum.inr e34 => (some e34))
theorem r06_defRight_eq (a0 : TDef) : r06_defRight a0 = r06_defRight_q a0 := by
 unfold r06_defRight r06_defRight_q
 refine Eq.trans ?_ (Q.some_bind _)
 refine Q.bindPO (r01_Name_eq _) fun x4 hx_x4 => ?_
 refine Q.guardOO (r06_dirsRight_eq _) fun x5 => ?_
 refine Q.condO ?_ ?_
 ·all_goals rfl
 ·refine Q.wrapPO fun Kb34 hKb34 => ?_
  refine r06_defRight_l34_qe  Kb34 ?_ ?_ _ _ ⟨Nat.succ_pos _, by omega⟩
  ·intro n34 s3_35
   refine Eq.trans ?_ (hKb34 _).symm
   try dsimp only
   refine Q.wrapPO fun Kj8 hKj8 => ?_
   have hj8 : r06_defRight_j8 a0 x4 x5  = Kj8 () := by
    refine Eq.trans ?_ (hKj8 _).symm
    try dsimp only
    unfold r06_defRight_j8
    refine Q.condO ?_ ?_
    ·refine Q.bindO (r06_fieldsRight_eq _) fun x15 => ?_
     all_goals rfl
    ·refine Q.condO ?_ ?_
     ·refine Q.guardOO (r06_fieldsRight_eq _) fun x19 => ?_
      all_goals rfl
     ·refine Q.condO ?_ ?_
      ·refine Q.guardOO (r06_membersRight_eq _ _) fun x23 => ?_
       all_goals rfl
      ·refine Q.condO ?_ ?_
       ·refine Q.guardOO (r06_membersRight_eq _ _) fun x27 => ?_
        all_goals rfl
       ·refine Q.condO ?_ ?_
        ·refine Q.guardOO (r06_inputsRight_eq _) fun x31 => ?_
         all_goals rfl
        ·all_goals rfl
   all_goals exact hj8
  ·intro e34
   refine Eq.trans ?_ (hKb34 _).symm
   try dsimp only
   all_goals rfl
def r06_Right_q10  : List TDef → Option (Unit ⊕ Bool)
 | [] => some (Sum.inl ())
 | h10 :: r10 => on (h10) fun x18 => (r06_defRight_q x18).bind fun x19 => bif (!x19) then (some (Sum.inr false)) else (r06_Right_q10  (r10) )
theorem r06_Right_l10_qe {a0 : TDoc}  (Kb10 : (Unit ⊕ Bool) → Option Bool) (hend : ∀ (n10 : Nat) (s3_11 : Nat), r06_Right_j7 a0   = Kb10 (Sum.inl ())) (hret : ∀ e : Bool, some e = Kb10 (Sum.inr e)) : ∀ (n10 : Nat) (s3_11 : Nat), (0 < n10 ∧ a0.FDefs.l.length < s3_11 + n10) → r06_Right_l10 a0 n10 s3_11 = Option.bind (r06_Right_q10  (a0.FDefs.l.drop s3_11) ) Kb10 := by
 intro n10
 induction n10 with
 | zero => intro s3_11 hn; exact absurd hn.1 (by omega)
 | succ n10 ih10 =>
  intro s3_11 hn
  rw [r06_Right_l10]
  by_cases hlt : s3_11 < a0.FDefs.l.length
  ·obtain ⟨h10, hh10⟩ : ∃ x, a0.FDefs.l[s3_11]? = some x := ⟨_, List.getElem?_eq_getElem hlt⟩
   rw [Q.drop_of hh10, r06_Right_q10]
   refine Q.condT (Q.ltT hlt) ?_
   refine Q.bindPO hh10 fun x18 hx_x18 => ?_
   refine Q.bindO (r06_defRight_eq _) fun x19 => ?_
   refine Q.condO ?_ ?_
   ·all_goals exact hret _
   ·all_goals exact ih10 _ ⟨by omega, by omega⟩
  ·rw [List.drop_of_length_le (by omega), r06_Right_q10]
   refine Q.condF (Q.ltF hlt) ?_
   exact hend n10 s3_11
def r06_Right_q (a0 : TDoc) : Option Bool := bif ((decide (((a0.FDefs.l.length : Nat) : Int) < (1 : Int))) || (decide ((64 : Int) < ((a0.FDefs.l.length : Nat) : Int)))) then (some false) else (Option.bind (r06_Right_q10  a0.FDefs.l ) fun o10 => match o10 with | Sum.inl _ => (on (()) fun _ => some true) | Sum.inr e10 => (some e10))
theorem r06_Right_eq (a0 : TDoc) : r06_Right a0 = r06_Right_q a0 := by
 unfold r06_Right r06_Right_q
 refine Eq.trans ?_ (Q.some_bind _)
 refine Q.condO ?_ ?_
 ·all_goals rfl
 ·refine Q.wrapOO fun Kb10 hKb10 => ?_
  refine r06_Right_l10_qe  Kb10 ?_ ?_ _ _ ⟨Nat.succ_pos _, by omega⟩
  ·intro n10 s3_11
   refine Eq.trans ?_ (hKb10 _).symm
   try dsimp only
   refine Q.wrapPO fun Kj7 hKj7 => ?_
   have hj7 : r06_Right_j7 a0  = Kj7 () := by
    refine Eq.trans ?_ (hKj7 _).symm
    try dsimp only
    unfold r06_Right_j7
    all_goals rfl
   all_goals exact hj7
  ·intro e10
   refine Eq.trans ?_ (hKb10 _).symm
   try dsimp only
   all_goals rfl
def r08_constant_q5 (k_rec_56 : TValue → Option Bool) : List TValue → Option (Unit ⊕ Bool)
 | [] => some (Sum.inl ())
 | h5 :: r5 => on (h5) fun x13 => (k_rec_56 x13).bind fun x14 => bif (!x14) then (some (Sum.inr false)) else (r08_constant_q5 k_rec_56 (r5) )
theorem r08_constant_l5_qe {a0 : TValue} {k_rec_56 : TValue → Option Bool}  (Kb5 : (Unit ⊕ Bool) → Option Bool) (hend : ∀ (n5 : Nat) (s3_6 : Nat), r08_constant_j2 a0   = Kb5 (Sum.inl ())) (hret : ∀ e : Bool, some e = Kb5 (Sum.inr e)) : ∀ (n5 : Nat) (s3_6 : Nat), (0 < n5 ∧ a0.FItems.l.length < s3_6 + n5) → r08_constant_l5 a0 k_rec_56 n5 s3_6 = Option.bind (r08_constant_q5 k_rec_56 (a0.FItems.l.drop s3_6) ) Kb5 := by
 intro n5
 induction n5 with
 | zero => intro s3_6 hn; exact absurd hn.1 (by omega)
 | succ n5 ih5 =>
  intro s3_6 hn
  rw [r08_constant_l5]
  by_cases hlt : s3_6 < a0.FItems.l.length
  ·obtain ⟨h5, hh5⟩ : ∃ x, a0.FItems.l[s3_6]? = some x := ⟨_, List.getElem?_eq_getElem hlt⟩
   rw [Q.drop_of hh5, r08_constant_q5]
   refine Q.condT (Q.ltT hlt) ?_
   refine Q.bindPO hh5 fun x13 hx_x13 => ?_
   refine Q.bindO rfl fun x14 => ?_
   refine Q.condO ?_ ?_
   ·all_goals exact hret _
   ·all_goals exact ih5 _ ⟨by omega, by omega⟩
  ·rw [List.drop_of_length_le (by omega), r08_constant_q5]
   refine Q.condF (Q.ltF hlt) ?_
   exact hend n5 s3_6
def r08_constant_qn : Nat → TValue → Option Bool
 | 0, _ => none
 | n + 1, a0 => Option.bind (r08_constant_q5 (r08_constant_qn n) a0.FItems.l ) fun o5 => match o5 with | Sum.inl _ => (on (()) fun _ => some (!decide (a0.FKind = (7 : Int)))) | Sum.inr e5 => (some e5)
theorem r08_constant_qall : ∀ n : Nat, r08_constant_n n = r08_constant_qn n := by
 intro n
 induction n with
 | zero => exact (by funext a0; first | rfl | (rw [r08_constant_n, r08_constant_qn]))
 | succ n ih =>
  funext a0
  refine Eq.trans ?_ (Q.some_bind _)
  rw [r08_constant_n, r08_constant_qn]
  try rw [ih]
  refine Q.wrapOO fun Kb5 hKb5 => ?_
  refine r08_constant_l5_qe  Kb5 ?_ ?_ _ _ ⟨Nat.succ_pos _, by omega⟩
  ·intro n5 s3_6
   refine Eq.trans ?_ (hKb5 _).symm
   try dsimp only
   refine Q.wrapPO fun Kj2 hKj2 => ?_
   have hj2 : r08_constant_j2 a0  = Kj2 () := by
    refine Eq.trans ?_ (hKj2 _).symm
    try dsimp only
    unfold r08_constant_j2
    all_goals rfl
   all_goals exact hj2
  ·intro e5
   refine Eq.trans ?_ (hKb5 _).symm
   try dsimp only
   all_goals rfl
def r08_constant_q (a0 : TValue) : Option Bool := r08_constant_qn F0 a0
theorem r08_constant_eq (a0 : TValue) : r08_constant a0 = r08_constant_q a0 := by
 unfold r08_constant r08_constant_q; rw [(r08_constant_qall F0)]
def r08_varsRight_q6  : List TVar → Option (Unit ⊕ Bool)
 | [] => some (Sum.inl ())
 | h6 :: r6 => on (h6) fun x14 => on (r01_Name_q x14.FName) fun x17 => guardO (!(!x17)) (r05_Right_q x14.FType) false fun x18 => guardO (!((!x17) || (!x18))) (r02_Literal_q x14.FDefault) false fun x19 => guardO (!(((!x17) || (!x18)) || (!x19))) (r08_constant_q x14.FDefault) false fun x20 => bif ((((!x17) || (!x18)) || (!x19)) || (!x20)) then (some (Sum.inr false)) else (bif ((!x14.FHas) && (!decide (x14.FDefault.FKind = (0 : Int)))) then (some (Sum.inr false)) else (r08_varsRight_q6  (r6) ))
theorem r08_varsRight_l6_qe {a0 : (Sl TVar)}  (Kb6 : (Unit ⊕ Bool) → Option Bool) (hend : ∀ (n6 : Nat) (s3_7 : Nat), r08_varsRight_j2 a0   = Kb6 (Sum.inl ())) (hret : ∀ e : Bool, some e = Kb6 (Sum.inr e)) : ∀ (n6 : Nat) (s3_7 : Nat), (0 < n6 ∧ a0.l.length < s3_7 + n6) → r08_varsRight_l6 a0 n6 s3_7 = Option.bind (r08_varsRight_q6  (a0.l.drop s3_7) ) Kb6 := by
 intro n6
 induction n6 with
 | zero => intro s3_7 hn; exact absurd hn.1 (by omega)
 | succ n6 ih6 =>
  intro s3_7 hn
  rw [r08_varsRight_l6]
  by_cases hlt : s3_7 < a0.l.length
  ·obtain ⟨h6, hh6⟩ : ∃ x, a0.l[s3_7]? = some x := ⟨_, List.getElem?_eq_getElem hlt⟩
   rw [Q.drop_of hh6, r08_varsRight_q6]
   refine Q.condT (Q.ltT hlt) ?_
   refine Q.bindPO hh6 fun x14 hx_x14 => ?_
   refine Q.bindPO (r01_Name_eq _) fun x17 hx_x17 => ?_
   refine Q.guardOO (r05_Right_eq _) fun x18 => ?_
   refine Q.guardOO (r02_Literal_eq _) fun x19 => ?_
   refine Q.guardOO (r08_constant_eq _) fun x20 => ?_
   refine Q.condO ?_ ?_
   ·all_goals exact hret _
   ·refine Q.condO ?_ ?_
    ·all_goals exact hret _
    ·all_goals exact ih6 _ ⟨by omega, by omega⟩
  ·rw [List.drop_of_length_le (by omega), r08_varsRight_q6]
   refine Q.condF (Q.ltF hlt) ?_
   exact hend n6 s3_7
def r08_varsRight_q (a0 : (Sl TVar)) : Option Bool := Option.bind (r08_varsRight_q6  a0.l ) fun o6 => match o6 with | Sum.inl _ => (on (()) fun _ => some (decide (((a0.l.length : Nat) : Int) ≤ (16 : Int)))) | Sum.inr e6 => (some e6)
theorem r08_varsRight_eq (a0 : (Sl TVar)) : r08_varsRight a0 = r08_varsRight_q a0 := by
 unfold r08_varsRight r08_varsRight_q
 refine Eq.trans ?_ (Q.some_bind _)
 refine Q.wrapOO fun Kb6 hKb6 => ?_
 refine r08_varsRight_l6_qe  Kb6 ?_ ?_ _ _ ⟨Nat.succ_pos _, by omega⟩
 ·intro n6 s3_7
  refine Eq.trans ?_ (hKb6 _).symm
  try dsimp only
  refine Q.wrapPO fun Kj2 hKj2 => ?_
  have hj2 : r08_varsRight_j2 a0  = Kj2 () := by
   refine Eq.trans ?_ (hKj2 _).symm
   try dsimp only
   unfold r08_varsRight_j2
   all_goals rfl
  all_goals exact hj2
 ·intro e6
  refine Eq.trans ?_ (hKb6 _).symm
  try dsimp only
  all_goals rfl
def r08_title_q (a0 : Bs) : Bool := on (r01_Name_q a0) fun x3 => (x3 && (!(a0 == ([111, 110] : Bs))))
theorem r08_title_eq (a0 : Bs) : r08_title a0 = some (r08_title_q a0) := by
 unfold r08_title r08_title_q
 refine Q.bindP (r01_Name_eq _) fun x3 hx_x3 => ?_
 all_goals rfl
def r08_argsRight_q6  : List TArg → Option (Unit ⊕ Bool)
 | [] => some (Sum.inl ())
 | h6 :: r6 => on (h6) fun x14 => on (r01_Name_q x14.FName) fun x15 => on (bif !(!x15) then h6 else TArg.zero) fun x16 => guardO (!(!x15)) (r02_Literal_q x16.FValue) false fun x17 => bif ((!x15) || (!x17)) then (some (Sum.inr false)) else (r08_argsRight_q6  (r6) )
theorem r08_argsRight_l6_qe {a0 : (Sl TArg)}  (Kb6 : (Unit ⊕ Bool) → Option Bool) (hend : ∀ (n6 : Nat) (s3_7 : Nat), r08_argsRight_j2 a0   = Kb6 (Sum.inl ())) (hret : ∀ e : Bool, some e = Kb6 (Sum.inr e)) : ∀ (n6 : Nat) (s3_7 : Nat), (0 < n6 ∧ a0.l.length < s3_7 + n6) → r08_argsRight_l6 a0 n6 s3_7 = Option.bind (r08_argsRight_q6  (a0.l.drop s3_7) ) Kb6 := by
 intro n6
 induction n6 with
 | zero => intro s3_7 hn; exact absurd hn.1 (by omega)
 | succ n6 ih6 =>
  intro s3_7 hn
  rw [r08_argsRight_l6]
  by_cases hlt : s3_7 < a0.l.length
  ·obtain ⟨h6, hh6⟩ : ∃ x, a0.l[s3_7]? = some x := ⟨_, List.getElem?_eq_getElem hlt⟩
   rw [Q.drop_of hh6, r08_argsRight_q6]
   refine Q.condT (Q.ltT hlt) ?_
   refine Q.bindPO hh6 fun x14 hx_x14 => ?_
   refine Q.bindPO (r01_Name_eq _) fun x15 hx_x15 => ?_
   refine Q.guardPO hh6 fun x16 hx_x16 => ?_
   refine Q.guardOO (r02_Literal_eq _) fun x17 => ?_
   refine Q.condO ?_ ?_
   ·all_goals exact hret _
   ·all_goals exact ih6 _ ⟨by omega, by omega⟩
  ·rw [List.drop_of_length_le (by omega), r08_argsRight_q6]
   refine Q.condF (Q.ltF hlt) ?_
   exact hend n6 s3_7
def r08_argsRight_q (a0 : (Sl TArg)) : Option Bool := Option.bind (r08_argsRight_q6  a0.l ) fun o6 => match o6 with | Sum.inl _ => (on (()) fun _ => some (decide (((a0.l.length : Nat) : Int) ≤ (16 : Int)))) | Sum.inr e6 => (some e6)
theorem r08_argsRight_eq (a0 : (Sl TArg)) : r08_argsRight a0 = r08_argsRight_q a0 := by
 unfold r08_argsRight r08_argsRight_q
 refine Eq.trans ?_ (Q.some_bind _)
 refine Q.wrapOO fun Kb6 hKb6 => ?_
 refine r08_argsRight_l6_qe  Kb6 ?_ ?_ _ _ ⟨Nat.succ_pos _, by omega⟩
 ·intro n6 s3_7
  refine Eq.trans ?_ (hKb6 _).symm
  try dsimp only
  refine Q.wrapPO fun Kj2 hKj2 => ?_
  have hj2 : r08_argsRight_j2 a0  = Kj2 () := by
   refine Eq.trans ?_ (hKj2 _).symm
   try dsimp only
   unfold r08_argsRight_j2
   all_goals rfl
  all_goals exact hj2
 ·intro e6
  refine Eq.trans ?_ (hKb6 _).symm
  try dsimp only
  all_goals rfl
def r08_dirsRight_q6  : List TDir → Option (Unit ⊕ Bool)
 | [] => some (Sum.inl ())
 | h6 :: r6 => on (h6) fun x14 => on (r01_Name_q x14.FName) fun x15 => on (bif !(!x15) then h6 else TDir.zero) fun x16 => guardO (!(!x15)) (r08_argsRight_q x16.FArgs) false fun x17 => bif ((!x15) || (!x17)) then (some (Sum.inr false)) else (r08_dirsRight_q6  (r6) )
theorem r08_dirsRight_l6_qe {a0 : (Sl TDir)}  (Kb6 : (Unit ⊕ Bool) → Option Bool) (hend : ∀ (n6 : Nat) (s3_7 : Nat), r08_dirsRight_j2 a0   = Kb6 (Sum.inl ())) (hret : ∀ e : Bool, some e = Kb6 (Sum.inr e)) : ∀ (n6 : Nat) (s3_7 : Nat), (0 < n6 ∧ a0.l.length < s3_7 + n6) → r08_dirsRight_l6 a0 n6 s3_7 = Option.bind (r08_dirsRight_q6  (a0.l.drop s3_7) ) Kb6 := by
 intro n6
 induction n6 with
 | zero => intro s3_7 hn; exact absurd hn.1 (by omega)
 | succ n6 ih6 =>
  intro s3_7 hn
  rw [r08_dirsRight_l6]
  by_cases hlt : s3_7 < a0.l.length
  ·obtain ⟨h6, hh6⟩ : ∃ x, a0.l[s3_7]? = some x := ⟨_, List.getElem?_eq_getElem hlt⟩
   rw [Q.drop_of hh6, r08_dirsRight_q6]
   refine Q.condT (Q.ltT hlt) ?_
   refine Q.bindPO hh6 fun x14 hx_x14 => ?_
   refine Q.bindPO (r01_Name_eq _) fun x15 hx_x15 => ?_
   refine Q.guardPO hh6 fun x16 hx_x16 => ?_
   refine Q.guardOO (r08_argsRight_eq _) fun x17 => ?_
   refine Q.condO ?_ ?_
   ·all_goals exact hret _
   ·all_goals exact ih6 _ ⟨by omega, by omega⟩
  ·rw [List.drop_of_length_le (by omega), r08_dirsRight_q6]
   refine Q.condF (Q.ltF hlt) ?_
   exact hend n6 s3_7
def r08_dirsRight_q (a0 : (Sl TDir)) : Option Bool := Option.bind (r08_dirsRight_q6  a0.l ) fun o6 => match o6 with | Sum.inl _ => (on (()) fun _ => some (decide (((a0.l.length : Nat) : Int) ≤ (16 : Int)))) | Sum.inr e6 => (some e6)
theorem r08_dirsRight_eq (a0 : (Sl TDir)) : r08_dirsRight a0 = r08_dirsRight_q a0 := by
 unfold r08_dirsRight r08_dirsRight_q
 refine Eq.trans ?_ (Q.some_bind _)
 refine Q.wrapOO fun Kb6 hKb6 => ?_
 refine r08_dirsRight_l6_qe  Kb6 ?_ ?_ _ _ ⟨Nat.succ_pos _, by omega⟩
 ·intro n6 s3_7
  refine Eq.trans ?_ (hKb6 _).symm
  try dsimp only
  refine Q.wrapPO fun Kj2 hKj2 => ?_
  have hj2 : r08_dirsRight_j2 a0  = Kj2 () := by
   refine Eq.trans ?_ (hKj2 _).symm
   try dsimp only
   unfold r08_dirsRight_j2
   all_goals rfl
  all_goals exact hj2
 ·intro e6
  refine Eq.trans ?_ (hKb6 _).symm
  try dsimp only
  all_goals rfl
end Go.Proofs

namespace Go.Proofs
open Go Go.Ab
def r08_selsRight_q10 (a1 : Int) (k_rec_57 : TSel → Int → Option Bool) : List TSel → Option (Unit ⊕ Bool)
 | [] => some (Sum.inl ())
 | h10 :: r10 => on (h10) fun x18 => (k_rec_57 x18 a1).bind fun x19 => bif (!x19) then (some (Sum.inr false)) else (r08_selsRight_q10 a1 k_rec_57 (r10) )
theorem r08_selsRight_l10_qe {a0 : (Sl TSel)} {a1 : Int} {k_rec_57 : TSel → Int → Option Bool}  (Kb10 : (Unit ⊕ Bool) → Option Bool) (hend : ∀ (n10 : Nat) (s5_11 : Nat), r08_selsRight_j7 a0 a1   = Kb10 (Sum.inl ())) (hret : ∀ e : Bool, some e = Kb10 (Sum.inr e)) : ∀ (n10 : Nat) (s5_11 : Nat), (0 < n10 ∧ a0.l.length < s5_11 + n10) → r08_selsRight_l10 a0 a1 k_rec_57 n10 s5_11 = Option.bind (r08_selsRight_q10 a1 k_rec_57 (a0.l.drop s5_11) ) Kb10 := by
 intro n10
 induction n10 with
 | zero => intro s5_11 hn; exact absurd hn.1 (by omega)
 | succ n10 ih10 =>
  intro s5_11 hn
  rw [r08_selsRight_l10]
  by_cases hlt : s5_11 < a0.l.length
  ·obtain ⟨h10, hh10⟩ : ∃ x, a0.l[s5_11]? = some x := ⟨_, List.getElem?_eq_getElem hlt⟩
   rw [Q.drop_of hh10, r08_selsRight_q10]
   refine Q.condT (Q.ltT hlt) ?_
   refine Q.bindPO hh10 fun x18 hx_x18 => ?_
   refine Q.bindO rfl fun x19 => ?_
   refine Q.condO ?_ ?_
   ·all_goals exact hret _
   ·all_goals exact ih10 _ ⟨by omega, by omega⟩
  ·rw [List.drop_of_length_le (by omega), r08_selsRight_q10]
   refine Q.condF (Q.ltF hlt) ?_
   exact hend n10 s5_11
mutual
def r08_selsRight_qn : Nat → (Sl TSel) → Int → Option Bool
 | 0, _, _ => none
 | n + 1, a0, a1 => bif (((decide (((a0.l.length : Nat) : Int) = (0 : Int))) || (decide ((64 : Int) < ((a0.l.length : Nat) : Int)))) || (decide ((24 : Int) < a1))) then (some false) else (Option.bind (r08_selsRight_q10 a1 (r08_selRight_qn n) a0.l ) fun o10 => match o10 with | Sum.inl _ => (on (()) fun _ => some true) | Sum.inr e10 => (some e10))
def r08_selRight_qn : Nat → TSel → Int → Option Bool
 | 0, _, _ => none
 | n + 1, a0, a1 => (r08_dirsRight_q a0.FDirs).bind fun x4 => guardO (!(!x4)) (r08_argsRight_q a0.FArgs) false fun x5 => bif ((!x4) || (!x5)) then (some false) else (bif (decide (a0.FKind = (1 : Int))) then (on (r01_Name_q a0.FName) fun x13 => on (bif (x13 && !((a0.FAlias == ([] : Bs)))) then r01_Name_q a0.FAlias else false) fun x14 => guardO ((((x13 && (((a0.FAlias == ([] : Bs))) || x14)) && ((a0.FOn == ([] : Bs)))) && !(decide (((a0.FSels.l.length : Nat) : Int) = (0 : Int))))) (addC a1 (1 : Int)) (0 : Int) fun x15 => guardO ((((x13 && (((a0.FAlias == ([] : Bs))) || x14)) && ((a0.FOn == ([] : Bs)))) && !(decide (((a0.FSels.l.length : Nat) : Int) = (0 : Int))))) ((r08_selsRight_qn n) a0.FSels x15) false fun x16 => some (((x13 && (((a0.FAlias == ([] : Bs))) || x14)) && ((a0.FOn == ([] : Bs)))) && ((decide (((a0.FSels.l.length : Nat) : Int) = (0 : Int))) || x16))) else (bif (decide (a0.FKind = (2 : Int))) then (on (r08_title_q a0.FName) fun x20 => some ((((x20 && ((a0.FAlias == ([] : Bs)))) && ((a0.FOn == ([] : Bs)))) && (decide (((a0.FArgs.l.length : Nat) : Int) = (0 : Int)))) && (decide (((a0.FSels.l.length : Nat) : Int) = (0 : Int))))) else (bif (decide (a0.FKind = (3 : Int))) then (on (bif ((((a0.FName == ([] : Bs))) && ((a0.FAlias == ([] : Bs)))) && !((a0.FOn == ([] : Bs)))) then r01_Name_q a0.FOn else false) fun x24 => guardO ((((((a0.FName == ([] : Bs))) && ((a0.FAlias == ([] : Bs)))) && (((a0.FOn == ([] : Bs))) || x24)) && (decide (((a0.FArgs.l.length : Nat) : Int) = (0 : Int))))) (addC a1 (1 : Int)) (0 : Int) fun x25 => guardO ((((((a0.FName == ([] : Bs))) && ((a0.FAlias == ([] : Bs)))) && (((a0.FOn == ([] : Bs))) || x24)) && (decide (((a0.FArgs.l.length : Nat) : Int) = (0 : Int))))) ((r08_selsRight_qn n) a0.FSels x25) false fun x26 => some ((((((a0.FName == ([] : Bs))) && ((a0.FAlias == ([] : Bs)))) && (((a0.FOn == ([] : Bs))) || x24)) && (decide (((a0.FArgs.l.length : Nat) : Int) = (0 : Int)))) && x26)) else (some false))))
end
theorem r08_selsRight_qall : ∀ n : Nat, r08_selsRight_n n = r08_selsRight_qn n ∧ r08_selRight_n n = r08_selRight_qn n := by
 intro n
 induction n with
 | zero => exact ⟨(by funext a0 a1; first | rfl | (rw [r08_selsRight_n, r08_selsRight_qn])), (by funext a0 a1; first | rfl | (rw [r08_selRight_n, r08_selRight_qn]))⟩
 | succ n ih =>
  refine ⟨?_, ?_⟩
  ·funext a0 a1
   refine Eq.trans ?_ (Q.some_bind _)
   rw [r08_selsRight_n, r08_selsRight_qn]
   try rw [ih.1]
   try rw [ih.2]
   refine Q.condO ?_ ?_
   ·all_goals rfl
   ·refine Q.wrapOO fun Kb10 hKb10 => ?_
    refine r08_selsRight_l10_qe  Kb10 ?_ ?_ _ _ ⟨Nat.succ_pos _, by omega⟩
    ·intro n10 s5_11
     refine Eq.trans ?_ (hKb10 _).symm
     try dsimp only
     refine Q.wrapPO fun Kj7 hKj7 => ?_
     have hj7 : r08_selsRight_j7 a0 a1  = Kj7 () := by
      refine Eq.trans ?_ (hKj7 _).symm
      try dsimp only
      unfold r08_selsRight_j7
      all_goals rfl
     all_goals exact hj7
    ·intro e10
     refine Eq.trans ?_ (hKb10 _).symm
     try dsimp only
     all_goals rfl
  ·funext a0 a1
   refine Eq.trans ?_ (Q.some_bind _)
   rw [r08_selRight_n, r08_selRight_qn]
   try rw [ih.1]
   try rw [ih.2]
   refine Q.bindO (r08_dirsRight_eq _) fun x4 => ?_
   refine Q.guardOO (r08_argsRight_eq _) fun x5 => ?_
   refine Q.condO ?_ ?_
   ·all_goals rfl
   ·refine Q.condO ?_ ?_
    ·refine Q.bindPO (r01_Name_eq _) fun x13 hx_x13 => ?_
     refine Q.guardPO (r01_Name_eq _) fun x14 hx_x14 => ?_
     refine Q.guardOO rfl fun x15 => ?_
     refine Q.guardOO rfl fun x16 => ?_
     all_goals rfl
    ·refine Q.condO ?_ ?_
     ·refine Q.bindPO (r08_title_eq _) fun x20 hx_x20 => ?_
      all_goals rfl
     ·refine Q.condO ?_ ?_
      ·refine Q.guardPO (r01_Name_eq _) fun x24 hx_x24 => ?_
       refine Q.guardOO rfl fun x25 => ?_
       refine Q.guardOO rfl fun x26 => ?_
       all_goals rfl
      ·all_goals rfl
def r08_selsRight_q (a0 : (Sl TSel)) (a1 : Int) : Option Bool := r08_selsRight_qn F0 a0 a1
theorem r08_selsRight_eq (a0 : (Sl TSel)) (a1 : Int) : r08_selsRight a0 a1 = r08_selsRight_q a0 a1 := by
 unfold r08_selsRight r08_selsRight_q; rw [(r08_selsRight_qall F0).1]
def r08_selRight_q (a0 : TSel) (a1 : Int) : Option Bool := r08_selRight_qn F0 a0 a1
theorem r08_selRight_eq (a0 : TSel) (a1 : Int) : r08_selRight a0 a1 = r08_selRight_q a0 a1 := by
 unfold r08_selRight r08_selRight_q; rw [(r08_selsRight_qall F0).2]
def r08_Right_q30  : List TOp → Option (Unit ⊕ Bool)
 | [] => some (Sum.inl ())
 | h30 :: r30 => on (h30) fun x38 => on (bif (!((decide (x38.FKind < (1 : Int))) || (decide ((3 : Int) < x38.FKind))) && (!(x38.FName == ([] : Bs)))) then r01_Name_q x38.FName else false) fun x40 => guardO (!(((decide (x38.FKind < (1 : Int))) || (decide ((3 : Int) < x38.FKind))) || ((!(x38.FName == ([] : Bs))) && (!x40)))) (r08_varsRight_q x38.FVars) false fun x41 => guardO (!((((decide (x38.FKind < (1 : Int))) || (decide ((3 : Int) < x38.FKind))) || ((!(x38.FName == ([] : Bs))) && (!x40))) || (!x41))) (r08_selsRight_q x38.FSels (1 : Int)) false fun x42 => bif (((((decide (x38.FKind < (1 : Int))) || (decide ((3 : Int) < x38.FKind))) || ((!(x38.FName == ([] : Bs))) && (!x40))) || (!x41)) || (!x42)) then (some (Sum.inr false)) else (r08_Right_q30  (r30) )
theorem r08_Right_l30_qe {a0 : TQuery} {x5 : Int}  (Kb30 : (Unit ⊕ Bool) → Option Bool) (hend : ∀ (n30 : Nat) (s4_31 : Nat), r08_Right_j10 a0 x5   = Kb30 (Sum.inl ())) (hret : ∀ e : Bool, some e = Kb30 (Sum.inr e)) : ∀ (n30 : Nat) (s4_31 : Nat), (0 < n30 ∧ a0.FOps.l.length < s4_31 + n30) → r08_Right_l30 a0 x5 n30 s4_31 = Option.bind (r08_Right_q30  (a0.FOps.l.drop s4_31) ) Kb30 := by
 intro n30
 induction n30 with
 | zero => intro s4_31 hn; exact absurd hn.1 (by omega)
 | succ n30 ih30 =>
  intro s4_31 hn
  rw [r08_Right_l30]
  by_cases hlt : s4_31 < a0.FOps.l.length
  ·obtain ⟨h30, hh30⟩ : ∃ x, a0.FOps.l[s4_31]? = some x := ⟨_, List.getElem?_eq_getElem hlt⟩
   rw [Q.drop_of hh30, r08_Right_q30]
   refine Q.condT (Q.ltT hlt) ?_
   refine Q.bindPO hh30 fun x38 hx_x38 => ?_
   refine Q.guardPO (r01_Name_eq _) fun x40 hx_x40 => ?_
   refine Q.guardOO (r08_varsRight_eq _) fun x41 => ?_
   refine Q.guardOO (r08_selsRight_eq _ _) fun x42 => ?_
   refine Q.condO ?_ ?_
   ·all_goals exact hret _
   ·all_goals exact ih30 _ ⟨by omega, by omega⟩
  ·rw [List.drop_of_length_le (by omega), r08_Right_q30]
   refine Q.condF (Q.ltF hlt) ?_
   exact hend n30 s4_31
def r08_Right_q14  : List TFrag → Option (Unit ⊕ Bool)
 | [] => some (Sum.inl ())
 | h14 :: r14 => on (h14) fun x22 => on (r08_title_q x22.FName) fun x24 => on (bif !(!x24) then r01_Name_q x22.FOn else false) fun x25 => guardO (!((!x24) || (!x25))) (r08_selsRight_q x22.FSels (1 : Int)) false fun x26 => bif (((!x24) || (!x25)) || (!x26)) then (some (Sum.inr false)) else (r08_Right_q14  (r14) )
theorem r08_Right_l14_qe {a0 : TQuery} {x5 : Int}  (Kb14 : (Unit ⊕ Bool) → Option Bool) (hend : ∀ (n14 : Nat) (s6_15 : Nat), r08_Right_j11 a0 x5   = Kb14 (Sum.inl ())) (hret : ∀ e : Bool, some e = Kb14 (Sum.inr e)) : ∀ (n14 : Nat) (s6_15 : Nat), (0 < n14 ∧ a0.FFrags.l.length < s6_15 + n14) → r08_Right_l14 a0 x5 n14 s6_15 = Option.bind (r08_Right_q14  (a0.FFrags.l.drop s6_15) ) Kb14 := by
 intro n14
 induction n14 with
 | zero => intro s6_15 hn; exact absurd hn.1 (by omega)
 | succ n14 ih14 =>
  intro s6_15 hn
  rw [r08_Right_l14]
  by_cases hlt : s6_15 < a0.FFrags.l.length
  ·obtain ⟨h14, hh14⟩ : ∃ x, a0.FFrags.l[s6_15]? = some x := ⟨_, List.getElem?_eq_getElem hlt⟩
   rw [Q.drop_of hh14, r08_Right_q14]
   refine Q.condT (Q.ltT hlt) ?_
   refine Q.bindPO hh14 fun x22 hx_x22 => ?_
   refine Q.bindPO (r08_title_eq _) fun x24 hx_x24 => ?_
   refine Q.guardPO (r01_Name_eq _) fun x25 hx_x25 => ?_
   refine Q.guardOO (r08_selsRight_eq _ _) fun x26 => ?_
   refine Q.condO ?_ ?_
   ·all_goals exact hret _
   ·all_goals exact ih14 _ ⟨by omega, by omega⟩
  ·rw [List.drop_of_length_le (by omega), r08_Right_q14]
   refine Q.condF (Q.ltF hlt) ?_
   exact hend n14 s6_15
def r08_Right_q (a0 : TQuery) : Option Bool := (addC ((a0.FOps.l.length : Nat) : Int) ((a0.FFrags.l.length : Nat) : Int)).bind fun x5 => bif ((decide (x5 < (1 : Int))) || (decide ((64 : Int) < x5))) then (some false) else (Option.bind (r08_Right_q30  a0.FOps.l ) fun o30 => match o30 with | Sum.inl _ => (on (()) fun _ => Option.bind (r08_Right_q14  a0.FFrags.l ) fun o14 => match o14 with | Sum.inl _ => (on (()) fun _ => some true) | Sum.inr e14 => (some e14)) | Sum.inr e30 => (some e30))
theorem r08_Right_eq (a0 : TQuery) : r08_Right a0 = r08_Right_q a0 := by
 unfold r08_Right r08_Right_q
 refine Eq.trans ?_ (Q.some_bind _)
 refine Q.bindO rfl fun x5 => ?_
 refine Q.condO ?_ ?_
 ·all_goals rfl
 ·refine Q.wrapOO fun Kb30 hKb30 => ?_
  refine r08_Right_l30_qe  Kb30 ?_ ?_ _ _ ⟨Nat.succ_pos _, by omega⟩
  ·intro n30 s4_31
   refine Eq.trans ?_ (hKb30 _).symm
   try dsimp only
   refine Q.wrapPO fun Kj10 hKj10 => ?_
   have hj10 : r08_Right_j10 a0 x5  = Kj10 () := by
    refine Eq.trans ?_ (hKj10 _).symm
    try dsimp only
    unfold r08_Right_j10
    refine Q.wrapOO fun Kb14 hKb14 => ?_
    refine r08_Right_l14_qe  Kb14 ?_ ?_ _ _ ⟨Nat.succ_pos _, by omega⟩
    ·intro n14 s6_15
     refine Eq.trans ?_ (hKb14 _).symm
     try dsimp only
     refine Q.wrapPO fun Kj11 hKj11 => ?_
     have hj11 : r08_Right_j11 a0 x5  = Kj11 () := by
      refine Eq.trans ?_ (hKj11 _).symm
      try dsimp only
      unfold r08_Right_j11
      all_goals rfl
     all_goals exact hj11
    ·intro e14
     refine Eq.trans ?_ (hKb14 _).symm
     try dsimp only
     all_goals rfl
   all_goals exact hj10
  ·intro e30
   refine Eq.trans ?_ (hKb30 _).symm
   try dsimp only
   all_goals rfl
def law14_right_q (a0 : TDoc) (a1 : TQuery) : Option Bool := (r10_Large_q a0).bind fun x3 => guardO ((!x3)) (r08_Large_q a1) false fun x4 => guardO (((!x3) && (!x4))) (r06_Right_q a0) false fun x5 => guardO ((((!x3) && (!x4)) && x5)) (r08_Right_q a1) false fun x6 => some ((((!x3) && (!x4)) && x5) && x6)
theorem law14_right_eq (a0 : TDoc) (a1 : TQuery) : law14_right a0 a1 = law14_right_q a0 a1 := by
 unfold law14_right law14_right_q
 refine Eq.trans ?_ (Q.some_bind _)
 refine Q.bindO (r10_Large_eq _) fun x3 => ?_
 refine Q.guardOO (r08_Large_eq _) fun x4 => ?_
 refine Q.guardOO (r06_Right_eq _) fun x5 => ?_
 refine Q.guardOO (r08_Right_eq _) fun x6 => ?_
 all_goals rfl
def law14_FieldsParts_q20 (a0 : TDoc) (a1 : TQuery) (s5_10 : (Sl TFault)) : List TOp → Nat → (Sl TFault) → Option (((Sl TFault)) ⊕ Bool)
 | [], s7_22, s6_21 => some (Sum.inl s6_21)
 | h20 :: r20, s7_22, s6_21 => (partC a1.FOps (some ((s7_22 : Nat) : Int)) (some (((s7_22 + 1) : Nat) : Int))).bind fun x29 => (fields_Check_q a0 (TQuery.mk x29 a1.FFrags)).bind fun x30 => guardO (!(decide (((x30.l.length : Nat) : Int) < ((s5_10.l.length : Nat) : Int)))) (subC ((x30.l.length : Nat) : Int) ((s5_10.l.length : Nat) : Int)) (0 : Int) fun x35 => guardO (!(decide (((x30.l.length : Nat) : Int) < ((s5_10.l.length : Nat) : Int)))) (partC x30 (some x35) none) (Sl.nil : Sl TFault) fun x36 => guardO (!(decide (((x30.l.length : Nat) : Int) < ((s5_10.l.length : Nat) : Int)))) (r10_Faults_q x36 s5_10) false fun x37 => bif ((decide (((x30.l.length : Nat) : Int) < ((s5_10.l.length : Nat) : Int))) || (!x37)) then (some (Sum.inr false)) else ((subC ((x30.l.length : Nat) : Int) ((s5_10.l.length : Nat) : Int)).bind fun x42 => (partC x30 none (some x42)).bind fun x43 => (appC 24 s6_21 x43).bind fun x44 => law14_FieldsParts_q20 a0 a1 s5_10 (r20) (s7_22 + 1) x44)
theorem law14_FieldsParts_l20_qe {a0 : TDoc} {a1 : TQuery} {x4 : Bool} {s5_10 : (Sl TFault)}  (Kb20 : (((Sl TFault)) ⊕ Bool) → Option Bool) (hend : ∀ (n20 : Nat) (s6_21 : (Sl TFault)) (s7_22 : Nat), law14_FieldsParts_j12 a0 a1 x4 s5_10  s6_21 = Kb20 (Sum.inl s6_21)) (hret : ∀ e : Bool, some e = Kb20 (Sum.inr e)) : ∀ (n20 : Nat) (s6_21 : (Sl TFault)) (s7_22 : Nat), (0 < n20 ∧ a1.FOps.l.length < s7_22 + n20) → law14_FieldsParts_l20 a0 a1 x4 s5_10 n20 s6_21 s7_22 = Option.bind (law14_FieldsParts_q20 a0 a1 s5_10 (a1.FOps.l.drop s7_22) s7_22 s6_21) Kb20 := by
 intro n20
 induction n20 with
 | zero => intro s6_21 s7_22 hn; exact absurd hn.1 (by omega)
 | succ n20 ih20 =>
  intro s6_21 s7_22 hn
  rw [law14_FieldsParts_l20]
  by_cases hlt : s7_22 < a1.FOps.l.length
  ·obtain ⟨h20, hh20⟩ : ∃ x, a1.FOps.l[s7_22]? = some x := ⟨_, List.getElem?_eq_getElem hlt⟩
   rw [Q.drop_of hh20, law14_FieldsParts_q20]
   refine Q.condT (Q.ltT hlt) ?_
   refine Q.bindO rfl fun x29 => ?_
   refine Q.bindO (fields_Check_eq _ _) fun x30 => ?_
   refine Q.guardOO rfl fun x35 => ?_
   refine Q.guardOO rfl fun x36 => ?_
   refine Q.guardOO (r10_Faults_eq _ _) fun x37 => ?_
   refine Q.condO ?_ ?_
   ·all_goals exact hret _
   ·refine Q.bindO rfl fun x42 => ?_
    refine Q.bindO rfl fun x43 => ?_
    refine Q.bindO rfl fun x44 => ?_
    all_goals exact ih20 _ _ ⟨by omega, by omega⟩
  ·rw [List.drop_of_length_le (by omega), law14_FieldsParts_q20]
   refine Q.condF (Q.ltF hlt) ?_
   exact hend n20 s6_21 s7_22
def law14_FieldsParts_q (a0 : TDoc) (a1 : TQuery) : Option Bool := (law14_right_q a0 a1).bind fun x4 => bif (!x4) then ((law14_knows).bind fun x7 => some x7) else (Option.bind (bif (decide ((0 : Int) < ((a1.FFrags.l.length : Nat) : Int))) then ((fields_Check_q a0 (TQuery.mk (Sl.nil : Sl TOp) a1.FFrags)).bind fun x48 => some x48) else (some (Sl.nil : Sl TFault))) fun s5_10 => Option.bind (law14_FieldsParts_q20 a0 a1 s5_10 a1.FOps.l 0 (Sl.nil : Sl TFault)) fun o20 => match o20 with | Sum.inl s6_21 => (on (s6_21) fun s6_13 => (fields_Check_q a0 a1).bind fun x15 => (appC 24 s6_13 s5_10).bind fun x16 => (r10_Faults_q x15 x16).bind fun x17 => guardO (x17) (law14_knows) false fun x18 => some (x17 && x18)) | Sum.inr e20 => (some e20))
theorem law14_FieldsParts_eq (a0 : TDoc) (a1 : TQuery) : law14_FieldsParts a0 a1 = law14_FieldsParts_q a0 a1 := by
 unfold law14_FieldsParts law14_FieldsParts_q
 refine Eq.trans ?_ (Q.some_bind _)
 refine Q.bindO (law14_right_eq _ _) fun x4 => ?_
 refine Q.condO ?_ ?_
 ·refine Q.bindO rfl fun x7 => ?_
  all_goals rfl
 ·refine Q.wrapOO fun Kj9 hKj9 => ?_
  have hj9 : ∀ (s5_10 : (Sl TFault)), law14_FieldsParts_j9 a0 a1 x4 s5_10 = Kj9 s5_10 := by
   intro s5_10
   refine Eq.trans ?_ (hKj9 _).symm
   try dsimp only
   unfold law14_FieldsParts_j9
   refine Q.wrapOO fun Kb20 hKb20 => ?_
   refine law14_FieldsParts_l20_qe  Kb20 ?_ ?_ _ _ _ ⟨Nat.succ_pos _, by omega⟩
   ·intro n20 s6_21 s7_22
    refine Eq.trans ?_ (hKb20 _).symm
    try dsimp only
    refine Q.wrapPO fun Kj12 hKj12 => ?_
    have hj12 : ∀ (s6_13 : (Sl TFault)), law14_FieldsParts_j12 a0 a1 x4 s5_10 s6_13 = Kj12 s6_13 := by
     intro s6_13
     refine Eq.trans ?_ (hKj12 _).symm
     try dsimp only
     unfold law14_FieldsParts_j12
     refine Q.bindO (fields_Check_eq _ _) fun x15 => ?_
     refine Q.bindO rfl fun x16 => ?_
     refine Q.bindO (r10_Faults_eq _ _) fun x17 => ?_
     refine Q.guardOO rfl fun x18 => ?_
     all_goals rfl
    all_goals exact hj12 _
   ·intro e20
    refine Eq.trans ?_ (hKb20 _).symm
    try dsimp only
    all_goals rfl
  refine Q.condO ?_ ?_
  ·refine Q.bindO (fields_Check_eq _ _) fun x48 => ?_
   all_goals exact hj9 _
  ·all_goals exact hj9 _
end Go.Proofs
