import Derived.Test.YtjlggcgmmpopmaaDoorV6
set_option maxRecDepth 100000
set_option maxHeartbeats 2000000
set_option linter.unusedVariables false
set_option linter.unusedSimpArgs false
namespace Go.Proofs
open Go Go.Ab
def coerce_coercer_list_q14 (a1 : TRef) (a3 : Int) (k_rec_30 : Coerce_coercer → TRef → TValue → Int → Option (TValue × Int × Coerce_coercer)) : List TValue → Coerce_coercer → TValue → Option (((Coerce_coercer × TValue)) ⊕ ((TValue × Int × Coerce_coercer)))
 | [], y16_c0, y18_l1 => some (Sum.inl (y16_c0, y18_l1))
 | h14 :: r14, y16_c0, y18_l1 => on (h14) fun x24 => (addC a3 (1 : Int)).bind fun x26 => (k_rec_30 y16_c0 a1 x24 x26).bind fun x27 => bif (!decide (x27.2.1 = (0 : Int))) then (some (Sum.inr ((TValue.mk (0 : Int) (0 : Int) ([] : Bs) true ([]) (Sl.nil : Sl Bs)), x27.2.1, x27.2.2))) else ((appC 80 y18_l1.FItems (⟨false, [x27.1]⟩ : Sl TValue)).bind fun x32 => coerce_coercer_list_q14 a1 a3 k_rec_30 (r14) x27.2.2 (TValue.mk y18_l1.FKind y18_l1.FInt y18_l1.FText x32.nl x32.l y18_l1.FKeys))
def coerce_coercer_object_q66 (a0 : Coerce_coercer) (a1 : TDef) : List Bs → Unit ⊕ ((TValue × Int × Coerce_coercer))
 | [] => Sum.inl ()
 | h66 :: r66 => on (h66) fun x74 => on (Z38_q a1.FInputs x74) fun x76 => bif (!x76.2) then (Sum.inr ((TValue.mk (0 : Int) (0 : Int) ([] : Bs) true ([]) (Sl.nil : Sl Bs)), (22 : Int), a0)) else (coerce_coercer_object_q66 a0 a1 (r66) )
def coerce_coercer_object_q18 (a1 : TDef) (a2 : TValue) (a3 : Int) (k_rec_30 : Coerce_coercer → TRef → TValue → Int → Option (TValue × Int × Coerce_coercer)) (k_rec_84 : Coerce_coercer → TInput → Int → Option (TValue × Int × Coerce_coercer)) : List TInput → Nat → Coerce_coercer → TValue → Option (((Coerce_coercer × TValue)) ⊕ ((TValue × Int × Coerce_coercer)))
 | [], s49_19, y20_c0, y22_l1 => some (Sum.inl (y20_c0, y22_l1))
 | h18 :: r18, s49_19, y20_c0, y22_l1 => on (h18) fun x31 => on ((⟨a1.FInputs.nl, a1.FInputs.l.take s49_19⟩ : Sl TInput)) fun x34 => on (Z38_q x34 x31.FName) fun x35 => on (fun (y27_c0 : Coerce_coercer) (y29_l1 : TValue) => coerce_coercer_object_q18 a1 a2 a3 k_rec_30 k_rec_84 (r18) (s49_19 + 1) y27_c0 y29_l1) fun kj26 => bif x35.2 then (kj26 y20_c0 y22_l1) else ((Z62_q a2 x31.FName).bind fun x39 => guardO (x39.2) (Z10_q y20_c0 x39.1) false fun x53 => on (fun (s22_43 : Int) (y44_c0 : Coerce_coercer) (y45_l2 : TValue) => bif (!decide (s22_43 = (0 : Int))) then (some (Sum.inr ((TValue.mk (0 : Int) (0 : Int) ([] : Bs) true ([]) (Sl.nil : Sl Bs)), s22_43, y44_c0))) else ((appC 16 y22_l1.FKeys (⟨false, [x31.FName]⟩ : Sl Bs)).bind fun x50 => (appC 80 y22_l1.FItems (⟨false, [y45_l2]⟩ : Sl TValue)).bind fun x51 => kj26 y44_c0 (TValue.mk y22_l1.FKind y22_l1.FInt y22_l1.FText x51.nl x51.l x50))) fun kj42 => bif (x39.2 && (!x53)) then ((addC a3 (1 : Int)).bind fun x55 => (k_rec_30 y20_c0 x31.FType x39.1 x55).bind fun x56 => kj42 x56.2.1 x56.2.2 x56.1) else (bif x31.FHas then ((addC a3 (1 : Int)).bind fun x59 => (k_rec_84 y20_c0 x31 x59).bind fun x60 => kj42 x60.2.1 x60.2.2 x60.1) else (on (Z60_q x31.FType) fun x62 => bif x62 then (kj42 (22 : Int) y20_c0 TValue.zero) else (kj26 y20_c0 y22_l1))))
mutual
def coerce_coercer_at_qn : Nat → Coerce_coercer → TRef → TValue → Int → Option (TValue × Int × Coerce_coercer)
 | 0, _, _, _, _ => none
 | n + 1, a0, a1, a2, a3 => on (Z39_q a0.Fd a1.FName) fun x4 => bif (!x4) then (some ((TValue.mk (0 : Int) (0 : Int) ([] : Bs) true ([]) (Sl.nil : Sl Bs)), (10 : Int), a0)) else (on (fun (y8_c0 : Coerce_coercer) (y9_l0 : TValue) => (Z7_q y8_c0 a3).bind fun x13 => bif (!decide (x13.1 = (0 : Int))) then (some ((TValue.mk (0 : Int) (0 : Int) ([] : Bs) true ([]) (Sl.nil : Sl Bs)), x13.1, x13.2)) else (bif (decide (y9_l0.FKind = (0 : Int))) then (on (Z60_q a1) fun x22 => bif x22 then (some ((TValue.mk (0 : Int) (0 : Int) ([] : Bs) true ([]) (Sl.nil : Sl Bs)), (23 : Int), x13.2)) else (some ((TValue.mk (0 : Int) (0 : Int) ([] : Bs) true ([]) (Sl.nil : Sl Bs)), (0 : Int), x13.2))) else ((Z58_q a1).bind fun x28 => bif x28.2 then (((coerce_coercer_list_qn n) x13.2 x28.1 y9_l0 a3).bind fun x32 => some (x32.1, x32.2.1, x32.2.2)) else (on (Z37_q x13.2.Fd a1.FName) fun x35 => on (bif x35.2 then Z41_q a1.FName else false) fun x37 => bif ((x35.2 && (!x37)) && (decide (x35.1.FKind = (5 : Int)))) then (((coerce_coercer_object_qn n) x13.2 x35.1 y9_l0 a3).bind fun x40 => some (x40.1, x40.2.1, x40.2.2)) else ((Z8_q x13.2 a1.FName y9_l0).bind fun x42 => some (x42.1, x42.2, x13.2)))))) fun kj7 => bif ((decide (a2.FKind = (7 : Int))) && a0.Fliteral) then ((Z62_q a0.Fvars a2.FText).bind fun x46 => bif (!decide (x46.1.FKind = (0 : Int))) then ((Z13_q a0 x46.1 a3).bind fun x50 => bif (!decide (x50.1 = (0 : Int))) then (some ((TValue.mk (0 : Int) (0 : Int) ([] : Bs) true ([]) (Sl.nil : Sl Bs)), x50.1, x50.2)) else (some (x46.1, (0 : Int), x50.2))) else (kj7 a0 x46.1)) else (kj7 a0 a2))
def coerce_coercer_list_qn : Nat → Coerce_coercer → TRef → TValue → Int → Option (TValue × Int × Coerce_coercer)
 | 0, _, _, _, _ => none
 | n + 1, a0, a1, a2, a3 => on (bif (!decide (a2.FKind = (5 : Int))) then ((⟨false, [a2]⟩ : Sl TValue)) else (a2.FItems)) fun s10_4 => Option.bind (coerce_coercer_list_q14 a1 a3 (coerce_coercer_at_qn n) s10_4.l a0 (TValue.mk (5 : Int) (0 : Int) ([] : Bs) true ([]) (Sl.nil : Sl Bs))) fun o14 => match o14 with | Sum.inl z14 => (on ((z14.1, z14.2)) fun z7 => some (z7.2, (0 : Int), z7.1)) | Sum.inr e14 => (some e14)
def coerce_coercer_object_qn : Nat → Coerce_coercer → TDef → TValue → Int → Option (TValue × Int × Coerce_coercer)
 | 0, _, _, _, _ => none
 | n + 1, a0, a1, a2, a3 => bif (!decide (a2.FKind = (6 : Int))) then (some ((TValue.mk (0 : Int) (0 : Int) ([] : Bs) true ([]) (Sl.nil : Sl Bs)), (23 : Int), a0)) else (on (coerce_coercer_object_q66 a0 a1 a2.FKeys.l ) fun o66 => match o66 with | Sum.inl _ => (on (()) fun _ => Option.bind (coerce_coercer_object_q18 a1 a2 a3 (coerce_coercer_at_qn n) (Z11_qn n) a1.FInputs.l 0 a0 (TValue.mk (6 : Int) (0 : Int) ([] : Bs) true ([]) (Sl.nil : Sl Bs))) fun o18 => match o18 with | Sum.inl z18 => (on ((z18.1, z18.2)) fun z11 => some (z11.2, (0 : Int), z11.1)) | Sum.inr e18 => (some e18)) | Sum.inr e66 => (some e66))
def Z11_qn : Nat → Coerce_coercer → TInput → Int → Option (TValue × Int × Coerce_coercer)
 | 0, _, _, _ => none
 | n + 1, a0, a1, a2 => ((coerce_coercer_at_qn n) (Coerce_coercer.mk a0.Fd (TValue.mk (0 : Int) (0 : Int) ([] : Bs) true ([]) (Sl.nil : Sl Bs)) true a0.Fnodes) a1.FType a1.FDefault a2).bind fun x5 => on (Z12_q a0.Fvars a0.Fliteral x5.2.2) fun x6 => some (x5.1, x5.2.1, x6)
end
def Z34_q23 (a1 : Int) : List Bs → Int → Option (Int)
 | [], s5_24 => some s5_24
 | h23 :: r23, s5_24 => bif (decide (s5_24 ≤ a1)) then ((addC s5_24 (1 : Int)).bind fun x31 => on (h23) fun x32 => (addC x31 ((x32.length : Nat) : Int)).bind fun x34 => Z34_q23 a1 (r23) x34) else (some s5_24)
theorem Z34_l23_qe {a0 : TValue} {a1 : Int} {k_rec_6 : TValue → Int → Option Int}  (Kb23 : (Int) → Option Int) (hend : ∀ (n23 : Nat) (s5_24 : Int) (s6_25 : Nat), Z34_j5 a0 a1 k_rec_6 s5_24 = Kb23 s5_24) : ∀ (n23 : Nat) (s5_24 : Int) (s6_25 : Nat), (0 < n23 ∧ a0.FKeys.l.length < s6_25 + n23) → Z34_l23 a0 a1 k_rec_6 n23 s5_24 s6_25 = Option.bind (Z34_q23 a1 (a0.FKeys.l.drop s6_25) s5_24) Kb23 := by
 intro n23
 induction n23 with
 | zero => intro s5_24 s6_25 hn; exact absurd hn.1 (by omega)
 | succ n23 ih23 =>
  intro s5_24 s6_25 hn
  rw [Z34_l23]
  by_cases hlt : s6_25 < a0.FKeys.l.length
  ·obtain ⟨h23, hh23⟩ : ∃ x, a0.FKeys.l[s6_25]? = some x := ⟨_, List.getElem?_eq_getElem hlt⟩
   rw [Q.drop_of hh23, Z34_q23]
   refine Q.condAT (Q.ltT hlt) ?_
   refine Q.condO ?_ ?_
   ·refine Q.bindO rfl fun x31 => ?_
    refine Q.bindPO hh23 fun x32 hx_x32 => ?_
    refine Q.bindO rfl fun x34 => ?_
    all_goals exact ih23 _ _ ⟨by omega, by omega⟩
   all_goals exact hend n23 s5_24 s6_25
  rw [List.drop_of_length_le (by omega), Z34_q23]
  refine Q.condAF (Q.ltF hlt) ?_
  exact hend n23 s5_24 s6_25
def Z34_q11 (a1 : Int) (k_rec_6 : TValue → Int → Option Int) : List TValue → Int → Option (Int)
 | [], s5_12 => some s5_12
 | h11 :: r11, s5_12 => bif (decide (s5_12 ≤ a1)) then (on (h11) fun x19 => (k_rec_6 x19 a1).bind fun x20 => (addC s5_12 x20).bind fun x21 => Z34_q11 a1 k_rec_6 (r11) x21) else (some s5_12)
theorem Z34_l11_qe {a0 : TValue} {a1 : Int} {k_rec_6 : TValue → Int → Option Int}  (Kb11 : (Int) → Option Int) (hend : ∀ (n11 : Nat) (s5_12 : Int) (s7_13 : Nat), Z34_j7   s5_12 = Kb11 s5_12) : ∀ (n11 : Nat) (s5_12 : Int) (s7_13 : Nat), (0 < n11 ∧ a0.FItems.l.length < s7_13 + n11) → Z34_l11 a0 a1 k_rec_6 n11 s5_12 s7_13 = Option.bind (Z34_q11 a1 k_rec_6 (a0.FItems.l.drop s7_13) s5_12) Kb11 := by
 intro n11
 induction n11 with
 | zero => intro s5_12 s7_13 hn; exact absurd hn.1 (by omega)
 | succ n11 ih11 =>
  intro s5_12 s7_13 hn
  rw [Z34_l11]
  by_cases hlt : s7_13 < a0.FItems.l.length
  ·obtain ⟨h11, hh11⟩ : ∃ x, a0.FItems.l[s7_13]? = some x := ⟨_, List.getElem?_eq_getElem hlt⟩
   rw [Q.drop_of hh11, Z34_q11]
   refine Q.condAT (Q.ltT hlt) ?_
   refine Q.condO ?_ ?_
   ·refine Q.bindPO hh11 fun x19 hx_x19 => ?_
    refine Q.bindO rfl fun x20 => ?_
    refine Q.bindO rfl fun x21 => ?_
    all_goals exact ih11 _ _ ⟨by omega, by omega⟩
   all_goals exact hend n11 s5_12 s7_13
  rw [List.drop_of_length_le (by omega), Z34_q11]
  refine Q.condAF (Q.ltF hlt) ?_
  exact hend n11 s5_12 s7_13
def Z34_qn : Nat → TValue → Int → Option Int
 | 0, _, _ => none
 | n + 1, a0, a1 => (addC (1 : Int) ((a0.FText.length : Nat) : Int)).bind fun x4 => Option.bind (Z34_q23 a1 a0.FKeys.l x4) fun s5_24 => on (s5_24) fun s5_6 => Option.bind (Z34_q11 a1 (Z34_qn n) a0.FItems.l s5_6) fun s5_12 => on (s5_12) fun s5_8 => some s5_8
theorem Z34_qall : ∀ n : Nat, Z34_n n = Z34_qn n := by
 intro n
 induction n with
 | zero => exact (by funext a0 a1; first | rfl | (rw [Z34_n, Z34_qn]))
 | succ n ih =>
  funext a0 a1
  refine Eq.trans ?_ (Q.some_bind _)
  rw [Z34_n, Z34_qn]
  try rw [ih]
  refine Q.bindO rfl fun x4 => ?_
  refine Q.wrapOO fun Kb23 hKb23 => ?_
  refine Z34_l23_qe  Kb23 ?_ _ _ _ ⟨Nat.succ_pos _, by omega⟩
  intro n23 s5_24 s6_25
  refine Eq.trans ?_ (hKb23 _).symm
  refine Q.wrapPO fun Kj5 hKj5 => ?_
  have hj5 : ∀ (s5_6 : Int), Z34_j5 a0 a1 (Z34_qn n) s5_6 = Kj5 s5_6 := by
   intro s5_6
   refine Eq.trans ?_ (hKj5 _).symm
   unfold Z34_j5
   refine Q.wrapOO fun Kb11 hKb11 => ?_
   refine Z34_l11_qe  Kb11 ?_ _ _ _ ⟨Nat.succ_pos _, by omega⟩
   intro n11 s5_12 s7_13
   refine Eq.trans ?_ (hKb11 _).symm
   refine Q.wrapPO fun Kj7 hKj7 => ?_
   have hj7 : ∀ (s5_8 : Int), Z34_j7  s5_8 = Kj7 s5_8 := by
    intro s5_8
    refine Eq.trans ?_ (hKj7 _).symm
    unfold Z34_j7
    all_goals rfl
   all_goals exact hj7 _
  all_goals exact hj5 _
def Z34_q (a0 : TValue) (a1 : Int) : Option Int := Z34_qn F0 a0 a1
theorem Z34_eq (a0 : TValue) (a1 : Int) : Z34 a0 a1 = Z34_q a0 a1 := by
 unfold Z34 Z34_q; rw [(Z34_qall F0)]
def Z29_q7 (k_rec_18 : TValue → Option Int) : List TValue → Int → Option (Int)
 | [], s3_8 => some s3_8
 | h7 :: r7, s3_8 => on (h7) fun x15 => (k_rec_18 x15).bind fun x16 => (addC s3_8 x16).bind fun x17 => Z29_q7 k_rec_18 (r7) x17
theorem Z29_l7_qe {a0 : TValue} {k_rec_18 : TValue → Option Int}  (Kb7 : (Int) → Option Int) (hend : ∀ (n7 : Nat) (s3_8 : Int) (s4_9 : Nat), Z29_j3   s3_8 = Kb7 s3_8) : ∀ (n7 : Nat) (s3_8 : Int) (s4_9 : Nat), (0 < n7 ∧ a0.FItems.l.length < s4_9 + n7) → Z29_l7 a0 k_rec_18 n7 s3_8 s4_9 = Option.bind (Z29_q7 k_rec_18 (a0.FItems.l.drop s4_9) s3_8) Kb7 := by
 intro n7
 induction n7 with
 | zero => intro s3_8 s4_9 hn; exact absurd hn.1 (by omega)
 | succ n7 ih7 =>
  intro s3_8 s4_9 hn
  rw [Z29_l7]
  by_cases hlt : s4_9 < a0.FItems.l.length
  ·obtain ⟨h7, hh7⟩ : ∃ x, a0.FItems.l[s4_9]? = some x := ⟨_, List.getElem?_eq_getElem hlt⟩
   rw [Q.drop_of hh7, Z29_q7]
   refine Q.condT (Q.ltT hlt) ?_
   refine Q.bindPO hh7 fun x15 hx_x15 => ?_
   refine Q.bindO rfl fun x16 => ?_
   refine Q.bindO rfl fun x17 => ?_
   all_goals exact ih7 _ _ ⟨by omega, by omega⟩
  rw [List.drop_of_length_le (by omega), Z29_q7]
  refine Q.condF (Q.ltF hlt) ?_
  exact hend n7 s3_8 s4_9
def Z29_qn : Nat → TValue → Option Int
 | 0, _ => none
 | n + 1, a0 => Option.bind (Z29_q7 (Z29_qn n) a0.FItems.l (1 : Int)) fun s3_8 => on (s3_8) fun s3_4 => some s3_4
theorem Z29_qall : ∀ n : Nat, Z29_n n = Z29_qn n := by
 intro n
 induction n with
 | zero => exact (by funext a0; first | rfl | (rw [Z29_n, Z29_qn]))
 | succ n ih =>
  funext a0
  refine Eq.trans ?_ (Q.some_bind _)
  rw [Z29_n, Z29_qn]
  try rw [ih]
  refine Q.wrapOO fun Kb7 hKb7 => ?_
  refine Z29_l7_qe  Kb7 ?_ _ _ _ ⟨Nat.succ_pos _, by omega⟩
  intro n7 s3_8 s4_9
  refine Eq.trans ?_ (hKb7 _).symm
  refine Q.wrapPO fun Kj3 hKj3 => ?_
  have hj3 : ∀ (s3_4 : Int), Z29_j3  s3_4 = Kj3 s3_4 := by
   intro s3_4
   refine Eq.trans ?_ (hKj3 _).symm
   unfold Z29_j3
   all_goals rfl
  all_goals exact hj3 _
def Z29_q (a0 : TValue) : Option Int := Z29_qn F0 a0
theorem Z29_eq (a0 : TValue) : Z29 a0 = Z29_q a0 := by
 unfold Z29 Z29_q; rw [(Z29_qall F0)]
def Z26_q8 (k_rec_19 : TValue → Option Int) : List TValue → Int → Option (Int)
 | [], s3_9 => some s3_9
 | h8 :: r8, s3_9 => on (h8) fun x16 => (k_rec_19 x16).bind fun x17 => Z26_q8 k_rec_19 (r8) (if x17 > s3_9 then x17 else s3_9)
theorem Z26_l8_qe {a0 : TValue} {k_rec_19 : TValue → Option Int}  (Kb8 : (Int) → Option Int) (hend : ∀ (n8 : Nat) (s3_9 : Int) (s4_10 : Nat), Z26_j3   s3_9 = Kb8 s3_9) : ∀ (n8 : Nat) (s3_9 : Int) (s4_10 : Nat), (0 < n8 ∧ a0.FItems.l.length < s4_10 + n8) → Z26_l8 a0 k_rec_19 n8 s3_9 s4_10 = Option.bind (Z26_q8 k_rec_19 (a0.FItems.l.drop s4_10) s3_9) Kb8 := by
 intro n8
 induction n8 with
 | zero => intro s3_9 s4_10 hn; exact absurd hn.1 (by omega)
 | succ n8 ih8 =>
  intro s3_9 s4_10 hn
  rw [Z26_l8]
  by_cases hlt : s4_10 < a0.FItems.l.length
  ·obtain ⟨h8, hh8⟩ : ∃ x, a0.FItems.l[s4_10]? = some x := ⟨_, List.getElem?_eq_getElem hlt⟩
   rw [Q.drop_of hh8, Z26_q8]
   refine Q.condT (Q.ltT hlt) ?_
   refine Q.bindPO hh8 fun x16 hx_x16 => ?_
   refine Q.bindO rfl fun x17 => ?_
   all_goals exact ih8 _ _ ⟨by omega, by omega⟩
  rw [List.drop_of_length_le (by omega), Z26_q8]
  refine Q.condF (Q.ltF hlt) ?_
  exact hend n8 s3_9 s4_10
def Z26_qn : Nat → TValue → Option Int
 | 0, _ => none
 | n + 1, a0 => Option.bind (Z26_q8 (Z26_qn n) a0.FItems.l (0 : Int)) fun s3_9 => on (s3_9) fun s3_4 => (addC s3_4 (1 : Int)).bind fun x6 => some x6
theorem Z26_qall : ∀ n : Nat, Z26_n n = Z26_qn n := by
 intro n
 induction n with
 | zero => exact (by funext a0; first | rfl | (rw [Z26_n, Z26_qn]))
 | succ n ih =>
  funext a0
  refine Eq.trans ?_ (Q.some_bind _)
  rw [Z26_n, Z26_qn]
  try rw [ih]
  refine Q.wrapOO fun Kb8 hKb8 => ?_
  refine Z26_l8_qe  Kb8 ?_ _ _ _ ⟨Nat.succ_pos _, by omega⟩
  intro n8 s3_9 s4_10
  refine Eq.trans ?_ (hKb8 _).symm
  refine Q.wrapPO fun Kj3 hKj3 => ?_
  have hj3 : ∀ (s3_4 : Int), Z26_j3  s3_4 = Kj3 s3_4 := by
   intro s3_4
   refine Eq.trans ?_ (hKj3 _).symm
   unfold Z26_j3
   refine Q.bindO rfl fun x6 => ?_
   all_goals rfl
  all_goals exact hj3 _
def Z26_q (a0 : TValue) : Option Int := Z26_qn F0 a0
theorem Z26_eq (a0 : TValue) : Z26 a0 = Z26_q a0 := by
 unfold Z26 Z26_q; rw [(Z26_qall F0)]
def Z25_q (a0 : Int) : Bool := ((((decide ((65 : Int) ≤ a0)) && (decide (a0 ≤ (90 : Int)))) || ((decide ((97 : Int) ≤ a0)) && (decide (a0 ≤ (122 : Int))))) || (decide (a0 = (95 : Int))))
theorem Z25_eq (a0 : Int) : Z25 a0 = some (Z25_q a0) := by
 unfold Z25 Z25_q
 all_goals rfl
def Z21_q (a0 : Int) : Bool := ((decide ((48 : Int) ≤ a0)) && (decide (a0 ≤ (57 : Int))))
theorem Z21_eq (a0 : Int) : Z21 a0 = some (Z21_q a0) := by
 unfold Z21 Z21_q
 all_goals rfl
def Z19_q10  : List UInt8 → Nat → Unit ⊕ Bool
 | [], s3_11 => Sum.inl ()
 | h10 :: r10, s3_11 => on (h10) fun x18 => on (Z25_q ((x18.toNat : Nat) : Int)) fun x19 => on (bif ((!x19) && !(decide (((s3_11 : Nat) : Int) = (0 : Int)))) then h10 else (0 : UInt8)) fun x20 => on (bif ((!x19) && !(decide (((s3_11 : Nat) : Int) = (0 : Int)))) then Z21_q ((x20.toNat : Nat) : Int) else false) fun x21 => bif ((!x19) && ((decide (((s3_11 : Nat) : Int) = (0 : Int))) || (!x21))) then (Sum.inr false) else (Z19_q10  (r10) (s3_11 + 1) )
theorem Z19_l10_qe {a0 : Bs}  (Kb10 : (Unit ⊕ Bool) → Option Bool) (hend : ∀ (n10 : Nat) (s3_11 : Nat), Z19_j7    = Kb10 (Sum.inl ())) (hret : ∀ e : Bool, some e = Kb10 (Sum.inr e)) : ∀ (n10 : Nat) (s3_11 : Nat), (0 < n10 ∧ a0.length < s3_11 + n10) → Z19_l10 a0 n10 s3_11 = Kb10 (Z19_q10  (a0.drop s3_11) s3_11 ) := by
 intro n10
 induction n10 with
 | zero => intro s3_11 hn; exact absurd hn.1 (by omega)
 | succ n10 ih10 =>
  intro s3_11 hn
  rw [Z19_l10]
  by_cases hlt : s3_11 < a0.length
  ·obtain ⟨h10, hh10⟩ : ∃ x, a0[s3_11]? = some x := ⟨_, List.getElem?_eq_getElem hlt⟩
   rw [Q.drop_of hh10, Z19_q10]
   refine Q.condT (Q.ltT hlt) ?_
   refine Q.bindP hh10 fun x18 hx_x18 => ?_
   refine Q.bindP (Z25_eq _) fun x19 hx_x19 => ?_
   refine Q.guardP hh10 fun x20 hx_x20 => ?_
   refine Q.guardP (Z21_eq _) fun x21 hx_x21 => ?_
   refine Q.condP ?_ ?_
   ·all_goals exact hret _
   all_goals exact ih10 _ ⟨by omega, by omega⟩
  rw [List.drop_of_length_le (by omega), Z19_q10]
  refine Q.condF (Q.ltF hlt) ?_
  exact hend n10 s3_11
def Z19_q (a0 : Bs) : Bool := bif ((decide (((a0.length : Nat) : Int) < (1 : Int))) || (decide ((64 : Int) < ((a0.length : Nat) : Int)))) then (false) else (on (Z19_q10  a0 0 ) fun o10 => match o10 with | Sum.inl _ => (on (()) fun _ => true) | Sum.inr e10 => (e10))
theorem Z19_eq (a0 : Bs) : Z19 a0 = some (Z19_q a0) := by
 unfold Z19 Z19_q
 refine Q.condP ?_ ?_
 ·all_goals rfl
 refine Q.wrapPP fun Kb10 hKb10 => ?_
 refine Z19_l10_qe  Kb10 ?_ ?_ _ _ ⟨Nat.succ_pos _, by omega⟩
 ·intro n10 s3_11
  refine Eq.trans ?_ (hKb10 _).symm
  try dsimp only
  refine Q.wrapPP fun Kj7 hKj7 => ?_
  have hj7 : Z19_j7   = Kj7 () := by
   refine Eq.trans ?_ (hKj7 _).symm
   unfold Z19_j7
   all_goals rfl
  all_goals exact hj7
 intro e10
 refine Eq.trans ?_ (hKb10 _).symm
 try dsimp only
 all_goals rfl
end Go.Proofs

namespace Go.Proofs
open Go Go.Ab
def Z31_q13 (a0 : (Sl Bs)) (h5 : Bs) : Nat → Nat → Option (Unit ⊕ Bool)
 | 0, s4_14 => some (Sum.inl ())
 | r13 + 1, s4_14 => on (h5) fun x20 => (a0.l[s4_14]?).bind fun x21 => bif ((x20 == x21)) then (some (Sum.inr true)) else (Z31_q13 a0 h5 (r13) (s4_14 + 1) )
theorem Z31_l13_qe {a0 : (Sl Bs)} {s3_6 : Nat} {k_next_5 : Nat → Option Bool} {h5 : Bs} (hh5 : a0.l[s3_6]? = some h5) (Kb13 : (Unit ⊕ Bool) → Option Bool) (hend : ∀ (n13 : Nat) (s4_14 : Nat), Z31_j11 s3_6 k_next_5  = Kb13 (Sum.inl ())) (hret : ∀ e : Bool, some e = Kb13 (Sum.inr e)) : ∀ (n13 : Nat) (s4_14 : Nat), (0 < n13 ∧ s3_6 < s4_14 + n13) → Z31_l13 a0 s3_6 k_next_5 n13 s4_14 = Option.bind (Z31_q13 a0 h5 (s3_6 - s4_14) s4_14 ) Kb13 := by
 intro n13
 induction n13 with
 | zero => intro s4_14 hn; exact absurd hn.1 (by omega)
 | succ n13 ih13 =>
  intro s4_14 hn
  rw [Z31_l13]
  by_cases hlt : s4_14 < s3_6
  ·rw [show s3_6 - s4_14 = (s3_6 - (s4_14 + 1)) + 1 by omega, Z31_q13]
   refine Q.condT (Q.ltT hlt) ?_
   refine Q.bindPO hh5 fun x20 hx_x20 => ?_
   refine Q.bindO rfl fun x21 => ?_
   refine Q.condO ?_ ?_
   ·all_goals exact hret _
   all_goals exact ih13 _ ⟨by omega, by omega⟩
  rw [show s3_6 - s4_14 = 0 by omega, Z31_q13]
  refine Q.condF (Q.ltF hlt) ?_
  exact hend n13 s4_14
def Z31_q5 (a0 : (Sl Bs)) : List Bs → Nat → Option (Unit ⊕ Bool)
 | [], s3_6 => some (Sum.inl ())
 | h5 :: r5, s3_6 => Option.bind (Z31_q13 a0 h5 s3_6 0 ) fun o13 => match o13 with | Sum.inl _ => (on (()) fun _ => Z31_q5 a0 (r5) (s3_6 + 1) ) | Sum.inr e13 => (some (Sum.inr e13))
theorem Z31_l5_qe {a0 : (Sl Bs)}  (Kb5 : (Unit ⊕ Bool) → Option Bool) (hend : ∀ (n5 : Nat) (s3_6 : Nat), Z31_j2    = Kb5 (Sum.inl ())) (hret : ∀ e : Bool, some e = Kb5 (Sum.inr e)) : ∀ (n5 : Nat) (s3_6 : Nat), (0 < n5 ∧ a0.l.length < s3_6 + n5) → Z31_l5 a0 n5 s3_6 = Option.bind (Z31_q5 a0 (a0.l.drop s3_6) s3_6 ) Kb5 := by
 intro n5
 induction n5 with
 | zero => intro s3_6 hn; exact absurd hn.1 (by omega)
 | succ n5 ih5 =>
  intro s3_6 hn
  rw [Z31_l5]
  by_cases hlt : s3_6 < a0.l.length
  ·obtain ⟨h5, hh5⟩ : ∃ x, a0.l[s3_6]? = some x := ⟨_, List.getElem?_eq_getElem hlt⟩
   rw [Q.drop_of hh5, Z31_q5]
   refine Q.condT (Q.ltT hlt) ?_
   refine Q.wrapOO fun Kb13 hKb13 => ?_
   refine Z31_l13_qe hh5 Kb13 ?_ ?_ _ _ ⟨Nat.succ_pos _, by omega⟩
   ·intro n13 s4_14
    refine Eq.trans ?_ (hKb13 _).symm
    try dsimp only
    refine Q.wrapPO fun Kj11 hKj11 => ?_
    have hj11 : Z31_j11 s3_6 (Z31_l5 a0 n5)  = Kj11 () := by
     refine Eq.trans ?_ (hKj11 _).symm
     unfold Z31_j11
     all_goals exact ih5 _ ⟨by omega, by omega⟩
    all_goals exact hj11
   intro e13
   refine Eq.trans ?_ (hKb13 _).symm
   try dsimp only
   all_goals exact hret _
  rw [List.drop_of_length_le (by omega), Z31_q5]
  refine Q.condF (Q.ltF hlt) ?_
  exact hend n5 s3_6
def Z31_q (a0 : (Sl Bs)) : Option Bool := Option.bind (Z31_q5 a0 a0.l 0 ) fun o5 => match o5 with | Sum.inl _ => (on (()) fun _ => some false) | Sum.inr e5 => (some e5)
theorem Z31_eq (a0 : (Sl Bs)) : Z31 a0 = Z31_q a0 := by
 unfold Z31 Z31_q
 refine Eq.trans ?_ (Q.some_bind _)
 refine Q.wrapOO fun Kb5 hKb5 => ?_
 refine Z31_l5_qe  Kb5 ?_ ?_ _ _ ⟨Nat.succ_pos _, by omega⟩
 ·intro n5 s3_6
  refine Eq.trans ?_ (hKb5 _).symm
  try dsimp only
  refine Q.wrapPO fun Kj2 hKj2 => ?_
  have hj2 : Z31_j2   = Kj2 () := by
   refine Eq.trans ?_ (hKj2 _).symm
   unfold Z31_j2
   all_goals rfl
  all_goals exact hj2
 intro e5
 refine Eq.trans ?_ (hKb5 _).symm
 try dsimp only
 all_goals rfl
def Z30_q (a0 : TValue) (a1 : Bool) : Option Bool := bif (decide (a0.FKind = (0 : Int))) then (some ((((decide (a0.FInt = (0 : Int))) && ((a0.FText == ([] : Bs)))) && (decide (((a0.FItems.l.length : Nat) : Int) = (0 : Int)))) && (decide (((a0.FKeys.l.length : Nat) : Int) = (0 : Int))))) else (bif (decide (a0.FKind = (1 : Int))) then (some (((((decide (a0.FInt = (0 : Int))) || (decide (a0.FInt = (1 : Int)))) && ((a0.FText == ([] : Bs)))) && (decide (((a0.FItems.l.length : Nat) : Int) = (0 : Int)))) && (decide (((a0.FKeys.l.length : Nat) : Int) = (0 : Int))))) else (bif (decide (a0.FKind = (2 : Int))) then (some ((((a0.FText == ([] : Bs))) && (decide (((a0.FItems.l.length : Nat) : Int) = (0 : Int)))) && (decide (((a0.FKeys.l.length : Nat) : Int) = (0 : Int))))) else (bif (decide (a0.FKind = (3 : Int))) then (some (((decide (a0.FInt = (0 : Int))) && (decide (((a0.FItems.l.length : Nat) : Int) = (0 : Int)))) && (decide (((a0.FKeys.l.length : Nat) : Int) = (0 : Int))))) else (bif (decide (a0.FKind = (4 : Int))) then (on (bif (((decide (a0.FInt = (0 : Int))) && (decide (((a0.FItems.l.length : Nat) : Int) = (0 : Int)))) && (decide (((a0.FKeys.l.length : Nat) : Int) = (0 : Int)))) then Z19_q a0.FText else false) fun x19 => some (((((((decide (a0.FInt = (0 : Int))) && (decide (((a0.FItems.l.length : Nat) : Int) = (0 : Int)))) && (decide (((a0.FKeys.l.length : Nat) : Int) = (0 : Int)))) && x19) && (!(a0.FText == ([116, 114, 117, 101] : Bs)))) && (!(a0.FText == ([102, 97, 108, 115, 101] : Bs)))) && (!(a0.FText == ([110, 117, 108, 108] : Bs))))) else (bif (decide (a0.FKind = (5 : Int))) then (some (((decide (a0.FInt = (0 : Int))) && ((a0.FText == ([] : Bs)))) && (decide (((a0.FKeys.l.length : Nat) : Int) = (0 : Int))))) else (bif (decide (a0.FKind = (6 : Int))) then (guardO ((((decide (a0.FInt = (0 : Int))) && ((a0.FText == ([] : Bs)))) && (decide (((a0.FKeys.l.length : Nat) : Int) = ((a0.FItems.l.length : Nat) : Int))))) (Z31_q a0.FKeys) false fun x26 => some ((((decide (a0.FInt = (0 : Int))) && ((a0.FText == ([] : Bs)))) && (decide (((a0.FKeys.l.length : Nat) : Int) = ((a0.FItems.l.length : Nat) : Int)))) && (!x26))) else (bif (decide (a0.FKind = (7 : Int))) then (on (bif (((a1 && (decide (a0.FInt = (0 : Int)))) && (decide (((a0.FItems.l.length : Nat) : Int) = (0 : Int)))) && (decide (((a0.FKeys.l.length : Nat) : Int) = (0 : Int)))) then Z19_q a0.FText else false) fun x30 => some ((((a1 && (decide (a0.FInt = (0 : Int)))) && (decide (((a0.FItems.l.length : Nat) : Int) = (0 : Int)))) && (decide (((a0.FKeys.l.length : Nat) : Int) = (0 : Int)))) && x30)) else (some false))))))))
theorem Z30_eq (a0 : TValue) (a1 : Bool) : Z30 a0 a1 = Z30_q a0 a1 := by
 unfold Z30 Z30_q
 refine Eq.trans ?_ (Q.some_bind _)
 refine Q.condO ?_ ?_
 ·all_goals rfl
 refine Q.condO ?_ ?_
 ·all_goals rfl
 refine Q.condO ?_ ?_
 ·all_goals rfl
 refine Q.condO ?_ ?_
 ·all_goals rfl
 refine Q.condO ?_ ?_
 ·refine Q.guardPO (Z19_eq _) fun x19 hx_x19 => ?_
  all_goals rfl
 refine Q.condO ?_ ?_
 ·all_goals rfl
 refine Q.condO ?_ ?_
 ·refine Q.guardOO (Z31_eq _) fun x26 => ?_
  all_goals rfl
 refine Q.condO ?_ ?_
 ·refine Q.guardPO (Z19_eq _) fun x30 hx_x30 => ?_
  all_goals rfl
 all_goals rfl
def Z32_q24 (a1 : Bool) : List Bs → Unit ⊕ Bool
 | [] => Sum.inl ()
 | h24 :: r24 => on (bif a1 then h24 else ([] : Bs)) fun x32 => on (bif a1 then Z19_q x32 else false) fun x33 => bif (a1 && (!x33)) then (Sum.inr false) else (Z32_q24 a1 (r24) )
theorem Z32_l24_qe {a0 : TValue} {a1 : Bool} {k_rec_20 : TValue → Bool → Option Bool}  (Kb24 : (Unit ⊕ Bool) → Option Bool) (hend : ∀ (n24 : Nat) (s5_25 : Nat), Z32_j7 a0 a1 k_rec_20  = Kb24 (Sum.inl ())) (hret : ∀ e : Bool, some e = Kb24 (Sum.inr e)) : ∀ (n24 : Nat) (s5_25 : Nat), (0 < n24 ∧ a0.FKeys.l.length < s5_25 + n24) → Z32_l24 a0 a1 k_rec_20 n24 s5_25 = Kb24 (Z32_q24 a1 (a0.FKeys.l.drop s5_25) ) := by
 intro n24
 induction n24 with
 | zero => intro s5_25 hn; exact absurd hn.1 (by omega)
 | succ n24 ih24 =>
  intro s5_25 hn
  rw [Z32_l24]
  by_cases hlt : s5_25 < a0.FKeys.l.length
  ·obtain ⟨h24, hh24⟩ : ∃ x, a0.FKeys.l[s5_25]? = some x := ⟨_, List.getElem?_eq_getElem hlt⟩
   rw [Q.drop_of hh24, Z32_q24]
   refine Q.condT (Q.ltT hlt) ?_
   refine Q.guardP hh24 fun x32 hx_x32 => ?_
   refine Q.guardP (Z19_eq _) fun x33 hx_x33 => ?_
   refine Q.condP ?_ ?_
   ·all_goals exact hret _
   all_goals exact ih24 _ ⟨by omega, by omega⟩
  rw [List.drop_of_length_le (by omega), Z32_q24]
  refine Q.condF (Q.ltF hlt) ?_
  exact hend n24 s5_25
def Z32_q11 (a1 : Bool) (k_rec_20 : TValue → Bool → Option Bool) : List TValue → Option (Unit ⊕ Bool)
 | [] => some (Sum.inl ())
 | h11 :: r11 => on (h11) fun x19 => (k_rec_20 x19 a1).bind fun x20 => bif (!x20) then (some (Sum.inr false)) else (Z32_q11 a1 k_rec_20 (r11) )
theorem Z32_l11_qe {a0 : TValue} {a1 : Bool} {k_rec_20 : TValue → Bool → Option Bool}  (Kb11 : (Unit ⊕ Bool) → Option Bool) (hend : ∀ (n11 : Nat) (s6_12 : Nat), Z32_j8    = Kb11 (Sum.inl ())) (hret : ∀ e : Bool, some e = Kb11 (Sum.inr e)) : ∀ (n11 : Nat) (s6_12 : Nat), (0 < n11 ∧ a0.FItems.l.length < s6_12 + n11) → Z32_l11 a0 a1 k_rec_20 n11 s6_12 = Option.bind (Z32_q11 a1 k_rec_20 (a0.FItems.l.drop s6_12) ) Kb11 := by
 intro n11
 induction n11 with
 | zero => intro s6_12 hn; exact absurd hn.1 (by omega)
 | succ n11 ih11 =>
  intro s6_12 hn
  rw [Z32_l11]
  by_cases hlt : s6_12 < a0.FItems.l.length
  ·obtain ⟨h11, hh11⟩ : ∃ x, a0.FItems.l[s6_12]? = some x := ⟨_, List.getElem?_eq_getElem hlt⟩
   rw [Q.drop_of hh11, Z32_q11]
   refine Q.condT (Q.ltT hlt) ?_
   refine Q.bindPO hh11 fun x19 hx_x19 => ?_
   refine Q.bindO rfl fun x20 => ?_
   refine Q.condO ?_ ?_
   ·all_goals exact hret _
   all_goals exact ih11 _ ⟨by omega, by omega⟩
  rw [List.drop_of_length_le (by omega), Z32_q11]
  refine Q.condF (Q.ltF hlt) ?_
  exact hend n11 s6_12
def Z32_qn : Nat → TValue → Bool → Option Bool
 | 0, _, _ => none
 | n + 1, a0, a1 => (Z30_q a0 a1).bind fun x4 => bif (!x4) then (some false) else (on (Z32_q24 a1 a0.FKeys.l ) fun o24 => match o24 with | Sum.inl _ => (on (()) fun _ => Option.bind (Z32_q11 a1 (Z32_qn n) a0.FItems.l ) fun o11 => match o11 with | Sum.inl _ => (on (()) fun _ => some true) | Sum.inr e11 => (some e11)) | Sum.inr e24 => (some e24))
theorem Z32_qall : ∀ n : Nat, Z32_n n = Z32_qn n := by
 intro n
 induction n with
 | zero => exact (by funext a0 a1; first | rfl | (rw [Z32_n, Z32_qn]))
 | succ n ih =>
  funext a0 a1
  refine Eq.trans ?_ (Q.some_bind _)
  rw [Z32_n, Z32_qn]
  try rw [ih]
  refine Q.bindO (Z30_eq _ _) fun x4 => ?_
  refine Q.condO ?_ ?_
  ·all_goals rfl
  refine Q.wrapPO fun Kb24 hKb24 => ?_
  refine Z32_l24_qe  Kb24 ?_ ?_ _ _ ⟨Nat.succ_pos _, by omega⟩
  ·intro n24 s5_25
   refine Eq.trans ?_ (hKb24 _).symm
   try dsimp only
   refine Q.wrapPO fun Kj7 hKj7 => ?_
   have hj7 : Z32_j7 a0 a1 (Z32_qn n)  = Kj7 () := by
    refine Eq.trans ?_ (hKj7 _).symm
    unfold Z32_j7
    refine Q.wrapOO fun Kb11 hKb11 => ?_
    refine Z32_l11_qe  Kb11 ?_ ?_ _ _ ⟨Nat.succ_pos _, by omega⟩
    ·intro n11 s6_12
     refine Eq.trans ?_ (hKb11 _).symm
     try dsimp only
     refine Q.wrapPO fun Kj8 hKj8 => ?_
     have hj8 : Z32_j8   = Kj8 () := by
      refine Eq.trans ?_ (hKj8 _).symm
      unfold Z32_j8
      all_goals rfl
     all_goals exact hj8
    intro e11
    refine Eq.trans ?_ (hKb11 _).symm
    try dsimp only
    all_goals rfl
   all_goals exact hj7
  intro e24
  refine Eq.trans ?_ (hKb24 _).symm
  try dsimp only
  all_goals rfl
def Z32_q (a0 : TValue) (a1 : Bool) : Option Bool := Z32_qn F0 a0 a1
theorem Z32_eq (a0 : TValue) (a1 : Bool) : Z32 a0 a1 = Z32_q a0 a1 := by
 unfold Z32 Z32_q; rw [(Z32_qall F0)]
def Z27_q (a0 : TValue) : Option Bool := (Z29_q a0).bind fun x3 => guardO ((decide (x3 ≤ (4096 : Int)))) (Z26_q a0) (0 : Int) fun x4 => guardO (((decide (x3 ≤ (4096 : Int))) && (decide (x4 ≤ (24 : Int))))) (Z32_q a0 true) false fun x5 => some (((decide (x3 ≤ (4096 : Int))) && (decide (x4 ≤ (24 : Int)))) && x5)
theorem Z27_eq (a0 : TValue) : Z27 a0 = Z27_q a0 := by
 unfold Z27 Z27_q
 refine Eq.trans ?_ (Q.some_bind _)
 refine Q.bindO (Z29_eq _) fun x3 => ?_
 refine Q.guardOO (Z26_eq _) fun x4 => ?_
 refine Q.guardOO (Z32_eq _ _) fun x5 => ?_
 all_goals rfl
def Z28_q (a0 : TValue) : Option Bool := (Z29_q a0).bind fun x3 => guardO ((decide (x3 ≤ (4096 : Int)))) (Z26_q a0) (0 : Int) fun x4 => guardO (((decide (x3 ≤ (4096 : Int))) && (decide (x4 ≤ (24 : Int))))) (Z32_q a0 false) false fun x5 => some (((decide (x3 ≤ (4096 : Int))) && (decide (x4 ≤ (24 : Int)))) && x5)
theorem Z28_eq (a0 : TValue) : Z28 a0 = Z28_q a0 := by
 unfold Z28 Z28_q
 refine Eq.trans ?_ (Q.some_bind _)
 refine Q.bindO (Z29_eq _) fun x3 => ?_
 refine Q.guardOO (Z26_eq _) fun x4 => ?_
 refine Q.guardOO (Z32_eq _ _) fun x5 => ?_
 all_goals rfl
def Z22_qn : Nat → Int → Option Bs
 | 0, _ => none
 | n + 1, a0 => (subC (48 : Int) (Int.tmod a0 (10 : Int))).bind fun x3 => bif (decide ((-10 : Int) < a0)) then (some (bytesC (⟨false, [(IntKind.wrap .u8 x3)]⟩ : Sl Int))) else (((Z22_qn n) (IntKind.wrap .i64 (Int.tdiv a0 (10 : Int)))).bind fun x9 => (catC x9 (bytesC (⟨false, [(IntKind.wrap .u8 x3)]⟩ : Sl Int))).bind fun x10 => some x10)
theorem Z22_qall : ∀ n : Nat, Z22_n n = Z22_qn n := by
 intro n
 induction n with
 | zero => exact (by funext a0; first | rfl | (rw [Z22_n, Z22_qn]))
 | succ n ih =>
  funext a0
  refine Eq.trans ?_ (Q.some_bind _)
  rw [Z22_n, Z22_qn]
  try rw [ih]
  refine Q.bindO rfl fun x3 => ?_
  refine Q.condO ?_ ?_
  ·all_goals rfl
  refine Q.bindO rfl fun x9 => ?_
  refine Q.bindO rfl fun x10 => ?_
  all_goals rfl
def Z22_q (a0 : Int) : Option Bs := Z22_qn F0 a0
theorem Z22_eq (a0 : Int) : Z22 a0 = Z22_q a0 := by
 unfold Z22 Z22_q; rw [(Z22_qall F0)]
def Z18_q (a0 : Int) : Option Bs := bif (decide (a0 < (0 : Int))) then ((Z22_q a0).bind fun x6 => (catC ([45] : Bs) x6).bind fun x7 => some x7) else ((Z22_q (IntKind.wrap .i64 (0 - a0))).bind fun x9 => some x9)
theorem Z18_eq (a0 : Int) : Z18 a0 = Z18_q a0 := by
 unfold Z18 Z18_q
 refine Eq.trans ?_ (Q.some_bind _)
 refine Q.condO ?_ ?_
 ·refine Q.bindO (Z22_eq _) fun x6 => ?_
  refine Q.bindO rfl fun x7 => ?_
  all_goals rfl
 refine Q.bindO (Z22_eq _) fun x9 => ?_
 all_goals rfl
def Z24_q (a0 : Int) : Int := bif (decide (a0 < (10 : Int))) then ((IntKind.wrap .u8 ((48 : Int) + a0))) else ((IntKind.wrap .u8 ((87 : Int) + a0)))
theorem Z24_eq (a0 : Int) : Z24 a0 = some (Z24_q a0) := by
 unfold Z24 Z24_q
 refine Q.condP ?_ ?_
 ·all_goals rfl
 all_goals rfl
def Z23_q (a0 : Int) : Option Bs := bif (decide (a0 = (34 : Int))) then (some ([92, 34] : Bs)) else (bif (decide (a0 = (92 : Int))) then (some ([92, 92] : Bs)) else (bif (decide (a0 = (10 : Int))) then (some ([92, 110] : Bs)) else (bif (decide (a0 = (13 : Int))) then (some ([92, 114] : Bs)) else (bif (decide (a0 = (9 : Int))) then (some ([92, 116] : Bs)) else (bif ((decide (a0 < (32 : Int))) || (decide ((126 : Int) < a0))) then (on (Z24_q (IntKind.wrap .u8 (Int.tdiv a0 (16 : Int)))) fun x23 => on (Z24_q (Int.tmod a0 (16 : Int))) fun x24 => (catC ([92, 117, 48, 48] : Bs) (bytesC (⟨false, [x23, x24]⟩ : Sl Int))).bind fun x25 => some x25) else (some (bytesC (⟨false, [a0]⟩ : Sl Int))))))))
theorem Z23_eq (a0 : Int) : Z23 a0 = Z23_q a0 := by
 unfold Z23 Z23_q
 refine Eq.trans ?_ (Q.some_bind _)
 refine Q.condO ?_ ?_
 ·all_goals rfl
 refine Q.condO ?_ ?_
 ·all_goals rfl
 refine Q.condO ?_ ?_
 ·all_goals rfl
 refine Q.condO ?_ ?_
 ·all_goals rfl
 refine Q.condO ?_ ?_
 ·all_goals rfl
 refine Q.condO ?_ ?_
 ·refine Q.bindPO (Z24_eq _) fun x23 hx_x23 => ?_
  refine Q.bindPO (Z24_eq _) fun x24 hx_x24 => ?_
  refine Q.bindO rfl fun x25 => ?_
  all_goals rfl
 all_goals rfl
def Z20_q8  : List UInt8 → Bs → Option (Bs)
 | [], s3_9 => some s3_9
 | h8 :: r8, s3_9 => on (h8) fun x16 => (Z23_q ((x16.toNat : Nat) : Int)).bind fun x17 => (catC s3_9 x17).bind fun x18 => Z20_q8  (r8) x18
theorem Z20_l8_qe {a0 : Bs}  (Kb8 : (Bs) → Option Bs) (hend : ∀ (n8 : Nat) (s3_9 : Bs) (s4_10 : Nat), Z20_j3   s3_9 = Kb8 s3_9) : ∀ (n8 : Nat) (s3_9 : Bs) (s4_10 : Nat), (0 < n8 ∧ a0.length < s4_10 + n8) → Z20_l8 a0 n8 s3_9 s4_10 = Option.bind (Z20_q8  (a0.drop s4_10) s3_9) Kb8 := by
 intro n8
 induction n8 with
 | zero => intro s3_9 s4_10 hn; exact absurd hn.1 (by omega)
 | succ n8 ih8 =>
  intro s3_9 s4_10 hn
  rw [Z20_l8]
  by_cases hlt : s4_10 < a0.length
  ·obtain ⟨h8, hh8⟩ : ∃ x, a0[s4_10]? = some x := ⟨_, List.getElem?_eq_getElem hlt⟩
   rw [Q.drop_of hh8, Z20_q8]
   refine Q.condT (Q.ltT hlt) ?_
   refine Q.bindPO hh8 fun x16 hx_x16 => ?_
   refine Q.bindO (Z23_eq _) fun x17 => ?_
   refine Q.bindO rfl fun x18 => ?_
   all_goals exact ih8 _ _ ⟨by omega, by omega⟩
  rw [List.drop_of_length_le (by omega), Z20_q8]
  refine Q.condF (Q.ltF hlt) ?_
  exact hend n8 s3_9 s4_10
def Z20_q (a0 : Bs) : Option Bs := Option.bind (Z20_q8  a0 ([34] : Bs)) fun s3_9 => on (s3_9) fun s3_4 => (catC s3_4 ([34] : Bs)).bind fun x6 => some x6
theorem Z20_eq (a0 : Bs) : Z20 a0 = Z20_q a0 := by
 unfold Z20 Z20_q
 refine Eq.trans ?_ (Q.some_bind _)
 refine Q.wrapOO fun Kb8 hKb8 => ?_
 refine Z20_l8_qe  Kb8 ?_ _ _ _ ⟨Nat.succ_pos _, by omega⟩
 intro n8 s3_9 s4_10
 refine Eq.trans ?_ (hKb8 _).symm
 refine Q.wrapPO fun Kj3 hKj3 => ?_
 have hj3 : ∀ (s3_4 : Bs), Z20_j3  s3_4 = Kj3 s3_4 := by
  intro s3_4
  refine Eq.trans ?_ (hKj3 _).symm
  unfold Z20_j3
  refine Q.bindO rfl fun x6 => ?_
  all_goals rfl
 all_goals exact hj3 _
def Z36_q37 (k_rec_23 : TValue → Option Bs) : List TValue → Nat → Bs → Option (Bs)
 | [], s4_39, s3_38 => some s3_38
 | h37 :: r37, s4_39, s3_38 => Option.bind (bif (decide ((0 : Int) < ((s4_39 : Nat) : Int))) then ((catC s3_38 ([44, 32] : Bs)).bind fun x53 => some x53) else (some s3_38)) fun s3_47 => on (h37) fun x48 => (k_rec_23 x48).bind fun x49 => (catC s3_47 x49).bind fun x50 => on (x50) fun s3_45 => Z36_q37 k_rec_23 (r37) (s4_39 + 1) s3_45
theorem Z36_l37_qe {a0 : TValue} {k_rec_23 : TValue → Option Bs}  (Kb37 : (Bs) → Option Bs) (hend : ∀ (n37 : Nat) (s3_38 : Bs) (s4_39 : Nat), Z36_j32   s3_38 = Kb37 s3_38) : ∀ (n37 : Nat) (s3_38 : Bs) (s4_39 : Nat), (0 < n37 ∧ a0.FItems.l.length < s4_39 + n37) → Z36_l37 a0 k_rec_23 n37 s3_38 s4_39 = Option.bind (Z36_q37 k_rec_23 (a0.FItems.l.drop s4_39) s4_39 s3_38) Kb37 := by
 intro n37
 induction n37 with
 | zero => intro s3_38 s4_39 hn; exact absurd hn.1 (by omega)
 | succ n37 ih37 =>
  intro s3_38 s4_39 hn
  rw [Z36_l37]
  by_cases hlt : s4_39 < a0.FItems.l.length
  ·obtain ⟨h37, hh37⟩ : ∃ x, a0.FItems.l[s4_39]? = some x := ⟨_, List.getElem?_eq_getElem hlt⟩
   rw [Q.drop_of hh37, Z36_q37]
   refine Q.condT (Q.ltT hlt) ?_
   refine Q.wrapOO fun Kj46 hKj46 => ?_
   have hj46 : ∀ (s3_47 : Bs), Z36_j46 a0 s4_39 (Z36_l37 a0 k_rec_23 n37) k_rec_23 s3_47 = Kj46 s3_47 := by
    intro s3_47
    refine Eq.trans ?_ (hKj46 _).symm
    unfold Z36_j46
    refine Q.bindPO hh37 fun x48 hx_x48 => ?_
    refine Q.bindO rfl fun x49 => ?_
    refine Q.bindO rfl fun x50 => ?_
    refine Q.wrapPO fun Kj44 hKj44 => ?_
    have hj44 : ∀ (s3_45 : Bs), Z36_j44 s4_39 (Z36_l37 a0 k_rec_23 n37) s3_45 = Kj44 s3_45 := by
     intro s3_45
     refine Eq.trans ?_ (hKj44 _).symm
     unfold Z36_j44
     all_goals exact ih37 _ _ ⟨by omega, by omega⟩
    all_goals exact hj44 _
   refine Q.condO ?_ ?_
   ·refine Q.bindO rfl fun x53 => ?_
    all_goals exact hj46 _
   all_goals exact hj46 _
  rw [List.drop_of_length_le (by omega), Z36_q37]
  refine Q.condF (Q.ltF hlt) ?_
  exact hend n37 s3_38 s4_39
def Z36_q62 (a0 : TValue) (k_rec_23 : TValue → Option Bs) : List TValue → Nat → Bs → Option (Bs)
 | [], s6_64, s5_63 => some s5_63
 | h62 :: r62, s6_64, s5_63 => bif (decide (((s6_64 : Nat) : Int) < ((a0.FKeys.l.length : Nat) : Int))) then (Option.bind (bif (decide ((0 : Int) < ((s6_64 : Nat) : Int))) then ((catC s5_63 ([44, 32] : Bs)).bind fun x81 => some x81) else (some s5_63)) fun s5_72 => (a0.FKeys.l[s6_64]?).bind fun x73 => (catC s5_72 x73).bind fun x74 => (catC x74 ([58, 32] : Bs)).bind fun x75 => on (h62) fun x76 => (k_rec_23 x76).bind fun x77 => (catC x75 x77).bind fun x78 => on (x78) fun s5_70 => Z36_q62 a0 k_rec_23 (r62) (s6_64 + 1) s5_70) else (some s5_63)
theorem Z36_l62_qe {a0 : TValue} {k_rec_23 : TValue → Option Bs}  (Kb62 : (Bs) → Option Bs) (hend : ∀ (n62 : Nat) (s5_63 : Bs) (s6_64 : Nat), Z36_j57   s5_63 = Kb62 s5_63) : ∀ (n62 : Nat) (s5_63 : Bs) (s6_64 : Nat), (0 < n62 ∧ a0.FItems.l.length < s6_64 + n62) → Z36_l62 a0 k_rec_23 n62 s5_63 s6_64 = Option.bind (Z36_q62 a0 k_rec_23 (a0.FItems.l.drop s6_64) s6_64 s5_63) Kb62 := by
 intro n62
 induction n62 with
 | zero => intro s5_63 s6_64 hn; exact absurd hn.1 (by omega)
 | succ n62 ih62 =>
  intro s5_63 s6_64 hn
  rw [Z36_l62]
  by_cases hlt : s6_64 < a0.FItems.l.length
  ·obtain ⟨h62, hh62⟩ : ∃ x, a0.FItems.l[s6_64]? = some x := ⟨_, List.getElem?_eq_getElem hlt⟩
   rw [Q.drop_of hh62, Z36_q62]
   refine Q.condAT (Q.ltT hlt) ?_
   refine Q.condO ?_ ?_
   ·refine Q.wrapOO fun Kj71 hKj71 => ?_
    have hj71 : ∀ (s5_72 : Bs), Z36_j71 a0 s6_64 (Z36_l62 a0 k_rec_23 n62) k_rec_23 s5_72 = Kj71 s5_72 := by
     intro s5_72
     refine Eq.trans ?_ (hKj71 _).symm
     unfold Z36_j71
     refine Q.bindO rfl fun x73 => ?_
     refine Q.bindO rfl fun x74 => ?_
     refine Q.bindO rfl fun x75 => ?_
     refine Q.bindPO hh62 fun x76 hx_x76 => ?_
     refine Q.bindO rfl fun x77 => ?_
     refine Q.bindO rfl fun x78 => ?_
     refine Q.wrapPO fun Kj69 hKj69 => ?_
     have hj69 : ∀ (s5_70 : Bs), Z36_j69 s6_64 (Z36_l62 a0 k_rec_23 n62) s5_70 = Kj69 s5_70 := by
      intro s5_70
      refine Eq.trans ?_ (hKj69 _).symm
      unfold Z36_j69
      all_goals exact ih62 _ _ ⟨by omega, by omega⟩
     all_goals exact hj69 _
    refine Q.condO ?_ ?_
    ·refine Q.bindO rfl fun x81 => ?_
     all_goals exact hj71 _
    all_goals exact hj71 _
   all_goals exact hend n62 s5_63 s6_64
  rw [List.drop_of_length_le (by omega), Z36_q62]
  refine Q.condAF (Q.ltF hlt) ?_
  exact hend n62 s5_63 s6_64
def Z36_qn : Nat → TValue → Option Bs
 | 0, _ => none
 | n + 1, a0 => bif (decide (a0.FKind = (0 : Int))) then (some ([110, 117, 108, 108] : Bs)) else (bif (decide (a0.FKind = (1 : Int))) then (bif (decide (a0.FInt = (0 : Int))) then (some ([102, 97, 108, 115, 101] : Bs)) else (some ([116, 114, 117, 101] : Bs))) else (bif (decide (a0.FKind = (2 : Int))) then ((Z18_q a0.FInt).bind fun x17 => some x17) else (bif (decide (a0.FKind = (3 : Int))) then ((Z20_q a0.FText).bind fun x21 => some x21) else (bif (decide (a0.FKind = (4 : Int))) then (some a0.FText) else (bif (decide (a0.FKind = (7 : Int))) then ((catC ([36] : Bs) a0.FText).bind fun x28 => some x28) else (bif (decide (a0.FKind = (5 : Int))) then (Option.bind (Z36_q37 (Z36_qn n) a0.FItems.l 0 ([91] : Bs)) fun s3_38 => on (s3_38) fun s3_33 => (catC s3_33 ([93] : Bs)).bind fun x35 => some x35) else (bif (decide (a0.FKind = (6 : Int))) then (Option.bind (Z36_q62 a0 (Z36_qn n) a0.FItems.l 0 ([123] : Bs)) fun s5_63 => on (s5_63) fun s5_58 => (catC s5_58 ([125] : Bs)).bind fun x60 => some x60) else (some ([] : Bs)))))))))
theorem Z36_qall : ∀ n : Nat, Z36_n n = Z36_qn n := by
 intro n
 induction n with
 | zero => exact (by funext a0; first | rfl | (rw [Z36_n, Z36_qn]))
 | succ n ih =>
  funext a0
  refine Eq.trans ?_ (Q.some_bind _)
  rw [Z36_n, Z36_qn]
  try rw [ih]
  refine Q.condO ?_ ?_
  ·all_goals rfl
  refine Q.condO ?_ ?_
  ·refine Q.condO ?_ ?_
   ·all_goals rfl
   all_goals rfl
  refine Q.condO ?_ ?_
  ·refine Q.bindO (Z18_eq _) fun x17 => ?_
   all_goals rfl
  refine Q.condO ?_ ?_
  ·refine Q.bindO (Z20_eq _) fun x21 => ?_
   all_goals rfl
  refine Q.condO ?_ ?_
  ·all_goals rfl
  refine Q.condO ?_ ?_
  ·refine Q.bindO rfl fun x28 => ?_
   all_goals rfl
  refine Q.condO ?_ ?_
  ·refine Q.wrapOO fun Kb37 hKb37 => ?_
   refine Z36_l37_qe  Kb37 ?_ _ _ _ ⟨Nat.succ_pos _, by omega⟩
   intro n37 s3_38 s4_39
   refine Eq.trans ?_ (hKb37 _).symm
   refine Q.wrapPO fun Kj32 hKj32 => ?_
   have hj32 : ∀ (s3_33 : Bs), Z36_j32  s3_33 = Kj32 s3_33 := by
    intro s3_33
    refine Eq.trans ?_ (hKj32 _).symm
    unfold Z36_j32
    refine Q.bindO rfl fun x35 => ?_
    all_goals rfl
   all_goals exact hj32 _
  refine Q.condO ?_ ?_
  ·refine Q.wrapOO fun Kb62 hKb62 => ?_
   refine Z36_l62_qe  Kb62 ?_ _ _ _ ⟨Nat.succ_pos _, by omega⟩
   intro n62 s5_63 s6_64
   refine Eq.trans ?_ (hKb62 _).symm
   refine Q.wrapPO fun Kj57 hKj57 => ?_
   have hj57 : ∀ (s5_58 : Bs), Z36_j57  s5_58 = Kj57 s5_58 := by
    intro s5_58
    refine Eq.trans ?_ (hKj57 _).symm
    unfold Z36_j57
    refine Q.bindO rfl fun x60 => ?_
    all_goals rfl
   all_goals exact hj57 _
  all_goals rfl
def Z36_q (a0 : TValue) : Option Bs := Z36_qn F0 a0
theorem Z36_eq (a0 : TValue) : Z36 a0 = Z36_q a0 := by
 unfold Z36 Z36_q; rw [(Z36_qall F0)]
def Z35_q7  : List TArg → Nat → Bs → Option (Bs)
 | [], s4_9, s3_8 => some s3_8
 | h7 :: r7, s4_9, s3_8 => Option.bind (bif (decide ((0 : Int) < ((s4_9 : Nat) : Int))) then ((catC s3_8 ([44, 32] : Bs)).bind fun x26 => some x26) else (some s3_8)) fun s3_17 => on (h7) fun x18 => (catC s3_17 x18.FName).bind fun x19 => (catC x19 ([58, 32] : Bs)).bind fun x20 => on (h7) fun x21 => (Z36_q x21.FValue).bind fun x22 => (catC x20 x22).bind fun x23 => on (x23) fun s3_15 => Z35_q7  (r7) (s4_9 + 1) s3_15
theorem Z35_l7_qe {a0 : (Sl TArg)}  (Kb7 : (Bs) → Option Bs) (hend : ∀ (n7 : Nat) (s3_8 : Bs) (s4_9 : Nat), Z35_j3   s3_8 = Kb7 s3_8) : ∀ (n7 : Nat) (s3_8 : Bs) (s4_9 : Nat), (0 < n7 ∧ a0.l.length < s4_9 + n7) → Z35_l7 a0 n7 s3_8 s4_9 = Option.bind (Z35_q7  (a0.l.drop s4_9) s4_9 s3_8) Kb7 := by
 intro n7
 induction n7 with
 | zero => intro s3_8 s4_9 hn; exact absurd hn.1 (by omega)
 | succ n7 ih7 =>
  intro s3_8 s4_9 hn
  rw [Z35_l7]
  by_cases hlt : s4_9 < a0.l.length
  ·obtain ⟨h7, hh7⟩ : ∃ x, a0.l[s4_9]? = some x := ⟨_, List.getElem?_eq_getElem hlt⟩
   rw [Q.drop_of hh7, Z35_q7]
   refine Q.condT (Q.ltT hlt) ?_
   refine Q.wrapOO fun Kj16 hKj16 => ?_
   have hj16 : ∀ (s3_17 : Bs), Z35_j16 a0 s4_9 (Z35_l7 a0 n7) s3_17 = Kj16 s3_17 := by
    intro s3_17
    refine Eq.trans ?_ (hKj16 _).symm
    unfold Z35_j16
    refine Q.bindPO hh7 fun x18 hx_x18 => ?_
    refine Q.bindO rfl fun x19 => ?_
    refine Q.bindO rfl fun x20 => ?_
    refine Q.bindPO hh7 fun x21 hx_x21 => ?_
    refine Q.bindO (Z36_eq _) fun x22 => ?_
    refine Q.bindO rfl fun x23 => ?_
    refine Q.wrapPO fun Kj14 hKj14 => ?_
    have hj14 : ∀ (s3_15 : Bs), Z35_j14 s4_9 (Z35_l7 a0 n7) s3_15 = Kj14 s3_15 := by
     intro s3_15
     refine Eq.trans ?_ (hKj14 _).symm
     unfold Z35_j14
     all_goals exact ih7 _ _ ⟨by omega, by omega⟩
    all_goals exact hj14 _
   refine Q.condO ?_ ?_
   ·refine Q.bindO rfl fun x26 => ?_
    all_goals exact hj16 _
   all_goals exact hj16 _
  rw [List.drop_of_length_le (by omega), Z35_q7]
  refine Q.condF (Q.ltF hlt) ?_
  exact hend n7 s3_8 s4_9
def Z35_q (a0 : (Sl TArg)) : Option Bs := Option.bind (Z35_q7  a0.l 0 ([] : Bs)) fun s3_8 => on (s3_8) fun s3_4 => some s3_4
theorem Z35_eq (a0 : (Sl TArg)) : Z35 a0 = Z35_q a0 := by
 unfold Z35 Z35_q
 refine Eq.trans ?_ (Q.some_bind _)
 refine Q.wrapOO fun Kb7 hKb7 => ?_
 refine Z35_l7_qe  Kb7 ?_ _ _ _ ⟨Nat.succ_pos _, by omega⟩
 intro n7 s3_8 s4_9
 refine Eq.trans ?_ (hKb7 _).symm
 refine Q.wrapPO fun Kj3 hKj3 => ?_
 have hj3 : ∀ (s3_4 : Bs), Z35_j3  s3_4 = Kj3 s3_4 := by
  intro s3_4
  refine Eq.trans ?_ (hKj3 _).symm
  unfold Z35_j3
  all_goals rfl
 all_goals exact hj3 _
def Z33_q24 (a1 : TValue) : List Bs → Nat → Option (Unit ⊕ Bool)
 | [], s5_25 => some (Sum.inl ())
 | h24 :: r24, s5_25 => on (h24) fun x32 => (a1.FKeys.l[s5_25]?).bind fun x33 => bif (!(x32 == x33)) then (some (Sum.inr false)) else (Z33_q24 a1 (r24) (s5_25 + 1) )
theorem Z33_l24_qe {a0 : TValue} {a1 : TValue} {k_rec_11 : TValue → TValue → Option Bool}  (Kb24 : (Unit ⊕ Bool) → Option Bool) (hend : ∀ (n24 : Nat) (s5_25 : Nat), Z33_j6 a0 a1 k_rec_11  = Kb24 (Sum.inl ())) (hret : ∀ e : Bool, some e = Kb24 (Sum.inr e)) : ∀ (n24 : Nat) (s5_25 : Nat), (0 < n24 ∧ a0.FKeys.l.length < s5_25 + n24) → Z33_l24 a0 a1 k_rec_11 n24 s5_25 = Option.bind (Z33_q24 a1 (a0.FKeys.l.drop s5_25) s5_25 ) Kb24 := by
 intro n24
 induction n24 with
 | zero => intro s5_25 hn; exact absurd hn.1 (by omega)
 | succ n24 ih24 =>
  intro s5_25 hn
  rw [Z33_l24]
  by_cases hlt : s5_25 < a0.FKeys.l.length
  ·obtain ⟨h24, hh24⟩ : ∃ x, a0.FKeys.l[s5_25]? = some x := ⟨_, List.getElem?_eq_getElem hlt⟩
   rw [Q.drop_of hh24, Z33_q24]
   refine Q.condT (Q.ltT hlt) ?_
   refine Q.bindPO hh24 fun x32 hx_x32 => ?_
   refine Q.bindO rfl fun x33 => ?_
   refine Q.condO ?_ ?_
   ·all_goals exact hret _
   all_goals exact ih24 _ ⟨by omega, by omega⟩
  rw [List.drop_of_length_le (by omega), Z33_q24]
  refine Q.condF (Q.ltF hlt) ?_
  exact hend n24 s5_25
def Z33_q10 (a1 : TValue) (k_rec_11 : TValue → TValue → Option Bool) : List TValue → Nat → Option (Unit ⊕ Bool)
 | [], s6_11 => some (Sum.inl ())
 | h10 :: r10, s6_11 => on (h10) fun x18 => (a1.FItems.l[s6_11]?).bind fun x19 => (k_rec_11 x18 x19).bind fun x20 => bif (!x20) then (some (Sum.inr false)) else (Z33_q10 a1 k_rec_11 (r10) (s6_11 + 1) )
theorem Z33_l10_qe {a0 : TValue} {a1 : TValue} {k_rec_11 : TValue → TValue → Option Bool}  (Kb10 : (Unit ⊕ Bool) → Option Bool) (hend : ∀ (n10 : Nat) (s6_11 : Nat), Z33_j7    = Kb10 (Sum.inl ())) (hret : ∀ e : Bool, some e = Kb10 (Sum.inr e)) : ∀ (n10 : Nat) (s6_11 : Nat), (0 < n10 ∧ a0.FItems.l.length < s6_11 + n10) → Z33_l10 a0 a1 k_rec_11 n10 s6_11 = Option.bind (Z33_q10 a1 k_rec_11 (a0.FItems.l.drop s6_11) s6_11 ) Kb10 := by
 intro n10
 induction n10 with
 | zero => intro s6_11 hn; exact absurd hn.1 (by omega)
 | succ n10 ih10 =>
  intro s6_11 hn
  rw [Z33_l10]
  by_cases hlt : s6_11 < a0.FItems.l.length
  ·obtain ⟨h10, hh10⟩ : ∃ x, a0.FItems.l[s6_11]? = some x := ⟨_, List.getElem?_eq_getElem hlt⟩
   rw [Q.drop_of hh10, Z33_q10]
   refine Q.condT (Q.ltT hlt) ?_
   refine Q.bindPO hh10 fun x18 hx_x18 => ?_
   refine Q.bindO rfl fun x19 => ?_
   refine Q.bindO rfl fun x20 => ?_
   refine Q.condO ?_ ?_
   ·all_goals exact hret _
   all_goals exact ih10 _ ⟨by omega, by omega⟩
  rw [List.drop_of_length_le (by omega), Z33_q10]
  refine Q.condF (Q.ltF hlt) ?_
  exact hend n10 s6_11
def Z33_qn : Nat → TValue → TValue → Option Bool
 | 0, _, _ => none
 | n + 1, a0, a1 => bif (((((!decide (a0.FKind = a1.FKind)) || (!decide (a0.FInt = a1.FInt))) || (!(a0.FText == a1.FText))) || (!decide (((a0.FItems.l.length : Nat) : Int) = ((a1.FItems.l.length : Nat) : Int)))) || (!decide (((a0.FKeys.l.length : Nat) : Int) = ((a1.FKeys.l.length : Nat) : Int)))) then (some false) else (Option.bind (Z33_q24 a1 a0.FKeys.l 0 ) fun o24 => match o24 with | Sum.inl _ => (on (()) fun _ => Option.bind (Z33_q10 a1 (Z33_qn n) a0.FItems.l 0 ) fun o10 => match o10 with | Sum.inl _ => (on (()) fun _ => some true) | Sum.inr e10 => (some e10)) | Sum.inr e24 => (some e24))
theorem Z33_qall : ∀ n : Nat, Z33_n n = Z33_qn n := by
 intro n
 induction n with
 | zero => exact (by funext a0 a1; first | rfl | (rw [Z33_n, Z33_qn]))
 | succ n ih =>
  funext a0 a1
  refine Eq.trans ?_ (Q.some_bind _)
  rw [Z33_n, Z33_qn]
  try rw [ih]
  refine Q.condO ?_ ?_
  ·all_goals rfl
  refine Q.wrapOO fun Kb24 hKb24 => ?_
  refine Z33_l24_qe  Kb24 ?_ ?_ _ _ ⟨Nat.succ_pos _, by omega⟩
  ·intro n24 s5_25
   refine Eq.trans ?_ (hKb24 _).symm
   try dsimp only
   refine Q.wrapPO fun Kj6 hKj6 => ?_
   have hj6 : Z33_j6 a0 a1 (Z33_qn n)  = Kj6 () := by
    refine Eq.trans ?_ (hKj6 _).symm
    unfold Z33_j6
    refine Q.wrapOO fun Kb10 hKb10 => ?_
    refine Z33_l10_qe  Kb10 ?_ ?_ _ _ ⟨Nat.succ_pos _, by omega⟩
    ·intro n10 s6_11
     refine Eq.trans ?_ (hKb10 _).symm
     try dsimp only
     refine Q.wrapPO fun Kj7 hKj7 => ?_
     have hj7 : Z33_j7   = Kj7 () := by
      refine Eq.trans ?_ (hKj7 _).symm
      unfold Z33_j7
      all_goals rfl
     all_goals exact hj7
    intro e10
    refine Eq.trans ?_ (hKb10 _).symm
    try dsimp only
    all_goals rfl
   all_goals exact hj6
  intro e24
  refine Eq.trans ?_ (hKb24 _).symm
  try dsimp only
  all_goals rfl
def Z33_q (a0 : TValue) (a1 : TValue) : Option Bool := Z33_qn F0 a0 a1
theorem Z33_eq (a0 : TValue) (a1 : TValue) : Z33 a0 a1 = Z33_q a0 a1 := by
 unfold Z33 Z33_q; rw [(Z33_qall F0)]
end Go.Proofs

namespace Go.Proofs
open Go Go.Ab
theorem Z29_loop (k : TValue → Option Int) (l : List TValue) (s : Int) (hk : ∀ x ∈ l, ∃ r, k x = some r ∧ 1 ≤ r ∧ r ≤ x.sz) (hs : 0 ≤ s) (hb : s + ((l.map TValue.sz).sum : Nat) ≤ 1152921504606846976) : ∃ r, Z29_q7 k l s = some r ∧ s ≤ r ∧ r ≤ s + ((l.map TValue.sz).sum : Nat) := by
 induction l generalizing s with
 | nil => exact ⟨s, rfl, by simp, by simp⟩
 | cons x r ih =>
  obtain ⟨v, h1, h2, h3⟩ := hk x List.mem_cons_self
  simp only [List.map_cons, List.sum_cons] at hb ⊢
  rw [Z29_q7]
  simp only [on, h1, Option.bind_some]
  rw [addC_ok (by omega)]
  simp only [Option.bind_some]
  obtain ⟨w, h4, h5, h6⟩ := ih (s + v) (fun y hy => hk y (List.mem_cons_of_mem _ hy)) (by omega) (by omega)
  exact ⟨w, h4, by omega, by omega⟩
theorem TValue.item_lt {v x : TValue} (h : x ∈ v.FItems.l) : x.sz < v.sz := by
 have h1 := v.sz_def; have h2 := Sl.mem_le (f := TValue.sz) h; omega
theorem TValue.items_sum (v : TValue) : 2 + (v.FItems.l.map TValue.sz).sum ≤ v.sz := by
 have h1 := v.sz_def; have h2 : Sl.sz TValue.sz v.FItems = 1 + (v.FItems.l.map TValue.sz).sum := rfl; omega
theorem Z29_tot (n : Nat) : ∀ v : TValue, v.sz < n → v.sz ≤ 1073741824 → ∃ r, Z29_qn n v = some r ∧ 1 ≤ r ∧ r ≤ v.sz := by
 induction n with
 | zero => intro v h; omega
 | succ n ih =>
  intro v h hb
  have h0 := v.items_sum
  obtain ⟨w, h4, h5, h6⟩ := Z29_loop (Z29_qn n) v.FItems.l 1 (fun x hx => by have := TValue.item_lt hx; exact ih x (by omega) (by omega)) (by omega) (by omega)
  rw [Z29_qn, h4]
  exact ⟨w, rfl, by omega, by omega⟩
theorem Z26_loop (k : TValue → Option Int) (l : List TValue) (s b : Int) (hk : ∀ x ∈ l, ∃ r, k x = some r ∧ 1 ≤ r ∧ r ≤ b) (hs : 0 ≤ s ∧ s ≤ b) : ∃ r, Z26_q8 k l s = some r ∧ 0 ≤ r ∧ r ≤ b := by
 induction l generalizing s with
 | nil => exact ⟨s, rfl, by omega, by omega⟩
 | cons x r ih =>
  obtain ⟨v, h1, h2, h3⟩ := hk x List.mem_cons_self
  rw [Z26_q8]
  simp only [on, h1, Option.bind_some]
  exact ih _ (fun y hy => hk y (List.mem_cons_of_mem _ hy)) (by split <;> omega)
theorem Z26_tot (n : Nat) : ∀ v : TValue, v.sz < n → v.sz ≤ 1073741824 → ∃ r, Z26_qn n v = some r ∧ 1 ≤ r ∧ r ≤ v.sz := by
 induction n with
 | zero => intro v h; omega
 | succ n ih =>
  intro v h hb
  have h0 := v.items_sum
  obtain ⟨w, h4, h5, h6⟩ := Z26_loop (Z26_qn n) v.FItems.l 0 (v.sz - 1 : Nat) (fun x hx => by have := TValue.item_lt hx; obtain ⟨r, h7, h8, h9⟩ := ih x (by omega) (by omega); exact ⟨r, h7, h8, by omega⟩) (by omega)
  rw [Z26_qn, h4]
  simp only [on, Option.bind_some]
  rw [addC_ok (by omega)]
  exact ⟨w + 1, rfl, by omega, by omega⟩
theorem Z31_in (a : Sl Bs) (x : Bs) (m i : Nat) (h : i + m ≤ a.l.length) : Ok (Z31_q13 a x m i) := by
 induction m generalizing i with
 | zero => exact Tot.some _
 | succ m ih =>
  rw [Z31_q13]
  (repeat' (first | exact Tot.some _ | assumption | (with_reducible refine Tot.bind ?_ fun _ _ => ?_) | (with_reducible refine Tot.guard (fun _ => ?_) fun _ _ _ => ?_) | (with_reducible refine Tot.cond (fun _ => ?_) fun _ => ?_) | (with_reducible refine Tot.on fun _ _ => ?_) | split))
  ·exact get_ok (by omega)
  ·exact ih _ (by omega)
theorem Z31_out (a : Sl Bs) (l : List Bs) (i : Nat) (h : i + l.length = a.l.length) : Ok (Z31_q5 a l i) := by
 induction l generalizing i with
 | nil => exact Tot.some _
 | cons x r ih =>
  simp only [List.length_cons] at h
  rw [Z31_q5]
  (repeat' (first | exact Tot.some _ | assumption | (with_reducible refine Tot.bind ?_ fun _ _ => ?_) | (with_reducible refine Tot.guard (fun _ => ?_) fun _ _ _ => ?_) | (with_reducible refine Tot.cond (fun _ => ?_) fun _ => ?_) | (with_reducible refine Tot.on fun _ _ => ?_) | split))
  ·exact Z31_in a x _ _ (by omega)
  ·exact ih _ (by omega)
theorem Z31_ok (a : Sl Bs) : Ok (Z31_q a) := by
 unfold Z31_q
 (repeat' (first | exact Tot.some _ | assumption | (with_reducible refine Tot.bind ?_ fun _ _ => ?_) | (with_reducible refine Tot.guard (fun _ => ?_) fun _ _ _ => ?_) | (with_reducible refine Tot.cond (fun _ => ?_) fun _ => ?_) | (with_reducible refine Tot.on fun _ _ => ?_) | split))
 exact Z31_out a _ _ (by simp)
theorem Z30_ok (v : TValue) (b : Bool) : Ok (Z30_q v b) := by
 unfold Z30_q
 (repeat' (first | exact Tot.some _ | assumption | (with_reducible refine Tot.bind ?_ fun _ _ => ?_) | (with_reducible refine Tot.guard (fun _ => ?_) fun _ _ _ => ?_) | (with_reducible refine Tot.cond (fun _ => ?_) fun _ => ?_) | (with_reducible refine Tot.on fun _ _ => ?_) | split))
 exact Z31_ok _
theorem Z32_loop (b : Bool) (k : TValue → Bool → Option Bool) (l : List TValue) (hk : ∀ x ∈ l, Ok (k x b)) : Ok (Z32_q11 b k l) := by
 induction l with
 | nil => exact Tot.some _
 | cons x r ih =>
  rw [Z32_q11]
  (repeat' (first | exact Tot.some _ | assumption | (with_reducible refine Tot.bind ?_ fun _ _ => ?_) | (with_reducible refine Tot.guard (fun _ => ?_) fun _ _ _ => ?_) | (with_reducible refine Tot.cond (fun _ => ?_) fun _ => ?_) | (with_reducible refine Tot.on fun _ _ => ?_) | split))
  ·rename_i h; rw [h]; exact hk x List.mem_cons_self
  ·exact ih fun y hy => hk y (List.mem_cons_of_mem _ hy)
theorem Z32_tot (n : Nat) : ∀ (v : TValue) (b : Bool), v.sz < n → Ok (Z32_qn n v b) := by
 induction n with
 | zero => intro v b h; omega
 | succ n ih =>
  intro v b h
  rw [Z32_qn]
  (repeat' (first | exact Tot.some _ | assumption | (with_reducible refine Tot.bind ?_ fun _ _ => ?_) | (with_reducible refine Tot.guard (fun _ => ?_) fun _ _ _ => ?_) | (with_reducible refine Tot.cond (fun _ => ?_) fun _ => ?_) | (with_reducible refine Tot.on fun _ _ => ?_) | split))
  ·exact Z30_ok _ _
  ·exact Z32_loop b _ _ fun x hx => ih x b (by have := TValue.item_lt hx; omega)
def Gr (o : Option Int) (s : Int) (b : Nat) : Prop := ∃ r, o = some r ∧ s ≤ r ∧ r ≤ s + b
theorem Gr.refl (s : Int) (b : Nat) : Gr (some s) s b := ⟨s, rfl, by omega, by omega⟩
theorem Gr.bind {o : Option Int} {k : Int → Option Int} {s : Int} {a b c : Nat} (h : Gr o s a) (hc : a + b ≤ c) (hk : ∀ r, s ≤ r → r ≤ s + a → Gr (k r) r b) : Gr (o.bind k) s c := by
 obtain ⟨r, e, h1, h2⟩ := h
 obtain ⟨r2, e2, h3, h4⟩ := hk r h1 h2
 exact ⟨r2, by rw [e]; exact e2, by omega, by omega⟩
theorem Gr.add {x s : Int} {b : Nat} (hx : 0 ≤ x ∧ x ≤ b) (hs : 0 ≤ s ∧ s + b ≤ 1099511627776) : Gr (addC s x) s b := ⟨s + x, addC_ok (by omega), by omega, by omega⟩
theorem Gr.part {o : Option Int} {s : Int} {b : Nat} (h : Gr o 0 b) (hs : 0 ≤ s ∧ s + b ≤ 1099511627776) : Gr (o.bind fun x => addC s x) s b := by
 obtain ⟨r, e, h1, h2⟩ := h
 rw [e]; exact Gr.add (by omega) hs
theorem keys_w (a1 : Int) : ∀ (l : List Bs) (s : Int), 0 ≤ s → s + (l.map Bs.sz).sum ≤ 1073741824 → Gr (Z34_q23 a1 l s) s (l.map Bs.sz).sum
 | [], s, _, _ => Gr.refl _ _
 | a :: r, s, h0, h => by
  simp only [List.map_cons, List.sum_cons] at h ⊢
  rw [Z34_q23]
  cases decide (s ≤ a1) with
  | false => exact Gr.refl _ _
  | true =>
   simp only [cond_true, Ab.on]
   have hb : Bs.sz a = a.length + 1 := rfl
   refine Gr.bind (a := 1) (b := a.length + (r.map Bs.sz).sum) (Gr.add (by omega) (by omega)) (by omega) fun x h1 h2 => ?_
   refine Gr.bind (a := a.length) (b := (r.map Bs.sz).sum) (Gr.add (by omega) (by omega)) (by omega) fun y h3 h4 => ?_
   exact keys_w a1 r y (by omega) (by omega)
theorem value_w (a1 : Int) (n : Nat) : ∀ v : TValue, v.sz < n → v.sz ≤ 1048576 → Gr (Z34_qn n v a1) 0 v.sz := by
 induction n with
 | zero => intro v h; omega
 | succ n ih =>
  intro v hn hs
  have hd := v.sz_def
  have ht : Bs.sz v.FText = v.FText.length + 1 := rfl
  have hk : Sl.sz Bs.sz v.FKeys = 1 + (v.FKeys.l.map Bs.sz).sum := rfl
  have hi : Sl.sz TValue.sz v.FItems = 1 + (v.FItems.l.map TValue.sz).sum := rfl
  have hl : ∀ (l : List TValue) (s : Int), (∀ x ∈ l, x.sz < n ∧ x.sz ≤ 1048576) → 0 ≤ s → s + (l.map TValue.sz).sum ≤ 1073741824 → Gr (Z34_q11 a1 (Z34_qn n) l s) s (l.map TValue.sz).sum := by
   intro l
   induction l with
   | nil => intro s _ _ _; exact Gr.refl _ _
   | cons a r ihl =>
    intro s hx h0 h
    simp only [List.map_cons, List.sum_cons] at h ⊢
    rw [Z34_q11]
    cases decide (s ≤ a1) with
    | false => exact Gr.refl _ _
    | true =>
     simp only [cond_true, Ab.on]
     obtain ⟨w, e, h1, h2⟩ := ih a (hx a (by simp)).1 (hx a (by simp)).2
     rw [e, Option.bind_some]
     refine Gr.bind (a := a.sz) (b := (r.map TValue.sz).sum) (Gr.add (by omega) (by omega)) (by omega) fun y h3 h4 => ?_
     exact ihl y (fun x hx' => hx x (by simp [hx'])) (by omega) (by omega)
  rw [Z34_qn, addC_ok (by omega), Option.bind_some]
  simp only [Ab.on]
  obtain ⟨x, e1, x1, x2⟩ := keys_w a1 v.FKeys.l (1 + (v.FText.length : Int)) (by omega) (by omega)
  rw [e1, Option.bind_some]
  obtain ⟨y, e2, y1, y2⟩ := hl v.FItems.l x (fun z hz => by have := TValue.item_lt hz; omega) (by omega) (by omega)
  rw [e2]
  exact ⟨y, rfl, by omega, by omega⟩
theorem value_W (a1 : Int) (v : TValue) (h : v.sz ≤ 1048576) : Gr (Z34_q v a1) 0 v.sz := value_w a1 F0 v (by rw [F0_eq]; omega) h
theorem u8_small {n : Nat} (h : n < 256) : IntKind.wrap .u8 (n : Int) = (n : Int) := by
 have : (n : Int) % 256 = n := by omega
 simp [IntKind.wrap, IntKind.bits, IntKind.signed]; omega
theorem bytes_one (k : Nat) : bytesC (⟨false, [((48 + k : Nat) : Int)]⟩ : Sl Int) = [UInt8.ofNat (48 + k)] := by
 show [UInt8.ofNat ((48 + k : Nat) : Int).toNat] = _
 rw [Int.toNat_natCast]
theorem dlen : ∀ (f u : Nat), u < 10 ^ f → (Lib.decDigits u).length ≤ f + 1 := by
 intro f
 induction f with
 | zero =>
  intro u hu
  have : u = 0 := by simpa using hu
  subst this; rw [Lib.decDigits]; simp
 | succ f ih =>
  intro u hu
  rw [Lib.decDigits]
  split
  ·simp
  ·have := ih (u / 10) (by rw [Nat.pow_succ] at hu; omega)
   simp; omega
theorem dlen20 {u : Nat} (h : u ≤ 9223372036854775808) : (Lib.decDigits u).length ≤ 21 := dlen 20 u (by omega)
theorem itoaLen {n : Int} (h0 : -9223372036854775808 ≤ n) (h1 : n ≤ 9223372036854775807) : (Lib.itoa n).length ≤ 22 := by
 unfold Lib.itoa
 split
 ·have := dlen20 (u := n.natAbs) (by omega); simp; omega
 ·have := dlen20 (u := n.toNat) (by omega); omega
theorem digits_eq : ∀ (f u : Nat), u < 10 ^ f → u ≤ 9223372036854775808 → f ≤ 30 → ∀ m, f + 1 ≤ m → Z22_qn m (-(u : Int)) = some (Lib.decDigits u) := by
 intro f
 induction f with
 | zero =>
  intro u hu hb hf m hm
  have : u = 0 := by simpa using hu
  subst this
  obtain ⟨m, rfl⟩ : ∃ k, m = k + 1 := ⟨m - 1, by omega⟩
  rw [Lib.decDigits]; rfl
 | succ f ih =>
  intro u hu hb hf m hm
  obtain ⟨m, rfl⟩ : ∃ k, m = k + 1 := ⟨m - 1, by omega⟩
  have h1 : Int.tmod (-(u : Int)) 10 = -((u % 10 : Nat) : Int) := by rw [Int.neg_tmod]; rfl
  have h2 : Int.tdiv (-(u : Int)) 10 = -((u / 10 : Nat) : Int) := by rw [Int.neg_tdiv]; rfl
  rw [Z22_qn, h1, h2, subC_ok (by omega), Option.bind_some]
  have h3 : (48 : Int) - -((u % 10 : Nat) : Int) = ((48 + u % 10 : Nat) : Int) := by omega
  rw [h3, u8_small (by omega), Lib.decDigits]
  by_cases hs : u < 10
  ·rw [dif_pos hs, show decide ((-10 : Int) < -(u : Int)) = true from decide_eq_true (by omega), cond_true, Nat.mod_eq_of_lt hs, bytes_one]
  ·rw [dif_neg hs, show decide ((-10 : Int) < -(u : Int)) = false from decide_eq_false (by omega), cond_false, IntWalk.i64_in _ (by omega), ih (u / 10) (by rw [Nat.pow_succ] at hu; omega) (by omega) (by omega) m (by omega), Option.bind_some]
   have hl := dlen20 (u := u / 10) (by omega)
   rw [bytes_one, catC_ok (by simp; omega), Option.bind_some]
theorem decimal_eq {n : Int} (h0 : -9223372036854775808 ≤ n) (h1 : n ≤ 9223372036854775807) : Z18_q n = some (Lib.itoa n) := by
 unfold Z18_q Z22_q
 have hF : ∀ u : Nat, u ≤ 9223372036854775808 → Z22_qn F0 (-(u : Int)) = some (Lib.decDigits u) := fun u hu => digits_eq 20 u (by omega) hu (by omega) F0 (by rw [F0_eq]; omega)
 by_cases hn : n < 0
 ·obtain ⟨u, rfl⟩ : ∃ u : Nat, n = -(u : Int) := ⟨n.natAbs, by omega⟩
  rw [show decide (-(u : Int) < 0) = true from decide_eq_true hn, cond_true, hF u (by omega), Option.bind_some]
  have hl := dlen20 (u := u) (by omega)
  rw [catC_ok (by simp; omega), Option.bind_some]
  unfold Lib.itoa; rw [if_pos hn, show (-(u : Int)).natAbs = u by omega]; rfl
 ·obtain ⟨u, rfl⟩ : ∃ u : Nat, n = (u : Int) := ⟨n.natAbs, by omega⟩
  rw [show decide ((u : Int) < 0) = false from decide_eq_false hn, cond_false, IntWalk.i64_in _ (by omega), show (0 : Int) - (u : Int) = -(u : Int) by omega, hF u (by omega), Option.bind_some]
  unfold Lib.itoa; rw [if_neg hn, Int.toNat_natCast]
theorem textDecimal_eq {n : Int} (h0 : -9223372036854775808 ≤ n) (h1 : n ≤ 9223372036854775807) : Z56_q n = some (Lib.itoa n) := by
 unfold Z56_q Z50_q Z50
 rw [if_pos ⟨h0, h1, by have := itoaLen h0 h1; unfold maxS; omega⟩]; rfl
theorem guardE {α β : Type} {c : Bool} {o : Option α} {d : α} {k : α → Option β} {z : β} (h : guardO c o d k = some z) : (c = true ∧ ∃ v, o = some v ∧ k v = some z) ∨ (c = false ∧ k d = some z) := by
 unfold guardO at h
 cases c with
 | true => obtain ⟨v, e, h⟩ := bindO_some (by simpa using h); exact .inl ⟨rfl, v, e, h⟩
 | false => exact .inr ⟨rfl, by simpa using h⟩
theorem literal_is {v : TValue} (h : Z27_q v = some true) : Z32_qn F0 v true = some true := by
 unfold Z27_q at h
 obtain ⟨a, _, h⟩ := bindO_some h
 rcases guardE h with ⟨_, b, _, h⟩ | ⟨_, h⟩
 ·rcases guardE h with ⟨_, c, e, h⟩ | ⟨_, h⟩
  ·simp at h; rw [h.2] at e; exact e
  ·simp at h
 ·rcases guardE h with ⟨_, c, e, h⟩ | ⟨_, h⟩
  ·simp at h; rw [h.2] at e; exact e
  ·simp at h
theorem right_is {v : TValue} (h : Z28_q v = some true) : Z32_qn F0 v false = some true := by
 unfold Z28_q at h
 obtain ⟨a, _, h⟩ := bindO_some h
 rcases guardE h with ⟨_, b, _, h⟩ | ⟨_, h⟩
 ·rcases guardE h with ⟨_, c, e, h⟩ | ⟨_, h⟩
  ·simp at h; rw [h.2] at e; exact e
  ·simp at h
 ·rcases guardE h with ⟨_, c, e, h⟩ | ⟨_, h⟩
  ·simp at h; rw [h.2] at e; exact e
  ·simp at h
end Go.Proofs

namespace Go.Proofs
open Go Go.Ab
theorem all_u8 {p : UInt8 → Prop} (h : ∀ i : Fin 256, p (UInt8.ofNat i.val)) (c : UInt8) : p c := by
 have := h ⟨c.toNat, c.toNat_lt⟩
 simpa using this
def hx (n : Nat) : UInt8 := if n < 10 then UInt8.ofNat (48 + n) else UInt8.ofNat (87 + n)
def esc (c : UInt8) : Bs := if c = 34 then [92, 34] else if c = 92 then [92, 92] else if c = 10 then [92, 110] else if c = 13 then [92, 114] else if c = 9 then [92, 116] else if 32 ≤ c.toNat ∧ c.toNat ≤ 126 then [c] else [92, 117, 48, 48, hx (c.toNat / 16), hx (c.toNat % 16)]
def qt (s : Bs) : Bs := 34 :: (s.flatMap esc ++ [34])
theorem esc_len (c : UInt8) : (esc c).length ≤ 6 := by
 unfold esc; repeat' split
 all_goals simp
theorem flat_len (s : Bs) : (s.flatMap esc).length ≤ 6 * s.length := by
 induction s with
 | nil => simp
 | cons a r ih => have := esc_len a; simp only [List.flatMap_cons, List.length_append, List.length_cons]; omega
theorem qt_len (s : Bs) : (qt s).length ≤ 6 * s.length + 2 := by have := flat_len s; simp only [qt, List.length_append, List.length_cons, List.length_nil]; omega
theorem escape_eq (c : UInt8) : Z23_q ((c.toNat : Nat) : Int) = some (esc c) := by
 revert c
 apply all_u8
 decide +kernel
theorem quote_loop : ∀ (s : Bs) (o : Bs), o.length + 6 * s.length ≤ 1099511627776 → Z20_q8 s o = some (o ++ s.flatMap esc) := by
 intro s
 induction s with
 | nil => intro o _; simp [Z20_q8]
 | cons a r ih =>
  intro o h
  have := esc_len a
  simp only [List.length_cons] at h
  rw [Z20_q8]
  simp only [Ab.on]
  rw [escape_eq, Option.bind_some, catC_ok (by omega), Option.bind_some, ih _ (by simp; omega)]
  simp
theorem rquote_eq (s : Bs) (h : s.length ≤ 1048576) : Z20_q s = some (qt s) := by
 have hf := flat_len s
 unfold Z20_q
 rw [quote_loop _ _ (by simp; omega), Option.bind_some]
 simp only [Ab.on]
 rw [catC_ok (by simp only [List.length_append, List.length_cons, List.length_nil]; omega)]
 simp [qt]
def bb (l : Bs) : Strings_Builder := ⟨true, ⟨false, l.map fun b => (b.toNat : Int)⟩⟩
theorem bb_len (l : Bs) : (bb l).Fbuf.l.length = l.length := by simp [bb]
theorem wb_eq (l : Bs) (c : UInt8) (h : l.length ≤ 1099511627000) : Z52_q (bb l) ((c.toNat : Nat) : Int) = some ((), bb (l ++ [c])) := by
 unfold Z52_q Z54_q
 rw [Option.bind_some, appC_ok (by decide) (by show (bb l).Fbuf.l.length + 1 ≤ _; rw [bb_len]; omega), Option.bind_some]
 simp [bb]
theorem ws_eq (l s : Bs) (h : l.length + s.length ≤ 1099511627000) : ∃ k, Z53_q (bb l) s = some (k, (), bb (l ++ s)) := by
 unfold Z53_q Z54_q
 rw [Option.bind_some, appC_ok (by decide) (by show (bb l).Fbuf.l.length + _ ≤ _; rw [bb_len, strSl_len]; omega), Option.bind_some]
 exact ⟨(s.length : Nat), by simp [bb, strSl]⟩
theorem str_eq (l : Bs) (h : l ≠ []) : Z51_q (bb l) = some l := by
 unfold Z51_q bldStr
 have h1 : (bb l).Fbuf.l.all (fun n => decide (0 ≤ n ∧ n < 256)) = true := by
  rw [List.all_eq_true]
  intro x hx
  obtain ⟨b, _, rfl⟩ := List.mem_map.1 hx
  have := b.toNat_lt
  exact decide_eq_true ⟨by omega, by omega⟩
 rw [if_pos ⟨h1, .inr ⟨rfl, by simp [bb, h]⟩⟩]
 have : bytesC (bb l).Fbuf = l := by
  unfold bytesC bb
  rw [List.map_map]
  conv => rhs; rw [← List.map_id l]
  refine List.map_congr_left fun b _ => ?_
  simp
 rw [this]
theorem hexHi (c : UInt8) : idxC ([48, 49, 50, 51, 52, 53, 54, 55, 56, 57, 97, 98, 99, 100, 101, 102] : Bs) (Int.fdiv ((c.toNat : Nat) : Int) (2 ^ (min (Int.toNat 4) (IntKind.bits .u8)))) = some (hx (c.toNat / 16)) := by
 revert c
 apply all_u8
 decide +kernel
theorem hexLo (c : UInt8) : idxC ([48, 49, 50, 51, 52, 53, 54, 55, 56, 57, 97, 98, 99, 100, 101, 102] : Bs) (IntKind.wrap .u8 ((BitVec.ofInt (IntKind.bits .u8) ((c.toNat : Nat) : Int) &&& BitVec.ofInt (IntKind.bits .u8) (15 : Int)).toNat : Int)) = some (hx (c.toNat % 16)) := by
 revert c
 apply all_u8
 decide +kernel
theorem u8_ne {c d : UInt8} : decide (((c.toNat : Nat) : Int) = ((d.toNat : Nat) : Int)) = decide (c = d) := by
 by_cases h : c = d
 ·subst h; simp
 ·rw [decide_eq_false h, decide_eq_false]
  intro e; exact h (UInt8.toNat_inj.1 (by omega))
theorem tquote_loop : ∀ (s : Bs) (o : Bs), o.length + 6 * s.length ≤ 1099511626000 → Z57_q15 s (bb o) = some (bb (o ++ s.flatMap esc)) := by
 intro s
 induction s with
 | nil => intro o _; simp [Z57_q15]
 | cons a r ih =>
  intro o h
  have hel := esc_len a
  simp only [List.length_cons] at h
  have fin : ∀ x : Bs, x = esc a → Z57_q15 r (bb (o ++ x)) = some (bb (o ++ (a :: r).flatMap esc)) := by
   rintro _ rfl
   rw [ih _ (by simp; omega)]; simp
  have e34 := u8_ne (c := a) (d := 34); have e92 := u8_ne (c := a) (d := 92); have e10 := u8_ne (c := a) (d := 10); have e13 := u8_ne (c := a) (d := 13); have e9 := u8_ne (c := a) (d := 9)
  rw [Z57_q15]
  simp only [Ab.on]
  rw [show (34 : Int) = (((34 : UInt8).toNat : Nat) : Int) from rfl, e34, show (92 : Int) = (((92 : UInt8).toNat : Nat) : Int) from rfl, e92, show (10 : Int) = (((10 : UInt8).toNat : Nat) : Int) from rfl, e10, show (13 : Int) = (((13 : UInt8).toNat : Nat) : Int) from rfl, e13, show (9 : Int) = (((9 : UInt8).toNat : Nat) : Int) from rfl, e9]
  by_cases c1 : a = 34
  ·rw [decide_eq_true c1, cond_true, cond_true, wb_eq _ _ (by omega), Option.bind_some, wb_eq _ _ (by simp; omega), Option.bind_some, Option.bind_some]
   simp only [List.append_assoc]
   exact fin _ (by rw [c1]; rfl)
  rw [decide_eq_false c1, cond_false]
  by_cases c2 : a = 92
  ·rw [decide_eq_true c2, cond_true, wb_eq _ _ (by omega), Option.bind_some, wb_eq _ _ (by simp; omega), Option.bind_some, Option.bind_some]
   simp only [List.append_assoc]
   exact fin _ (by rw [c2]; rfl)
  rw [decide_eq_false c2, cond_false]
  by_cases c3 : a = 10
  ·obtain ⟨k, e⟩ := ws_eq o [92, 110] (by simp; omega)
   rw [decide_eq_true c3, cond_true, e, Option.bind_some, Option.bind_some]
   exact fin _ (by rw [c3]; rfl)
  rw [decide_eq_false c3, cond_false]
  by_cases c4 : a = 13
  ·obtain ⟨k, e⟩ := ws_eq o [92, 114] (by simp; omega)
   rw [decide_eq_true c4, cond_true, e, Option.bind_some, Option.bind_some]
   exact fin _ (by rw [c4]; rfl)
  rw [decide_eq_false c4, cond_false]
  by_cases c5 : a = 9
  ·obtain ⟨k, e⟩ := ws_eq o [92, 116] (by simp; omega)
   rw [decide_eq_true c5, cond_true, e, Option.bind_some, Option.bind_some]
   exact fin _ (by rw [c5]; rfl)
  rw [decide_eq_false c5, cond_false]
  have he : esc a = if 32 ≤ a.toNat ∧ a.toNat ≤ 126 then [a] else [92, 117, 48, 48, hx (a.toNat / 16), hx (a.toNat % 16)] := by
   unfold esc; rw [if_neg c1, if_neg c2, if_neg c3, if_neg c4, if_neg c5]
  by_cases c6 : 32 ≤ a.toNat ∧ a.toNat ≤ 126
  ·rw [show ((decide ((32 : Int) ≤ ((a.toNat : Nat) : Int))) && (decide (((a.toNat : Nat) : Int) ≤ (126 : Int)))) = true by simp; omega, cond_true, wb_eq _ _ (by omega), Option.bind_some, Option.bind_some]
   exact fin _ (by rw [he, if_pos c6])
  ·rw [show ((decide ((32 : Int) ≤ ((a.toNat : Nat) : Int))) && (decide (((a.toNat : Nat) : Int) ≤ (126 : Int)))) = false by simp; omega, cond_false]
   obtain ⟨k, e⟩ := ws_eq o [92, 117, 48, 48] (by simp; omega)
   rw [e, Option.bind_some, hexHi, Option.bind_some, wb_eq _ _ (by simp; omega), Option.bind_some, hexLo, Option.bind_some, wb_eq _ _ (by simp; omega), Option.bind_some, Option.bind_some]
   simp only [List.append_assoc]
   exact fin _ (by rw [he, if_neg c6]; rfl)
theorem tquote_eq (s : Bs) (h : s.length ≤ 1048576) : Z57_q s = some (qt s) := by
 have hf := flat_len s
 unfold Z57_q
 have h0 : Z52_q Strings_Builder.zero (34 : Int) = some ((), bb [34]) := by rfl
 rw [h0, Option.bind_some, tquote_loop _ _ (by simp; omega), Option.bind_some]
 simp only [Ab.on]
 rw [show (34 : Int) = (((34 : UInt8).toNat : Nat) : Int) from rfl, wb_eq _ _ (by simp only [List.length_append, List.length_cons, List.length_nil]; omega), Option.bind_some, str_eq _ (by simp)]
 simp [qt]
end Go.Proofs

namespace Go.Proofs
open Go Go.Ab
def sepB : Bs := [44, 32]
mutual
def wr : TValue → Bs
 | .mk k i t _ items keys => if k = 0 then [110, 117, 108, 108] else if k = 1 then (if i = 0 then [102, 97, 108, 115, 101] else [116, 114, 117, 101]) else if k = 2 then Lib.itoa i else if k = 3 then qt t else if k = 4 then t else if k = 7 then 36 :: t else
  if k = 5 then 91 :: (Lib.join (wrL items) sepB ++ [93]) else if k = 6 then 123 :: (Lib.join (List.zipWith (fun a b => a ++ [58, 32] ++ b) keys.l (wrL items)) sepB ++ [125]) else []
def wrL : List TValue → List Bs
 | [] => []
 | v :: r => wr v :: wrL r
end
theorem wrL_eq (l : List TValue) : wrL l = l.map wr := by
 induction l with
 | nil => rw [wrL]; rfl
 | cons a r ih => rw [wrL, ih]; rfl
def pairB (a b : Bs) : Bs := a ++ [58, 32] ++ b
theorem wr_eq (v : TValue) : wr v = if v.FKind = 0 then [110, 117, 108, 108] else if v.FKind = 1 then (if v.FInt = 0 then [102, 97, 108, 115, 101] else [116, 114, 117, 101]) else if v.FKind = 2 then Lib.itoa v.FInt else if v.FKind = 3 then qt v.FText else if v.FKind = 4 then v.FText else if v.FKind = 7 then 36 :: v.FText else
  if v.FKind = 5 then 91 :: (Lib.join (v.FItems.l.map wr) sepB ++ [93]) else if v.FKind = 6 then 123 :: (Lib.join (List.zipWith pairB v.FKeys.l (v.FItems.l.map wr)) sepB ++ [125]) else [] := by
 cases v with
 | mk k i t nl items keys =>
  rw [wr]
  simp only [TValue.FKind, TValue.FInt, TValue.FText, TValue.FItems, TValue.FKeys, wrL_eq]
  rfl
theorem tail_len (r : List Bs) : (Lib.joinTail sepB r).length = (r.map fun x => x.length + 2).sum := by
 induction r with
 | nil => rfl
 | cons a r ih =>
  have : Lib.joinTail sepB (a :: r) = sepB ++ a ++ Lib.joinTail sepB r := by simp [Lib.joinTail]
  have h2 : sepB.length = 2 := rfl
  rw [this, List.length_append, List.length_append, ih, List.map_cons, List.sum_cons]; omega
theorem join_len (l : List Bs) : (Lib.join l sepB).length ≤ (l.map fun x => x.length + 2).sum := by
 cases l with
 | nil => rw [Lib.join_nil]; simp
 | cons a r => rw [Lib.join_cons]; simp only [List.length_append, tail_len, List.map_cons, List.sum_cons]; omega
theorem sum_le {α : Type} (f g : α → Nat) : ∀ (l : List α), (∀ x ∈ l, f x ≤ g x) → (l.map f).sum ≤ (l.map g).sum
 | [], _ => by simp
 | a :: r, h => by have := h a (by simp); have := sum_le f g r fun x hx => h x (by simp [hx]); simp only [List.map_cons, List.sum_cons]; omega
theorem zip_sum : ∀ (ks : List Bs) (ws : List Bs), ((List.zipWith pairB ks ws).map fun x => x.length + 2).sum ≤ (ks.map Bs.sz).sum + (ws.map fun x => x.length + 4).sum
 | [], _ => by simp
 | _ :: _, [] => by simp
 | a :: r, b :: t => by
  have := zip_sum r t
  have h2 : (pairB a b).length = a.length + 2 + b.length := by simp [pairB]; omega
  have h3 : Bs.sz a = a.length + 1 := rfl
  simp only [List.zipWith_cons_cons, List.map_cons, List.sum_cons, h2, h3]; omega
theorem mul_sum {α : Type} (f : α → Nat) (k : Nat) (l : List α) : (l.map fun x => k * f x).sum = k * (l.map f).sum := by
 induction l with
 | nil => simp
 | cons a r ih => simp only [List.map_cons, List.sum_cons, ih, Nat.mul_add]
theorem count_le (l : List TValue) : l.length ≤ (l.map TValue.sz).sum := by
 induction l with
 | nil => simp
 | cons a r ih => have := a.pos; simp only [List.length_cons, List.map_cons, List.sum_cons]; omega
theorem wr_len (n : Nat) : ∀ v : TValue, v.sz < n → v.wf → (wr v).length + 4 ≤ 32 * v.sz := by
 induction n with
 | zero => intro v h; omega
 | succ n ih =>
  intro v hn hw
  have hd := v.sz_def
  have ht : Bs.sz v.FText = v.FText.length + 1 := rfl
  have hk : Sl.sz Bs.sz v.FKeys = 1 + (v.FKeys.l.map Bs.sz).sum := rfl
  have hi : Sl.sz TValue.sz v.FItems = 1 + (v.FItems.l.map TValue.sz).sum := rfl
  have hwf := (TValue.wf_iff v).1 hw
  have hit : ((v.FItems.l.map wr).map fun x => x.length + 4).sum ≤ 32 * (v.FItems.l.map TValue.sz).sum := by
   rw [List.map_map, ← mul_sum]
   exact sum_le _ _ _ fun x hx => ih x (by have := TValue.item_lt hx; omega) (hwf.2.2.2.1.2.2 x hx)
  have hi2 : ((v.FItems.l.map wr).map fun x => x.length + 2).sum ≤ ((v.FItems.l.map wr).map fun x => x.length + 4).sum := sum_le _ _ _ fun _ _ => by omega
  have hin : (Lib.itoa v.FInt).length ≤ 22 := itoaLen hwf.2.1.1 hwf.2.1.2
  have hj := join_len (v.FItems.l.map wr)
  have hz := join_len (List.zipWith pairB v.FKeys.l (v.FItems.l.map wr))
  have hz2 := zip_sum v.FKeys.l (v.FItems.l.map wr)
  have hq := qt_len v.FText
  rw [wr_eq]
  repeat' split
  all_goals (try simp only [List.length_cons, List.length_append, List.length_nil]) <;> omega
theorem join_eq (nl : Bool) (l : List Bs) (h : l.length ≤ 1099511627776 ∧ (Lib.join l sepB).length ≤ 1099511627776) : Z55 ⟨nl, l⟩ ([44, 32] : Bs) = some (Lib.join l sepB) := by
 unfold Z55 joinA
 have h1 : l.length ≤ maxN := by unfold maxN; omega
 have h2 : (Lib.join l [44, 32]).length ≤ maxN := by have := h.2; unfold sepB at this; unfold maxN; omega
 rw [if_pos ⟨h1, h2⟩]; rfl
theorem tail_cons (a : Bs) (r : List Bs) : Lib.joinTail sepB (a :: r) = sepB ++ (a ++ Lib.joinTail sepB r) := by simp [Lib.joinTail]
theorem rlist_loop (rec : TValue → Option Bs) : ∀ (l : List TValue) (i : Nat) (o : Bs), (∀ x ∈ l, rec x = some (wr x)) → o.length + ((l.map wr).map fun x => x.length + 2).sum ≤ 1099511627776 →
  Z36_q37 rec l i o = some (o ++ if i = 0 then Lib.join (l.map wr) sepB else Lib.joinTail sepB (l.map wr)) := by
 intro l
 induction l with
 | nil => intro i o _ _; rw [Z36_q37]; split <;> simp [Lib.join_nil, Lib.joinTail]
 | cons a r ih =>
  intro i o hx h
  simp only [List.map_cons, List.sum_cons] at h
  rw [Z36_q37]
  simp only [Ab.on]
  have ha := hx a (by simp)
  have hr := fun x hx' => hx x (List.mem_cons_of_mem _ hx')
  by_cases hi : i = 0
  ·rw [show decide ((0 : Int) < ((i : Nat) : Int)) = false from decide_eq_false (by omega), cond_false, Option.bind_some, ha, Option.bind_some, catC_ok (by omega), Option.bind_some, ih (i + 1) _ hr (by simp only [List.length_append, List.length_cons, List.length_nil]; omega), if_neg (by omega), if_pos hi, List.map_cons, Lib.join_cons]
   simp
  ·rw [show decide ((0 : Int) < ((i : Nat) : Int)) = true from decide_eq_true (by omega), cond_true, catC_ok (by simp only [List.length_append, List.length_cons, List.length_nil]; omega), Option.bind_some, Option.bind_some, ha, Option.bind_some, catC_ok (by simp only [List.length_append, List.length_cons, List.length_nil]; omega), Option.bind_some, ih (i + 1) _ hr (by simp only [List.length_append, List.length_cons, List.length_nil]; omega), if_neg (by omega), if_neg hi, List.map_cons, tail_cons]
   simp [sepB]
theorem robj_loop (a0 : TValue) (rec : TValue → Option Bs) : ∀ (l : List TValue) (i : Nat) (o : Bs), (∀ x ∈ l, rec x = some (wr x)) → o.length + ((List.zipWith pairB (a0.FKeys.l.drop i) (l.map wr)).map fun x => x.length + 2).sum ≤ 1099511627776 →
  Z36_q62 a0 rec l i o = some (o ++ if i = 0 then Lib.join (List.zipWith pairB (a0.FKeys.l.drop i) (l.map wr)) sepB else Lib.joinTail sepB (List.zipWith pairB (a0.FKeys.l.drop i) (l.map wr))) := by
 intro l
 induction l with
 | nil => intro i o _ _; rw [Z36_q62]; split <;> simp [Lib.join_nil, Lib.joinTail]
 | cons a r ih =>
  intro i o hx h
  rw [Z36_q62]
  simp only [Ab.on]
  by_cases hk : i < a0.FKeys.l.length
  ·rw [List.drop_eq_getElem_cons hk] at h ⊢
   have h2 : (pairB a0.FKeys.l[i] (wr a)).length = a0.FKeys.l[i].length + 2 + (wr a).length := by simp [pairB]; omega
   simp only [List.map_cons, List.zipWith_cons_cons, List.sum_cons, h2] at h ⊢
   have ha := hx a (by simp)
   have hr := fun x hx' => hx x (List.mem_cons_of_mem _ hx')
   rw [show decide (((i : Nat) : Int) < ((a0.FKeys.l.length : Nat) : Int)) = true from decide_eq_true (by omega), cond_true]
   by_cases hi : i = 0
   ·rw [show decide ((0 : Int) < ((i : Nat) : Int)) = false from decide_eq_false (by omega), cond_false, Option.bind_some, List.getElem?_eq_getElem hk, Option.bind_some, catC_ok (by omega), Option.bind_some, catC_ok (by simp only [List.length_append, List.length_cons, List.length_nil]; omega), Option.bind_some, ha, Option.bind_some, catC_ok (by simp only [List.length_append, List.length_cons, List.length_nil]; omega), Option.bind_some, ih (i + 1) _ hr (by simp only [List.length_append, List.length_cons, List.length_nil]; omega), if_neg (by omega), if_pos hi, Lib.join_cons]
    simp [pairB]
   ·rw [show decide ((0 : Int) < ((i : Nat) : Int)) = true from decide_eq_true (by omega), cond_true, catC_ok (by simp only [List.length_append, List.length_cons, List.length_nil]; omega), Option.bind_some, Option.bind_some, List.getElem?_eq_getElem hk, Option.bind_some, catC_ok (by simp only [List.length_append, List.length_cons, List.length_nil]; omega), Option.bind_some, catC_ok (by simp only [List.length_append, List.length_cons, List.length_nil]; omega), Option.bind_some, ha, Option.bind_some, catC_ok (by simp only [List.length_append, List.length_cons, List.length_nil]; omega), Option.bind_some, ih (i + 1) _ hr (by simp only [List.length_append, List.length_cons, List.length_nil]; omega), if_neg (by omega), if_neg hi, tail_cons]
    simp [pairB, sepB]
  ·rw [show decide (((i : Nat) : Int) < ((a0.FKeys.l.length : Nat) : Int)) = false from decide_eq_false (by omega), cond_false, List.drop_of_length_le (by omega)]
   simp [Lib.join_nil, Lib.joinTail]
theorem rwrite_n (n : Nat) : ∀ v : TValue, v.sz < n → v.sz ≤ 1048576 → v.wf → Z36_qn n v = some (wr v) := by
 induction n with
 | zero => intro v h; omega
 | succ n ih =>
  intro v hn hs hw
  have hd := v.sz_def
  have ht : Bs.sz v.FText = v.FText.length + 1 := rfl
  have hk : Sl.sz Bs.sz v.FKeys = 1 + (v.FKeys.l.map Bs.sz).sum := rfl
  have hi : Sl.sz TValue.sz v.FItems = 1 + (v.FItems.l.map TValue.sz).sum := rfl
  have hwf := (TValue.wf_iff v).1 hw
  have hrec : ∀ x ∈ v.FItems.l, Z36_qn n x = some (wr x) := fun x hx => ih x (by have := TValue.item_lt hx; omega) (by have := TValue.item_lt hx; omega) (hwf.2.2.2.1.2.2 x hx)
  have hit : ((v.FItems.l.map wr).map fun x => x.length + 4).sum ≤ 32 * (v.FItems.l.map TValue.sz).sum := by
   rw [List.map_map, ← mul_sum]
   exact sum_le _ _ _ fun x hx => wr_len (x.sz + 1) x (by omega) (hwf.2.2.2.1.2.2 x hx)
  have hi2 : ((v.FItems.l.map wr).map fun x => x.length + 2).sum ≤ ((v.FItems.l.map wr).map fun x => x.length + 4).sum := sum_le _ _ _ fun _ _ => by omega
  have hz2 := zip_sum v.FKeys.l (v.FItems.l.map wr)
  have hj := join_len (v.FItems.l.map wr)
  have hz := join_len (List.zipWith pairB v.FKeys.l (v.FItems.l.map wr))
  rw [Z36_qn, wr_eq]
  by_cases c0 : v.FKind = 0
  ·rw [if_pos c0, decide_eq_true c0, cond_true]
  rw [if_neg c0, decide_eq_false c0, cond_false]
  by_cases c1 : v.FKind = 1
  ·rw [if_pos c1, decide_eq_true c1, cond_true]
   by_cases c : v.FInt = 0
   ·rw [if_pos c, decide_eq_true c, cond_true]
   ·rw [if_neg c, decide_eq_false c, cond_false]
  rw [if_neg c1, decide_eq_false c1, cond_false]
  by_cases c2 : v.FKind = 2
  ·rw [if_pos c2, decide_eq_true c2, cond_true, decimal_eq hwf.2.1.1 hwf.2.1.2, Option.bind_some]
  rw [if_neg c2, decide_eq_false c2, cond_false]
  by_cases c3 : v.FKind = 3
  ·rw [if_pos c3, decide_eq_true c3, cond_true, rquote_eq _ (by omega), Option.bind_some]
  rw [if_neg c3, decide_eq_false c3, cond_false]
  by_cases c4 : v.FKind = 4
  ·rw [if_pos c4, decide_eq_true c4, cond_true]
  rw [if_neg c4, decide_eq_false c4, cond_false]
  by_cases c7 : v.FKind = 7
  ·rw [if_pos c7, decide_eq_true c7, cond_true, catC_ok (by simp; omega), Option.bind_some]; rfl
  rw [if_neg c7, decide_eq_false c7, cond_false]
  by_cases c5 : v.FKind = 5
  ·rw [if_pos c5, decide_eq_true c5, cond_true, rlist_loop _ _ _ _ hrec (by simp only [List.length_cons, List.length_nil]; omega), Option.bind_some, if_pos rfl]
   simp only [Ab.on]
   rw [catC_ok (by simp only [List.length_append, List.length_cons, List.length_nil]; omega), Option.bind_some]; rfl
  rw [if_neg c5, decide_eq_false c5, cond_false]
  by_cases c6 : v.FKind = 6
  ·rw [if_pos c6, decide_eq_true c6, cond_true, robj_loop _ _ _ _ _ hrec (by simp only [List.length_cons, List.length_nil, List.drop_zero]; omega), Option.bind_some, if_pos rfl]
   simp only [Ab.on, List.drop_zero]
   rw [catC_ok (by simp only [List.length_append, List.length_cons, List.length_nil]; omega), Option.bind_some]; rfl
  rw [if_neg c6, decide_eq_false c6, cond_false]
theorem j32_eq (s : Sl Bs) (h : s.l.length ≤ 1099511627776 ∧ (Lib.join s.l sepB).length ≤ 1099511627000) : Z15_j32 s = some (91 :: (Lib.join s.l sepB ++ [93])) := by
 unfold Z15_j32
 obtain ⟨nl, l⟩ := s
 have h : l.length ≤ 1099511627776 ∧ (Lib.join l sepB).length ≤ 1099511627000 := h
 rw [join_eq nl l ⟨h.1, by omega⟩, Option.bind_some, catC_ok (by simp only [List.length_cons, List.length_nil]; omega), Option.bind_some, catC_ok (by simp only [List.length_append, List.length_cons, List.length_nil]; omega), Option.bind_some]; rfl
theorem j53_eq (s : Sl Bs) (h : s.l.length ≤ 1099511627776 ∧ (Lib.join s.l sepB).length ≤ 1099511627000) : Z15_j53 s = some (123 :: (Lib.join s.l sepB ++ [125])) := by
 unfold Z15_j53
 obtain ⟨nl, l⟩ := s
 have h : l.length ≤ 1099511627776 ∧ (Lib.join l sepB).length ≤ 1099511627000 := h
 rw [join_eq nl l ⟨h.1, by omega⟩, Option.bind_some, catC_ok (by simp only [List.length_cons, List.length_nil]; omega), Option.bind_some, catC_ok (by simp only [List.length_append, List.length_cons, List.length_nil]; omega), Option.bind_some]; rfl
theorem tlist_loop (a0 : TValue) (rec : TValue → Option Bs) (hx : ∀ x ∈ a0.FItems.l, rec x = some (wr x)) (hl : a0.FItems.l.length ≤ 1048576) : ∀ (n i : Nat) (s : Sl Bs), a0.FItems.l.length < n + i → i ≤ a0.FItems.l.length → s.l = (a0.FItems.l.take i).map wr →
  ∃ t : Sl Bs, t.l = a0.FItems.l.map wr ∧ Z15_l40 a0 rec n s i = Z15_j32 t := by
 intro n
 induction n with
 | zero => intro i s h1 h2; omega
 | succ n ih =>
  intro i s h1 h2 hs
  rw [Z15_l40]
  by_cases hi : i < a0.FItems.l.length
  ·have hsl : s.l.length = i := by rw [hs, List.length_map, List.length_take]; omega
   rw [show decide (((i : Nat) : Int) < ((a0.FItems.l.length : Nat) : Int)) = true from decide_eq_true (by omega), cond_true, List.getElem?_eq_getElem hi, Option.bind_some, hx _ (List.getElem_mem hi), Option.bind_some, appC_ok (by decide) (by show s.l.length + 1 ≤ _; omega), Option.bind_some]
   refine ih (i + 1) _ (by omega) (by omega) ?_
   show s.l ++ [wr a0.FItems.l[i]] = _
   rw [hs, List.take_succ_eq_append_getElem hi, List.map_append]; rfl
  ·rw [show decide (((i : Nat) : Int) < ((a0.FItems.l.length : Nat) : Int)) = false from decide_eq_false (by omega), cond_false]
   exact ⟨s, by rw [hs, List.take_of_length_le (by omega)], rfl⟩
theorem tobj_loop (a0 : TValue) (rec : TValue → Option Bs) (hx : ∀ x ∈ a0.FItems.l, rec x = some (wr x)) (hl : a0.FItems.l.length ≤ 1048576) (hb : ∀ x ∈ a0.FItems.l, (wr x).length ≤ 1099511627) (hkb : ∀ k ∈ a0.FKeys.l, k.length ≤ 1048576) : ∀ (n i : Nat) (s : Sl Bs), a0.FItems.l.length < n + i → i ≤ a0.FItems.l.length → i ≤ a0.FKeys.l.length → s.l = (List.zipWith pairB a0.FKeys.l (a0.FItems.l.map wr)).take i →
  ∃ t : Sl Bs, t.l = List.zipWith pairB a0.FKeys.l (a0.FItems.l.map wr) ∧ Z15_l62 a0 rec n s (i : Int) = Z15_j53 t := by
 intro n
 induction n with
 | zero => intro i s h1 h2; omega
 | succ n ih =>
  intro i s h1 h2 h3 hs
  have hz : (List.zipWith pairB a0.FKeys.l (a0.FItems.l.map wr)).length = min a0.FKeys.l.length a0.FItems.l.length := by rw [List.length_zipWith, List.length_map]
  have hmin : (if ((a0.FItems.l.length : Nat) : Int) < ((a0.FKeys.l.length : Nat) : Int) then ((a0.FItems.l.length : Nat) : Int) else ((a0.FKeys.l.length : Nat) : Int)) = ((min a0.FKeys.l.length a0.FItems.l.length : Nat) : Int) := by split <;> omega
  rw [Z15_l62, hmin]
  by_cases hi : i < min a0.FKeys.l.length a0.FItems.l.length
  ·have hk : i < a0.FKeys.l.length := by omega
   have hi2 : i < a0.FItems.l.length := by omega
   have hsl : s.l.length = i := by rw [hs, List.length_take, hz]; omega
   have e1 : idxC a0.FKeys.l (i : Int) = some a0.FKeys.l[i] := by unfold idxC; rw [if_pos (by omega), Int.toNat_natCast, List.getElem?_eq_getElem hk]
   have e2 : idxC a0.FItems.l (i : Int) = some a0.FItems.l[i] := by unfold idxC; rw [if_pos (by omega), Int.toNat_natCast, List.getElem?_eq_getElem hi2]
   have b1 := hkb _ (List.getElem_mem hk)
   have b2 := hb _ (List.getElem_mem hi2)
   rw [show decide (((i : Nat) : Int) < ((min a0.FKeys.l.length a0.FItems.l.length : Nat) : Int)) = true from decide_eq_true (by omega), cond_true, e1, Option.bind_some, catC_ok (by simp only [List.length_cons, List.length_nil]; omega), Option.bind_some, e2, Option.bind_some, hx _ (List.getElem_mem hi2), Option.bind_some, catC_ok (by simp only [List.length_append, List.length_cons, List.length_nil]; omega), Option.bind_some, appC_ok (by decide) (by show s.l.length + 1 ≤ _; omega), Option.bind_some, addC_ok (by omega), Option.bind_some]
   refine ih (i + 1) _ (by omega) (by omega) (by omega) ?_
   show s.l ++ [a0.FKeys.l[i] ++ [58, 32] ++ wr a0.FItems.l[i]] = _
   rw [hs, List.take_succ_eq_append_getElem (by omega)]
   simp [pairB]
  ·rw [show decide (((i : Nat) : Int) < ((min a0.FKeys.l.length a0.FItems.l.length : Nat) : Int)) = false from decide_eq_false (by omega), cond_false]
   exact ⟨s, by rw [hs, List.take_of_length_le (by omega)], rfl⟩
theorem twrite_n (n : Nat) : ∀ v : TValue, v.sz < n → v.sz ≤ 1048576 → v.wf → Z15_n n v = some (wr v) := by
 induction n with
 | zero => intro v h; omega
 | succ n ih =>
  intro v hn hs hw
  have hd := v.sz_def
  have ht : Bs.sz v.FText = v.FText.length + 1 := rfl
  have hk : Sl.sz Bs.sz v.FKeys = 1 + (v.FKeys.l.map Bs.sz).sum := rfl
  have hi : Sl.sz TValue.sz v.FItems = 1 + (v.FItems.l.map TValue.sz).sum := rfl
  have hwf := (TValue.wf_iff v).1 hw
  have hrec : ∀ x ∈ v.FItems.l, Z15_n n x = some (wr x) := fun x hx => ih x (by have := TValue.item_lt hx; omega) (by have := TValue.item_lt hx; omega) (hwf.2.2.2.1.2.2 x hx)
  have hit : ((v.FItems.l.map wr).map fun x => x.length + 4).sum ≤ 32 * (v.FItems.l.map TValue.sz).sum := by
   rw [List.map_map, ← mul_sum]
   exact sum_le _ _ _ fun x hx => wr_len (x.sz + 1) x (by omega) (hwf.2.2.2.1.2.2 x hx)
  have hi2 : ((v.FItems.l.map wr).map fun x => x.length + 2).sum ≤ ((v.FItems.l.map wr).map fun x => x.length + 4).sum := sum_le _ _ _ fun _ _ => by omega
  have hz2 := zip_sum v.FKeys.l (v.FItems.l.map wr)
  have hj := join_len (v.FItems.l.map wr)
  have hz := join_len (List.zipWith pairB v.FKeys.l (v.FItems.l.map wr))
  have hcount : v.FItems.l.length ≤ 1048576 := by
   have := count_le v.FItems.l; omega
  rw [Z15_n, wr_eq]
  by_cases c0 : v.FKind = 0
  ·rw [if_pos c0, decide_eq_true c0, cond_true]
  rw [if_neg c0, decide_eq_false c0, cond_false]
  by_cases c1 : v.FKind = 1
  ·rw [if_pos c1, decide_eq_true c1, cond_true]
   by_cases c : v.FInt = 0
   ·rw [if_pos c, decide_eq_true c, cond_true]
   ·rw [if_neg c, decide_eq_false c, cond_false]
  rw [if_neg c1, decide_eq_false c1, cond_false]
  by_cases c2 : v.FKind = 2
  ·rw [if_pos c2, decide_eq_true c2, cond_true, Z56_eq, textDecimal_eq hwf.2.1.1 hwf.2.1.2, Option.bind_some]
  rw [if_neg c2, decide_eq_false c2, cond_false]
  by_cases c3 : v.FKind = 3
  ·rw [if_pos c3, decide_eq_true c3, cond_true, Z57_eq, tquote_eq _ (by omega), Option.bind_some]
  rw [if_neg c3, decide_eq_false c3, cond_false]
  by_cases c4 : v.FKind = 4
  ·rw [if_pos c4, decide_eq_true c4, cond_true]
  rw [if_neg c4, decide_eq_false c4, cond_false]
  by_cases c7 : v.FKind = 7
  ·rw [if_pos c7, decide_eq_true c7, cond_true, catC_ok (by simp; omega), Option.bind_some]; rfl
  rw [if_neg c7, decide_eq_false c7, cond_false]
  by_cases c5 : v.FKind = 5
  ·obtain ⟨t, e1, e2⟩ := tlist_loop v _ hrec hcount (v.FItems.l.length + 1) 0 (Sl.nil : Sl Bs) (by omega) (by omega) (by simp [Sl.nil])
   rw [if_pos c5, decide_eq_true c5, cond_true, e2, j32_eq t (by rw [e1, List.length_map]; omega), e1]
  rw [if_neg c5, decide_eq_false c5, cond_false]
  by_cases c6 : v.FKind = 6
  ·have hb1 : ∀ x ∈ v.FItems.l, (wr x).length ≤ 1099511627 := fun x hx => by have := wr_len (x.sz + 1) x (by omega) (hwf.2.2.2.1.2.2 x hx); have := TValue.item_lt hx; omega
   have hb2 : ∀ k ∈ v.FKeys.l, k.length ≤ 1048576 := fun k hk' => by have := Sl.mem_le (f := Bs.sz) hk'; have : Bs.sz k = k.length + 1 := rfl; omega
   obtain ⟨t, e1, e2⟩ := tobj_loop v _ hrec hcount hb1 hb2 F0 0 (Sl.nil : Sl Bs) (by rw [F0_eq]; omega) (by omega) (by omega) (by simp [Sl.nil])
   rw [if_pos c6, decide_eq_true c6, cond_true]
   refine Eq.trans e2 ?_
   rw [j53_eq t (by rw [e1, List.length_zipWith, List.length_map]; omega), e1]
  rw [if_neg c6, decide_eq_false c6, cond_false]
theorem rwrite_eq {v : TValue} (h : v.sz ≤ 1048576) (hw : v.wf) : Z36_q v = some (wr v) := rwrite_n F0 v (by rw [F0_eq]; omega) h hw
theorem twrite_eq {v : TValue} (h : v.sz ≤ 1048576) (hw : v.wf) : Z15 v = some (wr v) := twrite_n F0 v (by rw [F0_eq]; omega) h hw
end Go.Proofs
